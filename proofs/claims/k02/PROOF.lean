import PyProof.Rows.All
import Wide.All
import OpenK.AllK
import Wide.FinOn
import HandS.ForMost
import HandS.ForExc
import HandS.Flow
import HandS.Zip
import HandS.TupAny
import HandS.Deep
import HandS.Rev
import HandS.RevRange
import HandS.TupLe
import HandS.IsInst
import HandS.StrMore
import HandS.More
import HandS.CallSlots
import HandS.Walk
import HandS.SortKw
import HandS.SortInts
import HandS.TryMany
import HandS.Style
import HandS.Defaults
import HandS.HeadHook1
import HandS.HeadHook2
import HandS.Conv
import HandS.SetFor
import HandS.HeadEnd
import KE.KStateDown
import HandS.Head0
import HandS.Head1
import HandS.Head2
import PySem.Challenge.RW_rollcode_k02_what_is_a_key
set_option Elab.async false
set_option linter.all false
set_option maxRecDepth 100000
/-! values without addresses for tuples: what a def of the text does, told over them -/
namespace VL
open PySem PySem.Spec PyProof.Rows L2

inductive LV where
  | non | bl (b : Bool) | int (i : Int) | str (x : Str) | ref (a : Addr) | ty (n : String) | tup (xs : List LV)
  /-- a list that is never written (the script) -/
  | rl (xs : List LV)

/-- the own classes of the text -/
inductive Cn where
  | Button | Door | House | Answers | Walk | CodeError | Worn | Known | Full | Unknown | TooMany | BadPress | BadLog | BadRow
  deriving DecidableEq
def Cn.nm : Cn → Str
  | .Button => "Button" | .Door => "Door" | .House => "House" | .Answers => "Answers" | .Walk => "Walk" | .CodeError => "CodeError" | .Worn => "Worn" | .Known => "Known" | .Full => "Full"
  | .Unknown => "Unknown" | .TooMany => "TooMany" | .BadPress => "BadPress" | .BadLog => "BadLog" | .BadRow => "BadRow"
def Cn.ad (K : PySem.W.Frag) (c : Cn) : Addr := He.ga K c.nm

/-- the fields of own objects -/
inductive Fd where
  | own_name | own_table | own_key | own_age | own_step | so_many | allowed | cells
  | table | house_keys | bounds | first_keys | least_age | entries | rows
  | closed | doors | buttons | kept | opened
  | row | led | answers | numbers | late | level | met
  | place
  deriving DecidableEq
def Fd.nm : Fd → Str
  | .own_name => "own_name" | .own_table => "own_table" | .own_key => "own_key" | .own_age => "own_age" | .own_step => "own_step" | .so_many => "so_many" | .allowed => "allowed" | .cells => "cells"
  | .table => "table" | .house_keys => "house_keys" | .bounds => "bounds" | .first_keys => "first_keys" | .least_age => "least_age" | .entries => "entries" | .rows => "rows"
  | .closed => "closed" | .doors => "doors" | .buttons => "buttons" | .kept => "kept" | .opened => "opened"
  | .row => "row" | .led => "led" | .answers => "answers" | .numbers => "numbers" | .late => "late" | .level => "level" | .met => "met"
  | .place => "place"
def Fd.all : List Fd := [.own_name, .own_table, .own_key, .own_age, .own_step, .so_many, .allowed, .cells, .table, .house_keys, .bounds, .first_keys, .least_age, .entries, .rows, .closed, .doors, .buttons, .kept, .opened, .row, .led, .answers, .numbers, .late, .level, .met, .place]
theorem Fd.mem_all (f : Fd) : f ∈ Fd.all := by cases f <;> decide
theorem Fd.inj0 : (Fd.all.all fun f => Fd.all.all fun g => decide (f.nm = g.nm) == decide (f = g)) = true := by decide +kernel
theorem Fd.inj {f g : Fd} (h : f.nm = g.nm) : f = g := by
  have h1 := List.all_eq_true.mp (List.all_eq_true.mp Fd.inj0 f f.mem_all) g g.mem_all
  rw [decide_eq_true h] at h1
  exact of_decide_eq_true (eq_of_beq h1).symm

/-- what stands at an address -/
inductive LO where
  | lst (xs : List LV) | dic (kvs : List (Key × LV)) | ins (c : Cn) (fs : List (Fd × LV))
  /-- a dict that is locked while it is walked -/
  | fdi (kvs : List (Key × LV))

abbrev LH := Addr → Option LO
def up (h : LH) (a : Addr) (o : LO) : LH := fun b => if b = a then some o else h b
theorem up_same {h : LH} {a : Addr} {o : LO} : up h a o a = some o := if_pos rfl
theorem up_ne {h : LH} {a b : Addr} {o : LO} (e : b ≠ a) : up h a o b = h b := if_neg e
theorem up_up {h : LH} {a : Addr} {o u : LO} : up (up h a o) a u = up h a u := by
  funext b; unfold up; split <;> rfl
theorem ne_fr {h : LH} {a b : Addr} {o : LO} (e : h a = some o) (n : h b = none) : a ≠ b := by
  rintro rfl; rw [e] at n; cases n

/-- a list that is known to the object, or stands in the written part -/
def FzL (K : PySem.W.Frag) (H : Hp) (a : Addr) (xs : List V) : Prop := (∃ o, H a = some (.frz o (.lst xs))) ∨
  ∃ (o : Obj) (its : Array Value) (n : Nat), K.lookup a = some o ∧ o.cls = .type "list" ∧ o.dict = none ∧ o.data = .seq its n ∧ its.size ≤ sizeLine ∧ Vals xs its.toList
theorem FzL.sq {K : PySem.W.Frag} {H : Hp} {a : Addr} {xs : List V} (h : FzL K H a xs) : SqL K H a xs := by
  rcases h with h | h
  · exact .inl (.inr h)
  · exact .inr h
mutual
inductive RV (K : PySem.W.Frag) (H : Hp) : LV → V → Prop
  | non : RV K H .non .non
  | bl (b : Bool) : RV K H (.bl b) (.bl b)
  | int (i : Int) : RV K H (.int i) (.int i)
  | str (x : Str) : RV K H (.str x) (.str x)
  | ref (a : Addr) : RV K H (.ref a) (.ref a)
  | ty (n : String) : RV K H (.ty n) (.ty n)
  | tup {a : Addr} {xs : List LV} {vs : List V} : SqT K H a vs → RVs K H xs vs → RV K H (.tup xs) (.ref a)
  | rl {a : Addr} {xs : List LV} {vs : List V} : FzL K H a vs → RVs K H xs vs → RV K H (.rl xs) (.ref a)
inductive RVs (K : PySem.W.Frag) (H : Hp) : List LV → List V → Prop
  | nil : RVs K H [] []
  | cons {x : LV} {v : V} {xs : List LV} {vs : List V} : RV K H x v → RVs K H xs vs → RVs K H (x :: xs) (v :: vs)
end
inductive RKs (K : PySem.W.Frag) (H : Hp) {α β : Type} (n : α → β) : List (α × LV) → List (β × V) → Prop
  | nil : RKs K H n [] []
  | cons {k : α} {x : LV} {v : V} {l : List (α × LV)} {m : List (β × V)} : RV K H x v → RKs K H n l m → RKs K H n ((k, x) :: l) ((n k, v) :: m)
/-- slots -/
inductive RS (K : PySem.W.Frag) (H : Hp) : List (Option LV) → List (Option V) → Prop
  | nil : RS K H [] []
  | un {xs : List (Option LV)} {vs : List (Option V)} {o : Option V} : RS K H xs vs → RS K H (none :: xs) (o :: vs)
  | at {x : LV} {v : V} {xs : List (Option LV)} {vs : List (Option V)} : RV K H x v → RS K H xs vs → RS K H (some x :: xs) (some v :: vs)

/-- the tuples stand -/
structure TLe (K : PySem.W.Frag) (H H' : Hp) : Prop where
  t : ∀ a vs, SqT K H a vs → SqT K H' a vs
  l : ∀ a vs, FzL K H a vs → FzL K H' a vs
section
variable {K : PySem.W.Frag} {H H1 H2 : Hp}
theorem TLe.refl (H : Hp) : TLe K H H := ⟨fun _ _ h => h, fun _ _ h => h⟩
theorem TLe.trans (a : TLe K H H1) (b : TLe K H1 H2) : TLe K H H2 := ⟨fun x vs h => b.t x vs (a.t x vs h), fun x vs h => b.l x vs (a.l x vs h)⟩
/-- an object changes that is no tuple and not locked, or one is new -/
theorem TLe.upd {a : Addr} {o : HO} (n : ∀ vs, ¬ H a = some (.tup vs)) (n2 : ∀ ob u, ¬ H a = some (.frz ob u)) : TLe K H (upd H a o) := ⟨fun b vs h => by
  rcases h with h | h
  · by_cases e : b = a
    · subst e
      rcases h with h | ⟨ob, h⟩
      · exact absurd h (n vs)
      · exact absurd h (n2 ob _)
    · refine .inl ?_
      rcases h with h | ⟨ob, h⟩
      · exact .inl (by rw [upd_ne e]; exact h)
      · exact .inr ⟨ob, by rw [upd_ne e]; exact h⟩
  · exact .inr h, fun b vs h => by
  rcases h with ⟨ob, h⟩ | h
  · by_cases e : b = a
    · subst e
      exact absurd h (n2 ob _)
    · exact .inl ⟨ob, by rw [upd_ne e]; exact h⟩
  · exact .inr h⟩
theorem TLe.new {a : Addr} {o : HO} (n : H a = none) : TLe K H (L2.upd H a o) := .upd (fun vs h => by rw [n] at h; cases h) (fun ob u h => by rw [n] at h; cases h)
mutual
theorem RV.mono (t : TLe K H H1) : ∀ {x : LV} {v : V}, RV K H x v → RV K H1 x v
  | .non, _, .non => .non
  | .bl _, _, .bl b => .bl b
  | .int _, _, .int i => .int i
  | .str _, _, .str x => .str x
  | .ref _, _, .ref a => .ref a
  | .ty _, _, .ty n => .ty n
  | .tup _, _, .tup h r => .tup (t.t _ _ h) (RVs.mono t r)
  | .rl _, _, .rl h r => .rl (t.l _ _ h) (RVs.mono t r)
theorem RVs.mono (t : TLe K H H1) : ∀ {xs : List LV} {vs : List V}, RVs K H xs vs → RVs K H1 xs vs
  | [], _, .nil => .nil
  | _ :: _, _, .cons a b => .cons (RV.mono t a) (RVs.mono t b)
end
theorem RKs.mono {α β : Type} {n : α → β} (t : TLe K H H1) : ∀ {xs : List (α × LV)} {vs : List (β × V)}, RKs K H n xs vs → RKs K H1 n xs vs
  | [], _, .nil => .nil
  | _ :: _, _, .cons a b => .cons (a.mono t) (RKs.mono t b)
theorem RS.mono (t : TLe K H H1) : ∀ {xs : List (Option LV)} {vs : List (Option V)}, RS K H xs vs → RS K H1 xs vs
  | [], _, .nil => .nil
  | _ :: _, _, .un b => .un (RS.mono t b)
  | _ :: _, _, .at a b => .at (a.mono t) (RS.mono t b)
theorem RVs.length : ∀ {xs : List LV} {vs : List V}, RVs K H xs vs → xs.length = vs.length
  | [], _, .nil => rfl
  | _ :: _, _, .cons _ b => congrArg (· + 1) (RVs.length b)
theorem RVs.get : ∀ {xs : List LV} {vs : List V} {i : Nat} {x : LV}, RVs K H xs vs → xs[i]? = some x → ∃ v, vs[i]? = some v ∧ RV K H x v
  | _, _, _, _, .nil, e => by simp at e
  | _, _, 0, _, .cons a _, e => by simp at e; subst e; exact ⟨_, rfl, a⟩
  | _, _, i + 1, x, .cons _ b, e => by
    obtain ⟨v, h1, h2⟩ := RVs.get (i := i) (x := x) b (by simpa using e)
    exact ⟨v, by simpa using h1, h2⟩
theorem RVs.append : ∀ {xs ys : List LV} {vs ws : List V}, RVs K H xs vs → RVs K H ys ws → RVs K H (xs ++ ys) (vs ++ ws)
  | _, _, _, _, .nil, s => s
  | _, _, _, _, .cons r t, s => .cons r (RVs.append t s)
theorem RVs.set {x : LV} {v : V} (r : RV K H x v) : ∀ {xs : List LV} {vs : List V} (i : Nat), RVs K H xs vs → RVs K H (xs.set i x) (vs.set i v)
  | _, _, _, .nil => .nil
  | _, _, 0, .cons _ t => .cons r t
  | _, _, i + 1, .cons q t => .cons q (RVs.set r i t)
theorem RVs.take : ∀ {xs : List LV} {vs : List V} (n : Nat), RVs K H xs vs → RVs K H (xs.take n) (vs.take n)
  | _, _, 0, _ => .nil
  | _, _, _ + 1, .nil => .nil
  | _, _, n + 1, .cons r t => .cons r (RVs.take n t)
theorem RVs.drop : ∀ {xs : List LV} {vs : List V} (n : Nat), RVs K H xs vs → RVs K H (xs.drop n) (vs.drop n)
  | _, _, 0, r => r
  | _, _, _ + 1, .nil => .nil
  | _, _, n + 1, .cons _ t => RVs.drop n t
theorem RVs.eraseIdx : ∀ {xs : List LV} {vs : List V} (n : Nat), RVs K H xs vs → RVs K H (xs.eraseIdx n) (vs.eraseIdx n)
  | _, _, _, .nil => .nil
  | _, _, 0, .cons _ t => t
  | _, _, n + 1, .cons r t => .cons r (RVs.eraseIdx n t)
theorem RVs.dropLast {xs : List LV} {vs : List V} (r : RVs K H xs vs) : RVs K H xs.dropLast vs.dropLast := by
  rw [List.dropLast_eq_take, List.dropLast_eq_take, r.length]
  exact r.take _
theorem RVs.reverse : ∀ {xs : List LV} {vs : List V}, RVs K H xs vs → RVs K H xs.reverse vs.reverse
  | _, _, .nil => .nil
  | _, _, .cons r t => by
    rw [List.reverse_cons, List.reverse_cons]
    exact (RVs.reverse t).append (.cons r .nil)
theorem RVs.rep {xs : List LV} {vs : List V} (r : RVs K H xs vs) : ∀ n : Nat, RVs K H (List.replicate n xs).flatten (List.replicate n vs).flatten
  | 0 => .nil
  | n + 1 => by
    rw [List.replicate_succ, List.replicate_succ, List.flatten_cons, List.flatten_cons]
    exact r.append (RVs.rep r n)
theorem RVs.ints : ∀ (ns : List Int), RVs K H (ns.map LV.int) (ns.map V.int)
  | [] => .nil
  | _ :: r => .cons (.int _) (RVs.ints r)
theorem RVs.to_ints : ∀ {ns : List Int} {vs : List V}, RVs K H (ns.map LV.int) vs → vs = ns.map V.int
  | [], _, .nil => rfl
  | _ :: r, _, .cons (.int _) t => by rw [RVs.to_ints t]; rfl
theorem RVs.strs : ∀ (ns : List Str), RVs K H (ns.map LV.str) (ns.map V.str)
  | [] => .nil
  | _ :: r => .cons (.str _) (RVs.strs r)
theorem RVs.to_strs : ∀ {ns : List Str} {vs : List V}, RVs K H (ns.map LV.str) vs → vs = ns.map V.str
  | [], _, .nil => rfl
  | _ :: r, _, .cons (.str _) t => by rw [RVs.to_strs t]; rfl
theorem RVs.to_bls : ∀ {ns : List Bool} {vs : List V}, RVs K H (ns.map LV.bl) vs → vs = ns.map V.bl
  | [], _, .nil => rfl
  | _ :: r, _, .cons (.bl _) t => by rw [RVs.to_bls t]; rfl
theorem RS.length : ∀ {xs : List (Option LV)} {vs : List (Option V)}, RS K H xs vs → xs.length = vs.length
  | [], _, .nil => rfl
  | _ :: _, _, (.un b) => congrArg (· + 1) (RS.length b)
  | _ :: _, _, (.at _ b) => congrArg (· + 1) (RS.length b)
theorem RS.get : ∀ {xs : List (Option LV)} {vs : List (Option V)} {i : Nat} {x : LV}, RS K H xs vs → xs[i]? = some (some x) → ∃ v, vs[i]? = some (some v) ∧ RV K H x v
  | _, _, _, _, .nil, e => by simp at e
  | _, _, 0, _, (.un _), e => by simp at e
  | _, _, 0, _, (.at a _), e => by simp at e; subst e; exact ⟨_, rfl, a⟩
  | _, _, i + 1, x, (.un b), e => by
    obtain ⟨v, h1, h2⟩ := RS.get (i := i) (x := x) b (by simpa using e)
    exact ⟨v, by simpa using h1, h2⟩
  | _, _, i + 1, x, (.at _ b), e => by
    obtain ⟨v, h1, h2⟩ := RS.get (i := i) (x := x) b (by simpa using e)
    exact ⟨v, by simpa using h1, h2⟩
theorem RS.set {x : LV} {v : V} (r : RV K H x v) : ∀ {xs : List (Option LV)} {vs : List (Option V)} (i : Nat), RS K H xs vs → RS K H (xs.set i (some x)) (vs.set i (some v))
  | _, _, _, .nil => .nil
  | _, _, 0, .un t => .at r t
  | _, _, 0, .at _ t => .at r t
  | _, _, i + 1, .un t => .un (RS.set r i t)
  | _, _, i + 1, .at q t => .at q (RS.set r i t)
theorem RS.clear : ∀ {xs : List (Option LV)} {vs : List (Option V)} (i : Nat), RS K H xs vs → RS K H (xs.set i none) (vs.set i none)
  | _, _, _, .nil => .nil
  | _, _, 0, .un t => .un t
  | _, _, 0, .at _ t => .un t
  | _, _, i + 1, .un t => .un (RS.clear i t)
  | _, _, i + 1, .at q t => .at q (RS.clear i t)
theorem RS.args {N : List Str} : ∀ {xs : List LV} {vs : List V}, RVs K H xs vs → RS K H (xs.map some) (vs.map some)
  | [], _, .nil => .nil
  | _ :: _, _, .cons a b => .at a (RS.args (N := N) b)
theorem RS.append : ∀ {xs ys : List (Option LV)} {vs ws : List (Option V)}, RS K H xs vs → RS K H ys ws → RS K H (xs ++ ys) (vs ++ ws)
  | _, _, _, _, .nil, s => s
  | _, _, _, _, .un t, s => .un (RS.append t s)
  | _, _, _, _, .at r t, s => .at r (RS.append t s)
theorem RS.nones : ∀ n : Nat, RS K H (List.replicate n none) (List.replicate n none)
  | 0 => .nil
  | n + 1 => .un (RS.nones n)
end

/-- a dict's, an object's values -/
def fget (fs : List (Fd × LV)) (f : Fd) : Option LV := match fs with
  | [] => none
  | (g, x) :: r => if f = g then some x else fget r f
def fput (f : Fd) (x : LV) (fs : List (Fd × LV)) : List (Fd × LV) := match fs with
  | [] => [(f, x)]
  | (g, y) :: r => if g = f then (g, x) :: r else (g, y) :: fput f x r
def dget (kvs : List (Key × LV)) (k : Key) : Option LV := (kvs.find? fun kv => decide (kv.1 = k)).map (·.2)
def dput (kvs : List (Key × LV)) (k : Key) (x : LV) : List (Key × LV) :=
  if (kvs.any fun kv => decide (kv.1 = k)) = true then kvs.map (fun kv => if kv.1 = k then (kv.1, x) else kv) else kvs ++ [(k, x)]
def ddrop (kvs : List (Key × LV)) (k : Key) : List (Key × LV) := kvs.filter fun kv => decide (kv.1 ≠ k)

section
variable {K : PySem.W.Frag} {H : Hp}
theorem RKs.length {α β : Type} {n : α → β} : ∀ {xs : List (α × LV)} {vs : List (β × V)}, RKs K H n xs vs → xs.length = vs.length
  | [], _, .nil => rfl
  | _ :: _, _, .cons _ b => congrArg (· + 1) (RKs.length b)
theorem RKs.fget : ∀ {xs : List (Fd × LV)} {vs : List (Str × V)} {f : Fd} {x : LV}, RKs K H Fd.nm xs vs → fget xs f = some x → ∃ v, vs.lookup f.nm = some v ∧ RV K H x v
  | _, _, _, _, .nil, e => by cases e
  | (g, y) :: r, _, f, x, .cons (v := v) (m := m) a b, e => by
    unfold VL.fget at e
    by_cases q : f = g
    · rw [if_pos q] at e
      cases e
      subst q
      refine ⟨v, ?_, a⟩
      rw [List.lookup_cons, show (f.nm == f.nm) = true from beq_self_eq_true _]
    · rw [if_neg q] at e
      obtain ⟨w, h1, h2⟩ := RKs.fget b e
      refine ⟨w, ?_, h2⟩
      have z : (f.nm == g.nm) = false := by
        cases z : (f.nm == g.nm) with
        | false => rfl
        | true => exact absurd (Fd.inj (eq_of_beq z)) q
      rw [List.lookup_cons, z]
      exact h1
theorem RKs.fnone : ∀ {xs : List (Fd × LV)} {vs : List (Str × V)} {m : Str}, RKs K H Fd.nm xs vs → (∀ f : Fd, f.nm ≠ m) → vs.lookup m = none
  | _, _, _, .nil, _ => rfl
  | (g, y) :: r, _, m, .cons (v := v) (m := w) a b, e => by
    have z : (m == g.nm) = false := by
      cases z : (m == g.nm) with
      | false => rfl
      | true => exact absurd (eq_of_beq z).symm (e g)
    rw [List.lookup_cons, z]
    exact RKs.fnone b e
theorem RKs.fput {f : Fd} {x : LV} {v : V} (a : RV K H x v) : ∀ {xs : List (Fd × LV)} {vs : List (Str × V)}, RKs K H Fd.nm xs vs → RKs K H Fd.nm (fput f x xs) (putF f.nm v vs)
  | [], _, .nil => .cons a .nil
  | (g, y) :: r, _, .cons (v := w) (m := m) b c => by
    show RKs K H Fd.nm (if g = f then (g, x) :: r else (g, y) :: VL.fput f x r) (if g.nm = f.nm then (g.nm, v) :: m else (g.nm, w) :: putF f.nm v m)
    by_cases q : g = f
    · rw [if_pos q, if_pos (by rw [q])]
      exact .cons a c
    · rw [if_neg q, if_neg (fun z => q (Fd.inj z))]
      exact .cons b (RKs.fput a c)
theorem RKs.dget {k : Key} : ∀ {xs : List (Key × LV)} {vs : List (Key × V)}, RKs K H id xs vs → (∀ x, dget xs k = some x → ∃ v, valV vs k = some v ∧ RV K H x v) ∧ (dget xs k = none → valV vs k = none)
  | _, _, .nil => ⟨fun _ h => (by cases h), fun _ => rfl⟩
  | (j, y) :: r, _, .cons (v := v) (m := m) a b => by
    obtain ⟨h1, h2⟩ := RKs.dget (k := k) b
    by_cases q : j = k
    · refine ⟨fun x e => ?_, fun e => ?_⟩
      · have z : VL.dget ((j, y) :: r) k = some y := by simp [VL.dget, q]
        rw [z] at e
        cases e
        exact ⟨v, valV_pos q, a⟩
      · have z : VL.dget ((j, y) :: r) k = some y := by simp [VL.dget, q]
        rw [z] at e
        cases e
    · have z : VL.dget ((j, y) :: r) k = VL.dget r k := by simp [VL.dget, q]
      rw [z]
      have z2 : valV ((id j, v) :: m) k = valV m k := valV_neg q
      rw [z2]
      exact ⟨h1, h2⟩
theorem RKs.any {k : Key} : ∀ {xs : List (Key × LV)} {vs : List (Key × V)}, RKs K H id xs vs → (xs.any fun kv => decide (kv.1 = k)) = (vs.any fun kv => decide (kv.1 = k))
  | _, _, .nil => rfl
  | (j, y) :: r, _, .cons (v := v) (m := m) a b => by
    rw [List.any_cons, List.any_cons, RKs.any b]
    rfl
theorem RKs.append {α β : Type} {n : α → β} : ∀ {xs ys : List (α × LV)} {vs ws : List (β × V)}, RKs K H n xs vs → RKs K H n ys ws → RKs K H n (xs ++ ys) (vs ++ ws)
  | _, _, _, _, .nil, s => s
  | _, _, _, _, .cons r t, s => .cons r (RKs.append t s)
theorem RKs.put1 {k : Key} {x : LV} {v : V} (a : RV K H x v) : ∀ {xs : List (Key × LV)} {vs : List (Key × V)}, RKs K H id xs vs → RKs K H id (xs.map fun kv => if kv.1 = k then (kv.1, x) else kv) (vs.map fun kv => if kv.1 = k then (kv.1, v) else kv)
  | _, _, .nil => .nil
  | (j, y) :: r, _, .cons (v := w) (m := m) b c => by
    show RKs K H id ((if j = k then (j, x) else (j, y)) :: _) ((if j = k then (j, v) else (j, w)) :: _)
    by_cases q : j = k
    · rw [if_pos q, if_pos q]
      exact .cons a (RKs.put1 a c)
    · rw [if_neg q, if_neg q]
      exact .cons b (RKs.put1 a c)
theorem RKs.dput {k : Key} {x : LV} {v : V} (a : RV K H x v) {xs : List (Key × LV)} {vs : List (Key × V)} (r : RKs K H id xs vs) : RKs K H id (dput xs k x) (putK vs k v) := by
  unfold VL.dput putK
  rw [r.any]
  split
  · exact r.put1 a
  · exact r.append (.cons a .nil)
theorem RKs.ddrop {k : Key} : ∀ {xs : List (Key × LV)} {vs : List (Key × V)}, RKs K H id xs vs → RKs K H id (ddrop xs k) (dropK vs k)
  | _, _, .nil => .nil
  | (j, y) :: r, _, .cons (v := w) (m := m) b c => by
    unfold VL.ddrop dropK
    rw [List.filter_cons, List.filter_cons]
    show RKs K H id (if decide (j ≠ k) = true then _ else _) (if decide (j ≠ k) = true then _ else _)
    split
    · exact .cons b (RKs.ddrop c)
    · exact RKs.ddrop c
end
end VL

set_option Elab.async false
set_option linter.all false
set_option maxRecDepth 100000
set_option maxHeartbeats 2000000
namespace VL
open PySem PySem.Spec PyProof.Rows L2

/-- an object as it is told -/
def RO (K : PySem.W.Frag) (H : Hp) (a : Addr) : LO → Prop
  | .lst xs => ∃ vs, H a = some (.lst vs) ∧ RVs K H xs vs
  | .dic kvs => ∃ ws, H a = some (.dK ws) ∧ RKs K H id kvs ws
  | .ins c fs => ∃ dx ws, H a = some (.ins (c.ad K) dx ws) ∧ RKs K H Fd.nm fs ws
  | .fdi kvs => ∃ o ws, H a = some (.frz o (.dK ws)) ∧ RKs K H id kvs ws
def RH (K : PySem.W.Frag) (H : Hp) (h : LH) : Prop := ∀ a o, h a = some o → RO K H a o
section
variable {K : PySem.W.Frag} {H H' : Hp} {h : LH} {a p : Addr} {u : HO} {o : LO}
theorem RO.mkL {xs : List LV} {vs : List V} (e : H a = some (.lst vs)) (r : RVs K H xs vs) : RO K H a (.lst xs) := ⟨vs, e, r⟩
theorem RO.mkD {xs : List (Key × LV)} {vs : List (Key × V)} (e : H a = some (.dK vs)) (r : RKs K H id xs vs) : RO K H a (.dic xs) := ⟨vs, e, r⟩
theorem RO.mkI {c : Cn} {dx : Addr} {xs : List (Fd × LV)} {vs : List (Str × V)} (e : H a = some (.ins (c.ad K) dx vs)) (r : RKs K H Fd.nm xs vs) : RO K H a (.ins c xs) := ⟨dx, vs, e, r⟩
theorem RO.there (z : RO K H a o) : ∃ u, H a = some u := by
  cases o with
  | lst xs => obtain ⟨_, z, _⟩ := z; exact ⟨_, z⟩
  | dic xs => obtain ⟨_, z, _⟩ := z; exact ⟨_, z⟩
  | ins c fs => obtain ⟨_, _, z, _⟩ := z; exact ⟨_, z⟩
  | fdi xs => obtain ⟨_, _, z, _⟩ := z; exact ⟨_, z⟩
theorem RH.fresh (r : RH K H h) (e : H a = none) : h a = none := by
  cases q : h a with
  | none => rfl
  | some o =>
    obtain ⟨u, z⟩ := (r a o q).there
    rw [e] at z
    cases z
/-- one address changes -/
theorem RO.stay {b : Addr} (r : RO K H b o) (t : TLe K H (upd H a u)) (n : b ≠ a) : RO K (upd H a u) b o := by
  cases o with
  | lst xs => obtain ⟨vs, z, q⟩ := r; exact ⟨vs, by rw [upd_ne n]; exact z, q.mono t⟩
  | dic xs => obtain ⟨vs, z, q⟩ := r; exact ⟨vs, by rw [upd_ne n]; exact z, q.mono t⟩
  | ins c fs => obtain ⟨dx, vs, z, q⟩ := r; exact ⟨dx, vs, by rw [upd_ne n]; exact z, q.mono t⟩
  | fdi xs => obtain ⟨ob, vs, z, q⟩ := r; exact ⟨ob, vs, by rw [upd_ne n]; exact z, q.mono t⟩
theorem RH.upd (r : RH K H h) (t : TLe K H (L2.upd H a u)) (q : RO K (L2.upd H a u) a o) : RH K (L2.upd H a u) (VL.up h a o) := fun b v e => by
  by_cases n : b = a
  · subst n; rw [up_same] at e; cases e; exact q
  · rw [up_ne n] at e
    exact (r b v e).stay t n
/-- something new that is not told of -/
theorem RH.new (r : RH K H h) (n : H p = none) : RH K (L2.upd H p u) h := fun b v e => by
  obtain ⟨w, z⟩ := (r b v e).there
  exact (r b v e).stay (.new n) (ne_of_none z n)
/-- something new that is told of -/
theorem RH.lay (r : RH K H h) (n : H p = none) (q : RO K (L2.upd H p u) p o) : RH K (L2.upd H p u) (VL.up h p o) := r.upd (.new n) q
/-- less is told -/
theorem RH.sub {h' : LH} (r : RH K H h) (s : ∀ a o, h' a = some o → h a = some o) : RH K H h' := fun a o e => r a o (s a o e)
end

/-! ### readings -/
abbrev LS := List (Option LV)
abbrev LK := LV → LH → Prop
/-- what is wanted of an own exception: its class, its fields, the heap -/
abbrev LX := Cn → List (Fd × LV) → LH → Prop
abbrev X0 : LX := fun _ _ _ => False
abbrev LTE := LS → LH → LX → LK → Prop
abbrev LTT := LS → LH → LX → (Bool → LH → Prop) → Prop
abbrev LTA := LS → LH → LX → (List LV → LH → Prop) → Prop
abbrev LTO := LS → LH → LX → (Option Int → LH → Prop) → Prop
structure LEnds where
  nx : LS → LH → Prop
  rt : LK
  ex : Cn → List (Fd × LV) → LS → LH → Prop := fun _ _ _ _ => False
  bk : LS → LH → Prop := fun _ _ => False
  ct : LS → LH → Prop := fun _ _ => False
abbrev LTS := LEnds → LS → LH → Prop
/-- a def's promise -/
abbrev LSp := List LV → LH → LX → LK → Prop

def RX (K : PySem.W.Frag) (H : Hp) (fs : List (Fd × LV)) : Option Addr → Prop
  | none => fs = []
  | some d => ∃ ws, H d = some (.xd ws) ∧ RKs K H Fd.nm fs ws
def OutX (K : PySem.W.Frag) (W : WX) (σ : L2.St) (H : Hp) (E : LX) : Prop := ∀ c fs d H' h', TLe K H H' → RH K H' h' → RX K H' fs d → E c fs h' → W (.ref (c.ad K)) d σ H'
structure Sit (K : PySem.W.Frag) (W : WX) (σ : L2.St) (H : Hp) (s : LS) (h : LH) (E : LX) : Prop where
  rs : RS K H s σ
  rh : RH K H h
  ox : OutX K W σ H E
theorem Sit.step {K : PySem.W.Frag} {W : WX} {σ : L2.St} {H H' : Hp} {s : LS} {h h' : LH} {E : LX} (z : Sit K W σ H s h E) (t : TLe K H H') (r : RH K H' h') : Sit K W σ H' s h' E :=
  ⟨z.rs.mono t, r, fun c fs d H2 h2 t2 => z.ox c fs d H2 h2 (t.trans t2)⟩
def OutV (K : PySem.W.Frag) (H : Hp) (Q : VK) (L : LK) : Prop := ∀ v H' x h', TLe K H H' → RH K H' h' → RV K H' x v → L x h' → Q v H'
def OutA (K : PySem.W.Frag) (H : Hp) (Q : List V → Hp → Prop) (L : List LV → LH → Prop) : Prop := ∀ v H' x h', TLe K H H' → RH K H' h' → RVs K H' x v → L x h' → Q v H'
def OutB {α : Type} (K : PySem.W.Frag) (H : Hp) (Q : α → Hp → Prop) (L : α → LH → Prop) : Prop := ∀ b H' h', TLe K H H' → RH K H' h' → L b h' → Q b H'
theorem OutV.step {K : PySem.W.Frag} {H H1 : Hp} {Q : VK} {L : LK} (o : OutV K H Q L) (t : TLe K H H1) : OutV K H1 Q L := fun v H' x h' t2 => o v H' x h' (t.trans t2)
theorem OutA.step {K : PySem.W.Frag} {H H1 : Hp} {Q : List V → Hp → Prop} {L : List LV → LH → Prop} (o : OutA K H Q L) (t : TLe K H H1) : OutA K H1 Q L := fun v H' x h' t2 => o v H' x h' (t.trans t2)
theorem OutB.step {α : Type} {K : PySem.W.Frag} {H H1 : Hp} {Q : α → Hp → Prop} {L : α → LH → Prop} (o : OutB K H Q L) (t : TLe K H H1) : OutB K H1 Q L := fun b H' h' t2 => o b H' h' (t.trans t2)
def upE (K : PySem.W.Frag) (W : WX) (l : LTE) : TE := fun σ H Q => ∃ s h E L, Sit K W σ H s h E ∧ l s h E L ∧ OutV K H Q L
def upT (K : PySem.W.Frag) (W : WX) (l : LTT) : TT := fun σ H Q => ∃ s h E L, Sit K W σ H s h E ∧ l s h E L ∧ OutB K H Q L
def upA (K : PySem.W.Frag) (W : WX) (l : LTA) : TA := fun σ H Q => ∃ s h E L, Sit K W σ H s h E ∧ l s h E L ∧ OutA K H Q L
def upO (K : PySem.W.Frag) (W : WX) (l : LTO) : TO := fun σ H Q => ∃ s h E L, Sit K W σ H s h E ∧ l s h E L ∧ OutB K H Q L
abbrev LE (X : Cx) (W : WX) (e : Expr) (l : LTE) : Prop := PE X e (upE X.K W l)
abbrev LT (X : Cx) (W : WX) (e : Expr) (l : LTT) : Prop := PT X e (upT X.K W l)
abbrev LWt (X : Cx) (W : WX) (e : Expr) (l : LTT) : Prop := PW X e (upT X.K W l)
abbrev LA (X : Cx) (W : WX) (e : List Expr) (l : LTA) : Prop := PA X e (upA X.K W l)
abbrev LO' (X : Cx) (W : WX) (e : Option Expr) (l : LTO) : Prop := PO X e (upO X.K W l)
section
variable {X : Cx} {e : Expr} {es : List Expr}
theorem peW {t t' : TE} (h : PE X e t) (i : ∀ σ H Q, t' σ H Q → t σ H Q) : PE X e t' := ⟨fun pins s σ H Q I q => h.run pins s σ H Q I (i _ _ _ q)⟩
theorem ptW {t t' : TT} (h : PT X e t) (i : ∀ σ H Q, t' σ H Q → t σ H Q) : PT X e t' := ⟨fun pins s σ H Q I q => h.run pins s σ H Q I (i _ _ _ q)⟩
theorem pwW {t t' : TT} (h : PW X e t) (i : ∀ σ H Q, t' σ H Q → t σ H Q) : PW X e t' := ⟨fun wh pins s σ H Q I q => h.run wh pins s σ H Q I (i _ _ _ q)⟩
theorem paW {t t' : TA} (h : PA X es t) (i : ∀ σ H Q, t' σ H Q → t σ H Q) : PA X es t' := ⟨fun pos pins s σ H Q I q => h.run pos pins s σ H Q I (i _ _ _ q)⟩
theorem psW {st : Stmt} {t t' : TS} (h : PS X st t) (i : ∀ D σ H, t' D σ H → t D σ H) : PS X st t' := ⟨fun pins s σ H D I q => h.run pins s σ H D I (i _ _ _ q)⟩
theorem pssW {st : List Stmt} {t t' : TS} (h : PSs X st t) (i : ∀ D σ H, t' D σ H → t D σ H) : PSs X st t' := ⟨fun pins s σ H D I q => h.run pins s σ H D I (i _ _ _ q)⟩
end

section
variable {X : Cx} {W : WX} {a b c e : Expr} {es : List Expr} {la lb lc le : LTE} {pos : Pos}
/-! ### names, constants -/
def lVar (i : Nat) : LTE := fun s h _ L => match s[i]? with
  | some (some v) => L v h
  | _ => False
def lC (v : LV) : LTE := fun _ h _ L => L v h
theorem le_var {i : Nat} {x : Str} {pos : Pos} (hN : X.N[i]? = some x) (hv : Vis X.env.scope x) (hd : (x == ("__debug__" : Str)) = false := by decide) (hcd : (x == ("__classdict__" : Str)) = false := by decide) : LE X W (.Name x pos) (lVar i) :=
  peW (pe_var hN hv hd hcd) fun σ H Q ⟨s, h, E, L, z, hl, o⟩ => by
    unfold lVar at hl
    split at hl
    · rename_i v q
      obtain ⟨w, h1, h2⟩ := z.rs.get q
      exact ⟨w, h1, o w H v h (.refl H) z.rh h2 hl⟩
    · exact hl.elim
theorem le_v (i : Nat) {x : Str} {pos : Pos} (hN : X.N[i]? = some x := by rfl) (hv : Vis X.env.scope x := by first | exact Or.inl rfl | exact Or.inr (Or.inl rfl) | exact Or.inr (Or.inr rfl)) (hd : (x == ("__debug__" : Str)) = false := by decide)
    (hcd : (x == ("__classdict__" : Str)) = false := by decide) : LE X W (.Name x pos) (lVar i) := le_var hN hv hd hcd
theorem le_cst {e : Expr} {v : V} {x : LV} (h : PE X e (tC v)) (r : ∀ H, RV X.K H x v) : LE X W e (lC x) := peW h fun σ H Q ⟨s, h, E, L, z, hl, o⟩ => o v H x h (.refl H) z.rh (r H) hl
theorem le_int {i j pos} : LE X W (.Constant (.int i) j pos) (lC (.int i)) := le_cst pe_int fun _ => .int i
theorem le_bl {i j pos} : LE X W (.Constant (.bool i) j pos) (lC (.bl i)) := le_cst pe_bl fun _ => .bl i
theorem le_non {j pos} : LE X W (.Constant .none j pos) (lC .non) := le_cst pe_non fun _ => .non
theorem le_str {i j pos} : LE X W (.Constant (.str i) j pos) (lC (.str i)) := le_cst pe_str fun _ => .str i
/-- an int, a text of the module; a class, a def -/
theorem le_gint {x : Str} {i : Int} {pos : Pos} (hm : ∃ t, X.mg x = some (.int i t)) (hg : Gl X x := by rfl) (hd : (x == ("__debug__" : Str)) = false := by decide) : LE X W (.Name x pos) (lC (.int i)) := by
  obtain ⟨t, hm⟩ := hm
  exact le_cst (pe_glob hg hm (v := .int i) ⟨t, rfl⟩ hd) fun _ => .int i
theorem le_gstr {x : Str} {i : Str} {pos : Pos} (hm : ∃ t, X.mg x = some (.str i t)) (hg : Gl X x := by rfl) (hd : (x == ("__debug__" : Str)) = false := by decide) : LE X W (.Name x pos) (lC (.str i)) := by
  obtain ⟨t, hm⟩ := hm
  exact le_cst (pe_glob hg hm (v := .str i) ⟨t, rfl⟩ hd) fun _ => .str i
theorem le_gref {x : Str} {a : Addr} {pos : Pos} (hm : X.mg x = some (.ref a)) (hg : Gl X x := by rfl) (hd : (x == ("__debug__" : Str)) = false := by decide) : LE X W (.Name x pos) (lC (.ref a)) := le_cst (pe_glob hg hm (v := .ref a) rfl hd) fun _ => .ref a
/-- a built-in class as a value -/
theorem le_bty {x : Str} {n : String} {pos : Pos} (hm : X.mg x = none) (hv : bootBuiltins x = some (.type n)) (hg : Gl X x := by rfl) (hn : x ≠ "__name__" := by decide) (hd : (x == ("__debug__" : Str)) = false := by decide) : LE X W (.Name x pos) (lC (.ty n)) :=
  le_cst (pe_bltn hg hm hv (v := .ty n) rfl hn hd) fun _ => .ty n

/-! ### operators -/
abbrev LR2 := LV → LV → LH → LK → Prop
def SR2 (K : PySem.W.Frag) (r : R2) (g : LR2) : Prop := ∀ (H : Hp) (h : LH) (x y : LV) (v u : V) (L : LK) (Q : VK), RH K H h → RV K H x v → RV K H y u → g x y h L → OutV K H Q L → r v u H Q
def lOp (g : LR2) (la lb : LTE) : LTE := fun s h E L => la s h E fun x h1 => lb s h1 E fun y h2 => g x y h2 L
theorem op_imp {r : R2} {g : LR2} (sr : SR2 X.K r g) : ∀ σ H Q, upE X.K W (lOp g la lb) σ H Q → tOp r (upE X.K W la) (upE X.K W lb) σ H Q := fun σ H Q ⟨s, h, E, L, z, hl, o⟩ =>
  ⟨s, h, E, _, z, hl, fun v H1 x h1 t1 r1 rx q1 => ⟨s, h1, E, _, z.step t1 r1, q1, fun u H2 y h2 t2 r2 ry q2 => sr H2 h2 x y v u L Q r2 (rx.mono t2) ry q2 (o.step (t1.trans t2))⟩⟩
theorem le_op {op : Operator} {r : R2} {g : LR2} (ho : OpR X (binaryOp op) r) (sr : SR2 X.K r g) (ha : LE X W a la) (hb : LE X W b lb) : LE X W (.BinOp a op b pos) (lOp g la lb) :=
  peW (pe_op ho ha hb) (op_imp sr)
theorem le_cmpR {op : CmpOp} {r : R2} {g : LR2} (ho : OpR X (compareOp op) r) (sr : SR2 X.K r g) (ha : LE X W a la) (hb : LE X W b lb) (hm : behindInMarks op b = false) : LE X W (.Compare a [op] [b] pos) (lOp g la lb) :=
  peW (pe_cmpR ho ha hb hm) (op_imp sr)
/-- a value that is a bool, as a test -/
def lTest (l : LTE) : LTT := fun s h E L => l s h E fun x h1 => match x with
  | .bl k => L k h1
  | _ => False
theorem test_imp : ∀ σ H (Q : Bool → Hp → Prop), upT X.K W (lTest la) σ H Q → tTest (upE X.K W la) σ H Q := fun σ H Q ⟨s, h, E, L, z, hl, o⟩ =>
  ⟨s, h, E, _, z, hl, fun v H1 x h1 t1 r1 rx q1 => by
    cases x with
    | bl k =>
      cases rx
      exact ⟨k, rfl, o k H1 h1 t1 r1 q1⟩
    | _ => exact q1.elim⟩
theorem tTest_mono {t t' : TE} (i : ∀ σ H Q, t' σ H Q → t σ H Q) : ∀ σ H Q, tTest t' σ H Q → tTest t σ H Q := fun σ H Q h => i _ _ _ h
theorem lt_cmpR {op : CmpOp} {r : R2} {g : LR2} (ho : OpR X (compareOp op) r) (sr : SR2 X.K r g) (ha : LE X W a la) (hb : LE X W b lb) (hm : behindInMarks op b = false) : LT X W (.Compare a [op] [b] pos) (lTest (lOp g la lb)) :=
  ptW (pt_cmpR ho ha hb hm) fun σ H Q h => tTest_mono (op_imp sr) σ H Q (test_imp σ H Q h)
def lChain (g g' : LR2) (la lb lc : LTE) : LTE := fun s h E L => la s h E fun x h1 => lb s h1 E fun y h2 => g x y h2 fun z h3 => match z with
  | .bl true => lc s h3 E fun w h4 => g' y w h4 L
  | .bl false => L (.bl false) h3
  | _ => False
theorem chain_imp {r r' : R2} {g g' : LR2} (sr : SR2 X.K r g) (sr' : SR2 X.K r' g') : ∀ σ H Q, upE X.K W (lChain g g' la lb lc) σ H Q → tChain r r' (upE X.K W la) (upE X.K W lb) (upE X.K W lc) σ H Q := fun σ H Q ⟨s, h, E, L, z, hl, o⟩ =>
  ⟨s, h, E, _, z, hl, fun v H1 x h1 t1 r1 rx q1 => ⟨s, h1, E, _, z.step t1 r1, q1, fun u H2 y h2 t2 r2 ry q2 =>
    sr H2 h2 x y v u _ _ r2 (rx.mono t2) ry q2 fun w H3 b h3 t3 r3 rb q3 => by
      cases b with
      | bl k =>
        cases rb
        cases k with
        | true => exact ⟨true, rfl, by
            rw [if_pos rfl]
            exact ⟨s, h3, E, _, z.step ((t1.trans t2).trans t3) r3, q3, fun w2 H4 y4 h4 t4 r4 ry4 q4 => sr' H4 h4 y y4 u w2 L Q r4 ((ry.mono t3).mono t4) ry4 q4 (o.step (((t1.trans t2).trans t3).trans t4))⟩⟩
        | false => exact ⟨false, rfl, by
            rw [if_neg Bool.false_ne_true]
            exact o (.bl false) H3 (.bl false) h3 ((t1.trans t2).trans t3) r3 (.bl false) q3⟩
      | _ => exact q3.elim⟩⟩
theorem le_chain {op op' : CmpOp} {r r' : R2} {g g' : LR2} (ho : OpR X (compareOp op) r) (ho' : OpR X (compareOp op') r') (sr : SR2 X.K r g) (sr' : SR2 X.K r' g') (ha : LE X W a la) (hb : LE X W b lb) (hc : LE X W c lc)
    (hm : lastMarks [op, op'] [b, c] = false := by with_unfolding_all rfl) : LE X W (.Compare a [op, op'] [b, c] pos) (lChain g g' la lb lc) := peW (pe_chain ho ho' ha hb hc hm) (chain_imp sr sr')
theorem lt_chain {op op' : CmpOp} {r r' : R2} {g g' : LR2} (ho : OpR X (compareOp op) r) (ho' : OpR X (compareOp op') r') (sr : SR2 X.K r g) (sr' : SR2 X.K r' g') (ha : LE X W a la) (hb : LE X W b lb) (hc : LE X W c lc)
    (hm : lastMarks [op, op'] [b, c] = false := by with_unfolding_all rfl) : LT X W (.Compare a [op, op'] [b, c] pos) (lTest (lChain g g' la lb lc)) := ptW (pt_chain ho ho' ha hb hc hm) fun σ H Q h => tTest_mono (chain_imp sr sr') σ H Q (test_imp σ H Q h)
def lUn (g : LV → LH → LK → Prop) (la : LTE) : LTE := fun s h E L => la s h E fun x h1 => g x h1 L
def gNeg : LV → LH → LK → Prop := fun x h L => match x with
  | .int i => L (.int (-i)) h
  | _ => False
theorem le_neg (ha : LE X W a la) : LE X W (.UnaryOp .USub a pos) (lUn gNeg la) := peW (pe_un un_neg ha) fun σ H Q ⟨s, h, E, L, z, hl, o⟩ =>
  ⟨s, h, E, _, z, hl, fun v H1 x h1 t1 r1 rx q1 => by
    cases x with
    | int i => cases rx; exact ⟨i, rfl, o _ H1 _ h1 t1 r1 (.int _) q1⟩
    | _ => exact q1.elim⟩

/-! ### and, or, not, if -/
def lAnd (t u : LTT) : LTT := fun s h E L => t s h E fun c h1 => if c = true then u s h1 E L else L false h1
def lOr (t u : LTT) : LTT := fun s h E L => t s h E fun c h1 => if c = true then L true h1 else u s h1 E L
def lNot (t : LTT) : LTT := fun s h E L => t s h E fun c h1 => L (!c) h1
variable {lt lu : LTT} {rest : List Expr}
theorem lw_and1 (ha : LT X W a lt) : LWt X W (.BoolOp .And [a] pos) lt := pw_and1 ha
theorem lw_or1 (ha : LT X W a lt) : LWt X W (.BoolOp .Or [a] pos) lt := pw_or1 ha
theorem lw_and (ha : LT X W a lt) (hb : LWt X W (.BoolOp .And (b :: rest) pos) lu) : LWt X W (.BoolOp .And (a :: b :: rest) pos) (lAnd lt lu) :=
  pwW (pw_and ha hb) fun σ H Q ⟨s, h, E, L, z, hl, o⟩ => ⟨s, h, E, _, z, hl, fun c H1 h1 t1 r1 q1 => by
    cases c with
    | true => exact ⟨s, h1, E, _, z.step t1 r1, q1, o.step t1⟩
    | false => exact o false H1 h1 t1 r1 q1⟩
theorem lw_or (ha : LT X W a lt) (hb : LWt X W (.BoolOp .Or (b :: rest) pos) lu) : LWt X W (.BoolOp .Or (a :: b :: rest) pos) (lOr lt lu) :=
  pwW (pw_or ha hb) fun σ H Q ⟨s, h, E, L, z, hl, o⟩ => ⟨s, h, E, _, z, hl, fun c H1 h1 t1 r1 q1 => by
    cases c with
    | false => exact ⟨s, h1, E, _, z.step t1 r1, q1, o.step t1⟩
    | true => exact o true H1 h1 t1 r1 q1⟩
theorem lw_t (h : LWt X W e lt) : LT X W e lt := h.pt
theorem lt_not (ha : LT X W a lt) : LT X W (.UnaryOp .Not a pos) (lNot lt) := ptW (pt_not ha) fun σ H Q ⟨s, h, E, L, z, hl, o⟩ => ⟨s, h, E, _, z, hl, fun c H1 h1 t1 r1 q1 => o (!c) H1 h1 t1 r1 q1⟩
/-- an expression that gives a bool, as a test -/
theorem lt_val (h : LE X W e le) (he : ∀ whole, isTrue e X.env whole = (do let v ← whole; standAt e.pos; holding [v] (truthy v)) := by intro _; rfl) : LT X W e (lTest le) :=
  ptW (pt_val h he) fun σ H Q q => test_imp σ H Q q
def lAndV (la lb : LTE) : LTE := fun s h E L => la s h E fun x h1 => match x with
  | .bl true => lb s h1 E L
  | .bl false => L (.bl false) h1
  | _ => False
def lOrV (la lb : LTE) : LTE := fun s h E L => la s h E fun x h1 => match x with
  | .bl false => lb s h1 E L
  | .bl true => L (.bl true) h1
  | _ => False
def lNotV (la : LTE) : LTE := fun s h E L => la s h E fun x h1 => match x with
  | .bl k => L (.bl (!k)) h1
  | _ => False
theorem le_one {op} (h : LE X W a la) : LE X W (.BoolOp op [a] pos) la := pe_one h
theorem le_and (ha : LE X W a la) (hb : LE X W (.BoolOp .And (b :: rest) pos) lb) : LE X W (.BoolOp .And (a :: b :: rest) pos) (lAndV la lb) :=
  peW (pe_and ha hb) fun σ H Q ⟨s, h, E, L, z, hl, o⟩ => ⟨s, h, E, _, z, hl, fun v H1 x h1 t1 r1 rx q1 => by
    cases x with
    | bl k =>
      cases rx
      refine ⟨k, rfl, ?_⟩
      cases k with
      | true => exact ⟨s, h1, E, _, z.step t1 r1, q1, o.step t1⟩
      | false => exact o _ H1 (.bl false) h1 t1 r1 (.bl _) q1
    | _ => exact q1.elim⟩
theorem le_or (ha : LE X W a la) (hb : LE X W (.BoolOp .Or (b :: rest) pos) lb) : LE X W (.BoolOp .Or (a :: b :: rest) pos) (lOrV la lb) :=
  peW (pe_or ha hb) fun σ H Q ⟨s, h, E, L, z, hl, o⟩ => ⟨s, h, E, _, z, hl, fun v H1 x h1 t1 r1 rx q1 => by
    cases x with
    | bl k =>
      cases rx
      refine ⟨k, rfl, ?_⟩
      cases k with
      | false => exact ⟨s, h1, E, _, z.step t1 r1, q1, o.step t1⟩
      | true => exact o _ H1 (.bl true) h1 t1 r1 (.bl _) q1
    | _ => exact q1.elim⟩
theorem le_not (ha : LE X W a la) : LE X W (.UnaryOp .Not a pos) (lNotV la) :=
  peW (pe_not ha) fun σ H Q ⟨s, h, E, L, z, hl, o⟩ => ⟨s, h, E, _, z, hl, fun v H1 x h1 t1 r1 rx q1 => by
    cases x with
    | bl k => cases rx; exact ⟨k, rfl, o _ H1 _ h1 t1 r1 (.bl _) q1⟩
    | _ => exact q1.elim⟩
def lIf (t : LTT) (la lb : LTE) : LTE := fun s h E L => t s h E fun c h1 => if c = true then la s h1 E L else lb s h1 E L
theorem le_if (hc : LT X W c lt) (ha : LE X W a la) (hb : LE X W b lb) : LE X W (.IfExp c a b pos) (lIf lt la lb) :=
  peW (pe_ifExp hc ha hb) fun σ H Q ⟨s, h, E, L, z, hl, o⟩ => ⟨s, h, E, _, z, hl, fun k H1 h1 t1 r1 q1 => by
    cases k with
    | true => exact ⟨s, h1, E, _, z.step t1 r1, q1, o.step t1⟩
    | false => exact ⟨s, h1, E, _, z.step t1 r1, q1, o.step t1⟩⟩
/-- if xs:, by truth -/
def gTru : LV → LH → (Bool → LH → Prop) → Prop := fun x h L => match x with
  | .non => L false h
  | .bl b => L b h
  | .int i => L (i != 0) h
  | .str y => y.length ≤ sizeLine ∧ L ((y.length : Int) != 0) h
  | .tup xs => L (!xs.isEmpty) h
  | .rl xs => L (!xs.isEmpty) h
  | .ref p => (match h p with
    | some (.lst xs) => L (!xs.isEmpty) h
    | some (.dic xs) => L (!xs.isEmpty) h
    | _ => False)
  | _ => False
def lTru (la : LTE) : LTT := fun s h E L => la s h E fun x h1 => gTru x h1 L
theorem RVs.isEmpty {K : PySem.W.Frag} {H : Hp} {xs : List LV} {vs : List V} (r : RVs K H xs vs) : xs.isEmpty = vs.isEmpty := by cases r <;> rfl
theorem RKs.isEmpty {K : PySem.W.Frag} {H : Hp} {α β : Type} {n : α → β} {xs : List (α × LV)} {vs : List (β × V)} (r : RKs K H n xs vs) : xs.isEmpty = vs.isEmpty := by cases r <;> rfl
theorem lt_truth (ha : LE X W a la) (he : ∀ whole, isTrue a X.env whole = (do let v ← whole; standAt a.pos; holding [v] (truthy v)) := by intro _; rfl) : LT X W a (lTru la) :=
  ptW (pt_truth ha he) fun σ H Q ⟨s, h, E, L, z, hl, o⟩ => ⟨s, h, E, _, z, hl, fun v H1 x h1 t1 r1 rx q1 => by
    cases x with
    | non => cases rx; exact ⟨false, rfl, o _ H1 h1 t1 r1 q1⟩
    | bl b => cases rx; exact ⟨b, rfl, o _ H1 h1 t1 r1 q1⟩
    | int i => cases rx; exact ⟨_, rfl, o _ H1 h1 t1 r1 q1⟩
    | str y => cases rx; exact ⟨_, ⟨q1.1, rfl⟩, o _ H1 h1 t1 r1 q1.2⟩
    | ty n => exact q1.elim
    | tup xs =>
      cases rx with
      | tup ht hr => exact ⟨_, Or.inr (Or.inl ⟨_, ht, rfl⟩), o _ H1 h1 t1 r1 (by rw [← hr.isEmpty]; exact q1)⟩
    | rl xs =>
      cases rx with
      | rl ht hr => exact ⟨_, Or.inl ⟨_, ht.sq, rfl⟩, o _ H1 h1 t1 r1 (by rw [← hr.isEmpty]; exact q1)⟩
    | ref p =>
      cases rx
      have q2 : (match h1 p with
        | some (.lst xs) => L (!xs.isEmpty) h1
        | some (.dic xs) => L (!xs.isEmpty) h1
        | _ => False) := q1
      split at q2
      · rename_i xs e
        obtain ⟨vs, e2, rr⟩ := r1 p _ e
        exact ⟨_, Or.inl ⟨_, SqL.of e2, rfl⟩, o _ H1 h1 t1 r1 (by rw [← rr.isEmpty]; exact q2)⟩
      · rename_i xs e
        obtain ⟨vs, e2, rr⟩ := r1 p _ e
        exact ⟨_, Or.inr (Or.inr ⟨_, e2, rfl⟩), o _ H1 h1 t1 r1 (by rw [← rr.isEmpty]; exact q2)⟩
      · exact q2.elim⟩

/-! ### arguments, tuples, lists -/
def lNil : LTA := fun _ h _ L => L [] h
def lCons (la : LTE) (lr : LTA) : LTA := fun s h E L => la s h E fun x h1 => lr s h1 E fun xs h2 => L (x :: xs) h2
variable {lr : LTA}
theorem la_nil : LA X W [] lNil := paW pa_nil fun σ H Q ⟨s, h, E, L, z, hl, o⟩ => o [] H [] h (.refl H) z.rh .nil hl
theorem la_cons (ha : LE X W e le) (hr : LA X W es lr) (hs : starEach (e :: es) X.env = (false, eval e X.env) :: starEach es X.env := by rfl) : LA X W (e :: es) (lCons le lr) :=
  paW (pa_cons ha hr hs) fun σ H Q ⟨s, h, E, L, z, hl, o⟩ => ⟨s, h, E, _, z, hl, fun v H1 x h1 t1 r1 rx q1 => ⟨s, h1, E, _, z.step t1 r1, q1, fun vs H2 xs h2 t2 r2 rxs q2 => o _ H2 _ h2 (t1.trans t2) r2 (.cons (rx.mono t2) rxs) q2⟩⟩
def lTup (la : LTA) : LTE := fun s h E L => la s h E fun xs h1 => xs.length ≤ 100000 ∧ L (.tup xs) h1
def lLst (la : LTA) : LTE := fun s h E L => la s h E fun xs h1 => xs.length ≤ 100000 ∧ ∀ p, h1 p = none → L (.ref p) (up h1 p (.lst xs))
theorem szl {n : Nat} (h : n ≤ 100000) : n ≤ sizeLine := Nat.le_trans h (by decide)
theorem le_tup {x1} (ha : LA X W es lr) : LE X W (.Tuple es x1 pos) (lTup lr) := peW (pe_tup ha) fun σ H Q ⟨s, h, E, L, z, hl, o⟩ =>
  ⟨s, h, E, _, z, hl, fun vs H1 xs h1 t1 r1 rxs q1 => ⟨by rw [← rxs.length]; exact szl q1.1, fun p hp => o _ _ (.tup xs) h1 (t1.trans (.new hp)) (r1.new hp) (.tup (.of upd_same) (rxs.mono (.new hp))) q1.2⟩⟩
theorem le_lst (ha : LA X W es lr) : LE X W (.List es pos) (lLst lr) := peW (pe_lst ha) fun σ H Q ⟨s, h, E, L, z, hl, o⟩ =>
  ⟨s, h, E, _, z, hl, fun vs H1 xs h1 t1 r1 rxs q1 => ⟨by rw [← rxs.length]; exact szl q1.1, fun p hp => o _ _ (.ref p) _ (t1.trans (.new hp)) (r1.lay hp (.mkL upd_same (rxs.mono (.new hp)))) (.ref p) (q1.2 p (r1.fresh hp))⟩⟩
end
end VL

set_option Elab.async false
set_option linter.all false
set_option maxRecDepth 100000
set_option maxHeartbeats 2000000
namespace VL
open PySem PySem.Spec PyProof.Rows L2
theorem OpR.or {X : Cx} {f : Value → Value → Sem Value} {r r' : R2} (h : OpR X f r) (h' : OpR X f r') : OpR X f (fun x y H Q => r x y H Q ∨ r' x y H Q) := by
  intro pins s σ H x y v u Q I rx ry q
  rcases q with q | q
  · exact h pins s σ H x y v u Q I rx ry q
  · exact h' pins s σ H x y v u Q I rx ry q
theorem CallR.or {X : Cx} {f : Value} {r r' : List V → Hp → VK → Prop} (h : CallR X f r) (h' : CallR X f r') : CallR X f (fun x H Q => r x H Q ∨ r' x H Q) := by
  intro pins s σ H x v Q I rx q
  rcases q with q | q
  · exact h pins s σ H x v Q I rx q
  · exact h' pins s σ H x v Q I rx q
theorem OpR.nev {X : Cx} {f : Value → Value → Sem Value} : OpR X f (fun _ _ _ _ => False) := by
  intro pins s σ H x y v u Q I rx ry q
  exact q.elim
section
variable {K : PySem.W.Frag}
/-! ### arithmetic -/
def gInt (f : Int → Int → Int) : LR2 := fun x y h L => match x, y with
  | .int i, .int j => L (.int (f i j)) h
  | _, _ => False
def gIntC (C : Int → Int → Prop) (f : Int → Int → Int) : LR2 := fun x y h L => match x, y with
  | .int i, .int j => C i j ∧ L (.int (f i j)) h
  | _, _ => False
def gCmp (f : Int → Int → Bool) : LR2 := fun x y h L => match x, y with
  | .int i, .int j => L (.bl (f i j)) h
  | _, _ => False
theorem sr_int {f : Int → Int → Int} : SR2 K (rI0 fun i j => .int (f i j)) (gInt f) := fun H h x y v u L Q rh rx ry g o => by
  unfold gInt at g
  split at g
  · cases rx; cases ry
    exact ⟨_, _, rfl, rfl, o _ H _ h (.refl H) rh (.int _) g⟩
  · exact g.elim
theorem sr_intC {C : Int → Int → Prop} {f : Int → Int → Int} : SR2 K (rI C fun i j => .int (f i j)) (gIntC C f) := fun H h x y v u L Q rh rx ry g o => by
  unfold gIntC at g
  split at g
  · cases rx; cases ry
    exact ⟨_, _, rfl, rfl, g.1, o _ H _ h (.refl H) rh (.int _) g.2⟩
  · exact g.elim
theorem sr_cmp {f : Int → Int → Bool} : SR2 K (rI0 fun i j => .bl (f i j)) (gCmp f) := fun H h x y v u L Q rh rx ry g o => by
  unfold gCmp at g
  split at g
  · cases rx; cases ry
    exact ⟨_, _, rfl, rfl, o _ H _ h (.refl H) rh (.bl _) g⟩
  · exact g.elim
abbrev gSub : LR2 := gInt fun i j => i - j
abbrev gFdiv : LR2 := gIntC CDiv fun i j => i / j
abbrev gMod : LR2 := gIntC (fun _ j => 0 < j) fun i j => i % j
abbrev gPow : LR2 := gIntC CPow fun i j => i ^ j.toNat
/-- x + y -/
def gAdd : LR2 := fun x y h L => match x, y with
  | .int i, .int j => L (.int (i + j)) h
  | .str a, .str b => a.length + b.length ≤ sizeLine ∧ L (.str (a ++ b)) h
  | .tup a, .tup b => a.length + b.length ≤ 100000 ∧ L (.tup (a ++ b)) h
  | .ref a, .ref b => (match h a, h b with
    | some (.lst xs), some (.lst ys) => xs.length + ys.length ≤ 100000 ∧ ∀ p, h p = none → L (.ref p) (up h p (.lst (xs ++ ys)))
    | _, _ => False)
  | _, _ => False
def rAddStr : R2 := fun x y H Q => ∃ i j, x = .str i ∧ y = .str j ∧ i.length + j.length ≤ sizeLine ∧ Q (.str (i ++ j)) H
def rAdd4 (K : PySem.W.Frag) : R2 := fun x y H Q => (rI0 (fun i j => .int (i + j))) x y H Q ∨ (rAddStr x y H Q ∨ (rCatA K x y H Q ∨ rCat x y H Q))
theorem op_add4 {X : Cx} : OpR X (binaryOp .Add) (rAdd4 X.K) := (op_add).or ((show OpR X _ rAddStr from op_add_str).or ((op_catA).or op_cat))
theorem sr_add : SR2 K (rAdd4 K) gAdd := fun H h x y v u L Q rh rx ry g o => by
  unfold gAdd at g
  split at g
  · cases rx; cases ry
    exact .inl ⟨_, _, rfl, rfl, o _ H _ h (.refl H) rh (.int _) g⟩
  · cases rx; cases ry
    exact .inr (.inl ⟨_, _, rfl, rfl, g.1, o _ H _ h (.refl H) rh (.str _) g.2⟩)
  · rename_i a b
    cases rx with
    | tup ta ra =>
      cases ry with
      | tup tb rb =>
        refine .inr (.inr (.inl ⟨_, _, _, _, rfl, rfl, ta, tb, by rw [← ra.length, ← rb.length]; exact szl g.1, ?_, ?_, ?_⟩))
        · intro e
          subst e
          cases ra
          exact o _ H (.tup ([] ++ b)) h (.refl H) rh (.tup tb rb) g.2
        · intro _ e
          subst e
          cases rb
          refine o _ H (.tup (a ++ [])) h (.refl H) rh ?_ g.2
          rw [List.append_nil]
          exact .tup ta ra
        · intro _ _ p hp
          exact o _ _ (.tup (a ++ b)) h (.new hp) (rh.new hp) (.tup (.of upd_same) ((ra.append rb).mono (.new hp))) g.2
  · rename_i a b
    cases rx
    cases ry
    split at g
    · rename_i xs ys ea eb
      obtain ⟨vs, e1, q1⟩ := rh a _ ea
      obtain ⟨ws, e2, q2⟩ := rh b _ eb
      exact .inr (.inr (.inr ⟨a, b, vs, ws, rfl, rfl, e1, e2, by rw [← q1.length, ← q2.length]; exact szl g.1, fun p hp =>
        o _ _ (.ref p) _ (.new hp) (rh.lay hp (.mkL upd_same ((q1.append q2).mono (.new hp)))) (.ref p) (g.2 p (rh.fresh hp))⟩))
    · exact g.elim
  · exact g.elim
/-- x * y: ints (one within 2^64), a list or a tuple repeated -/
def gMul : LR2 := fun x y h L => match x, y with
  | .int i, .int j => ((-(2 ^ 64) < i ∧ i < 2 ^ 64) ∨ (-(2 ^ 64) < j ∧ j < 2 ^ 64)) ∧ L (.int (i * j)) h
  | .ref a, .int k => (match h a with
    | some (.lst xs) => -(2 ^ 62) ≤ k ∧ k < 2 ^ 62 ∧ xs.length * k.toNat ≤ 100000 ∧ ∀ p, h p = none → L (.ref p) (up h p (.lst (List.replicate k.toNat xs).flatten))
    | _ => False)
  | _, _ => False
theorem sr_mul : SR2 K (fun x y H Q => (rI CMul (fun i j => .int (i * j))) x y H Q ∨ rRep x y H Q) gMul := fun H h x y v u L Q rh rx ry g o => by
  unfold gMul at g
  split at g
  · cases rx; cases ry
    exact .inl ⟨_, _, rfl, rfl, g.1, o _ H _ h (.refl H) rh (.int _) g.2⟩
  · rename_i a k
    cases rx
    cases ry
    split at g
    · rename_i xs ea
      obtain ⟨vs, e1, q1⟩ := rh a _ ea
      obtain ⟨g1, g2, g3, g4⟩ := g
      exact .inr ⟨a, k, vs, rfl, rfl, e1, by omega, by omega, by rw [← q1.length]; exact szl g3, fun p hp =>
        o _ _ (.ref p) _ (.new hp) (rh.lay hp (.mkL upd_same ((q1.rep _).mono (.new hp)))) (.ref p) (g4 p (rh.fresh hp))⟩
    · exact g.elim
  · exact g.elim
theorem op_mul2 {X : Cx} : OpR X (binaryOp .Mult) (fun x y H Q => (rI CMul (fun i j => .int (i * j))) x y H Q ∨ rRep x y H Q) := op_mul.or op_rep

/-! ### == -/
def allD (f : LV → Option PyData) : List LV → Option (List PyData)
  | [] => some []
  | x :: xs => match f x, allD f xs with
    | some d, some ds => some (d :: ds)
    | _, _ => none
/-- a value as data; the lists as they are in h -/
def toD (h : LH) : Nat → LV → Option PyData
  | 0, _ => none
  | n + 1, x => match x with
    | .non => some .none
    | .bl b => some (.bool b)
    | .int i => some (.int i)
    | .str z => some (.str z)
    | .tup xs => (match allD (toD h n) xs with
      | some ds => some (.tuple ds)
      | none => none)
    | .rl xs => (match allD (toD h n) xs with
      | some ds => some (.list ds)
      | none => none)
    | .ref a => (match h a with
      | some (.lst xs) => (match allD (toD h n) xs with
        | some ds => some (.list ds)
        | none => none)
      | _ => none)
    | _ => none
theorem allD_ok {H : Hp} {f : LV → Option PyData} (hf : ∀ x v d, RV K H x v → f x = some d → Dp K H v d) : ∀ (xs : List LV) (vs : List V) (ds : List PyData), RVs K H xs vs → allD f xs = some ds → DpAll K H vs ds
  | [], _, _, .nil, e => by cases e; exact .nil
  | x :: xs, _, ds, .cons (v := v) (vs := vs) a b, e => by
    unfold allD at e
    split at e
    · rename_i d ds' e1 e2
      cases e
      exact .cons (hf _ _ _ a e1) (allD_ok hf xs vs ds' b e2)
    · cases e
theorem toD_ok {H : Hp} {h : LH} (rh : RH K H h) : ∀ (n : Nat) (x : LV) (v : V) (d : PyData), RV K H x v → toD h n x = some d → Dp K H v d
  | 0, _, _, _, _, e => by cases e
  | n + 1, x, v, d, r, e => by
    cases r with
    | non => cases e; exact .non
    | bl b => cases e; exact .bl b
    | int i => cases e; exact .int i
    | str z => cases e; exact .str z
    | ty t => cases e
    | tup ht hr =>
      rename_i xs vs
      unfold toD at e
      simp only at e
      split at e
      · rename_i ds e1
        cases e
        exact .tup ht (allD_ok (toD_ok rh n) xs vs ds hr e1)
      · cases e
    | rl ht hr =>
      rename_i xs vs
      unfold toD at e
      simp only at e
      split at e
      · rename_i ds e1
        cases e
        exact .lst ht.sq (allD_ok (toD_ok rh n) xs vs ds hr e1)
      · cases e
    | ref a =>
      unfold toD at e
      simp only at e
      split at e
      · rename_i xs ea
        obtain ⟨vs, e2, hr⟩ := rh a _ ea
        split at e
        · rename_i ds e1
          cases e
          exact .lst (.of e2) (allD_ok (toD_ok rh n) xs vs ds hr e1)
        · cases e
      · cases e
def gEqW (f : Bool → Bool) : LR2 := fun x y h L => match x, y with
  | .int i, .int j => L (.bl (f (decide (i = j)))) h
  | .str i, .str j => L (.bl (f (decide (i = j)))) h
  | .bl i, .bl j => L (.bl (f (decide (i = j)))) h
  | .non, .non => L (.bl (f true)) h
  | x, y => (match toD h 8 x, toD h 8 y with
    | some d, some e => SeqAt.shaped d = true ∧ SeqAt.shaped e = true ∧ L (.bl (f (PyData.eqv d e))) h
    | _, _ => False)
abbrev gEq : LR2 := gEqW id
abbrev gNe : LR2 := gEqW (!·)
theorem decI {i j : Int} : decide (V.int i = V.int j) = decide (i = j) := by simp
theorem decS {i j : Str} : decide (V.str i = V.str j) = decide (i = j) := by simp
theorem decB {i j : Bool} : decide (V.bl i = V.bl j) = decide (i = j) := by simp
theorem sr_eqW {f : Bool → Bool} {r1 r2 : R2} (h1 : ∀ x y H Q, scal x y = true → Q (.bl (f (decide (x = y)))) H → r1 x y H Q)
    (h2 : ∀ x y H Q d e, Dp K H x d → Dp K H y e → SeqAt.shaped d = true → SeqAt.shaped e = true → Q (.bl (f (PyData.eqv d e))) H → r2 x y H Q) : SR2 K (fun x y H Q => r1 x y H Q ∨ r2 x y H Q) (gEqW f) := fun H h x y v u L Q rh rx ry g o => by
  unfold gEqW at g
  split at g
  · cases rx; cases ry
    exact .inl (h1 _ _ _ _ rfl (by rw [decI]; exact o _ H _ h (.refl H) rh (.bl _) g))
  · cases rx; cases ry
    exact .inl (h1 _ _ _ _ rfl (by rw [decS]; exact o _ H _ h (.refl H) rh (.bl _) g))
  · cases rx; cases ry
    exact .inl (h1 _ _ _ _ rfl (by rw [decB]; exact o _ H _ h (.refl H) rh (.bl _) g))
  · cases rx; cases ry
    exact .inl (h1 _ _ _ _ rfl (o _ H _ h (.refl H) rh (.bl _) g))
  · split at g
    · rename_i d e e1 e2
      exact .inr (h2 _ _ _ _ d e (toD_ok rh 8 _ _ _ rx e1) (toD_ok rh 8 _ _ _ ry e2) g.1 g.2.1 (o _ H _ h (.refl H) rh (.bl _) g.2.2))
    · exact g.elim
theorem sr_eq : SR2 K (fun x y H Q => rEq x y H Q ∨ rEqD K x y H Q) gEq := sr_eqW (fun x y H Q h q => ⟨h, q⟩) fun x y H Q d e a b c k q => ⟨d, e, a, b, c, k, q⟩
theorem sr_ne : SR2 K (fun x y H Q => rNe x y H Q ∨ rNeD K x y H Q) gNe := sr_eqW (fun x y H Q h q => ⟨h, q⟩) fun x y H Q d e a b c k q => ⟨d, e, a, b, c, k, q⟩
theorem op_eq2 {X : Cx} (hu : X.A.units + 64 < cLine) : OpR X (compareOp .Eq) (fun x y H Q => rEq x y H Q ∨ rEqD X.K x y H Q) := op_eq.or (op_eqD hu)
theorem op_ne2 {X : Cx} (hu : X.A.units + 64 < cLine) : OpR X (compareOp .NotEq) (fun x y H Q => rNe x y H Q ∨ rNeD X.K x y H Q) := op_ne.or (op_neD hu)

/-! ### is -/
def gIs (f : Bool → Bool) : LR2 := fun x y h L => match x, y with
  | .non, .non => L (.bl (f true)) h
  | _, .non => L (.bl (f false)) h
  | .bl a, .bl b => L (.bl (f (decide (a = b)))) h
  | _, _ => False
def rIsW (f : Bool → Bool) : R2 := fun x y H Q => (y = .non ∧ Q (.bl (f (decide (x = .non)))) H) ∨ ∃ a b, x = .bl a ∧ y = .bl b ∧ Q (.bl (f (decide (a = b)))) H
theorem op_is2 {X : Cx} : OpR X (compareOp .Is) (rIsW id) := op_isN.or op_is_bl
theorem op_isnot2 {X : Cx} : OpR X (compareOp .IsNot) (rIsW (!·)) := op_notN.or op_isnot_bl
theorem sr_is {f : Bool → Bool} : SR2 K (rIsW f) (gIs f) := fun H h x y v u L Q rh rx ry g o => by
  unfold gIs at g
  split at g
  · cases rx; cases ry
    exact .inl ⟨rfl, o _ H _ h (.refl H) rh (.bl _) g⟩
  · rename_i hx
    cases ry
    refine .inl ⟨rfl, ?_⟩
    have e : decide (v = V.non) = false := by
      cases rx <;> first | rfl | exact absurd rfl hx
    rw [e]
    exact o _ H _ h (.refl H) rh (.bl _) g
  · cases rx; cases ry
    exact .inr ⟨_, _, rfl, rfl, o _ H _ h (.refl H) rh (.bl _) g⟩
  · exact g.elim

/-! ### in -/
def lfl : LV → Option V
  | .non => some .non
  | .bl b => some (.bl b)
  | .int i => some (.int i)
  | .str z => some (.str z)
  | _ => none
def lfls : List LV → Option (List V)
  | [] => some []
  | x :: xs => match lfl x, lfls xs with
    | some d, some ds => some (d :: ds)
    | _, _ => none
theorem lfl_ok {H : Hp} {x : LV} {v w : V} (r : RV K H x v) (e : lfl x = some w) : v = w ∧ flatV v = true := by
  cases r <;> first | (cases e; exact ⟨rfl, rfl⟩) | cases e
theorem lfls_ok {H : Hp} : ∀ {xs : List LV} {vs ws : List V}, RVs K H xs vs → lfls xs = some ws → vs = ws ∧ vs.all flatV = true
  | [], _, _, .nil, e => by cases e; exact ⟨rfl, rfl⟩
  | x :: xs, _, ws, .cons a b, e => by
    unfold lfls at e
    split at e
    · rename_i d ds e1 e2
      cases e
      obtain ⟨rfl, h1⟩ := lfl_ok a e1
      obtain ⟨rfl, h2⟩ := lfls_ok b e2
      exact ⟨rfl, by rw [List.all_cons, h1, h2]; rfl⟩
    · cases e
/-- an int or a text as a key -/
def keyOf : LV → Option Key
  | .int i => some (.inl i)
  | .str z => some (.inr z)
  | _ => none
theorem keyOf_ok {H : Hp} {x : LV} {v : V} {k : Key} (r : RV K H x v) (e : keyOf x = some k) : v = kV k := by
  cases r <;> first | (cases e; rfl) | cases e
def gInL (f : Bool → Bool) (x : LV) (ys : List LV) (h : LH) (L : LK) : Prop := match lfl x, lfls ys with
  | some v, some ws => L (.bl (f (inV v ws))) h
  | _, _ => (match toD h 8 x, allD (toD h 7) ys with
    | some d, some ds => False
    | _, _ => False)
def gIn (f : Bool → Bool) : LR2 := fun x y h L => match y with
  | .tup ys => gInL f x ys h L
  | .rl ys => gInL f x ys h L
  | .str z => (match x with
    | .str c => (match c.cps.toList with
      | [k] => L (.bl (f (decide (k ∈ z.cps.toList)))) h
      | _ => False)
    | _ => False)
  | .ref a => (match h a with
    | some (.lst ys) => (match lfl x, lfls ys with
      | some v, some ws => L (.bl (f (inV v ws))) h
      | _, _ => (match toD h 8 x, toD h 8 (.ref a) with
        | some d, some (.list ds) => SeqAt.shaped d = true ∧ SeqAt.shaped (.list ds) = true ∧ L (.bl (f (ds.any fun z => PyData.eqv z d))) h
        | _, _ => False))
    | some (.dic kvs) => (match keyOf x with
      | some k => L (.bl (f (dget kvs k).isSome)) h
      | none => False)
    | some (.fdi kvs) => (match keyOf x with
      | some k => L (.bl (f (dget kvs k).isSome)) h
      | none => False)
    | _ => False)
  | _ => False
def rInW (K : PySem.W.Frag) (f : Bool → Bool) : R2 := fun x y H Q => (∃ p xs, y = .ref p ∧ (SqL K H p xs ∨ SqT K H p xs) ∧ flatV x = true ∧ xs.all flatV = true ∧ Q (.bl (f (inV x xs))) H) ∨
  (∃ (c : Nat) (z : Str), x = .str ⟨#[c]⟩ ∧ y = .str z ∧ Q (.bl (f (decide (c ∈ z.cps.toList)))) H) ∨
  (∃ d ds, Dp K H x d ∧ Dp K H y (.list ds) ∧ SeqAt.shaped d = true ∧ SeqAt.shaped (.list ds) = true ∧ Q (.bl (f (ds.any fun z => PyData.eqv z d))) H) ∨
  ∃ a o, y = .ref a ∧ DGet H a x o ∧ Q (.bl (f o.isSome)) H
theorem op_inW {X : Cx} (hu : X.A.units + 65 < cLine) : OpR X (compareOp .In) (rInW X.K id) := by
  intro pins s σ H x y v u Q I rx ry q
  rcases q with q | q | q | ⟨a, o, rfl, g, q⟩
  · exact op_in_seq pins s σ H x y v u Q I rx ry q
  · exact op_in_sign pins s σ H x y v u Q I rx ry q
  · exact op_inD hu pins s σ H x y v u Q I rx ry q
  · cases ry
    exact d_in (by omega) I g rx fun s' I' => ⟨.bl o.isSome, H, I', rfl, q⟩
theorem op_notInW {X : Cx} (hu : X.A.units + 65 < cLine) : OpR X (compareOp .NotIn) (rInW X.K (!·)) := by
  intro pins s σ H x y v u Q I rx ry q
  rcases q with q | q | q | ⟨a, o, rfl, g, q⟩
  · exact op_notIn_seq pins s σ H x y v u Q I rx ry q
  · exact op_notIn_sign pins s σ H x y v u Q I rx ry q
  · exact op_notInD hu pins s σ H x y v u Q I rx ry q
  · cases ry
    exact d_notIn (by omega) I g rx fun s' I' => ⟨.bl (!o.isSome), H, I', rfl, q⟩
theorem isSome_of {H : Hp} {kvs : List (Key × LV)} {ws : List (Key × V)} {k : Key} (r : RKs K H id kvs ws) : (dget kvs k).isSome = (valV ws k).isSome := by
  obtain ⟨h1, h2⟩ := r.dget (k := k)
  cases e : dget kvs k with
  | none => rw [h2 e]; rfl
  | some x =>
    obtain ⟨v, e1, _⟩ := h1 x e
    rw [e1]
    rfl
theorem sr_inL {f : Bool → Bool} {H : Hp} {h : LH} {x : LV} {ys : List LV} {v : V} {p : Addr} {vs : List V} {L : LK} {Q : VK} (rh : RH K H h) (rx : RV K H x v) (hs : SqL K H p vs ∨ SqT K H p vs) (rs : RVs K H ys vs) (g : gInL f x ys h L) (o : OutV K H Q L) : rInW K f v (.ref p) H Q := by
  unfold gInL at g
  split at g
  · rename_i w ws e1 e2
    obtain ⟨rfl, f1⟩ := lfl_ok rx e1
    obtain ⟨rfl, f2⟩ := lfls_ok rs e2
    exact .inl ⟨p, _, rfl, hs, f1, f2, o _ H _ h (.refl H) rh (.bl _) g⟩
  · split at g <;> exact g.elim
theorem sr_in {f : Bool → Bool} : SR2 K (rInW K f) (gIn f) := fun H h x y v u L Q rh rx ry g o => by
  unfold gIn at g
  split at g
  · cases ry with
    | tup ht hr => exact sr_inL rh rx (.inr ht) hr g o
  · cases ry with
    | rl ht hr => exact sr_inL rh rx (.inl ht.sq) hr g o
  · cases ry
    split at g
    · rename_i c
      cases rx
      split at g
      · rename_i k e
        refine .inr (.inl ⟨k, _, ?_, rfl, o _ H _ h (.refl H) rh (.bl _) g⟩)
        obtain ⟨⟨l⟩⟩ := c
        have e2 : l = [k] := e
        subst e2
        rfl
      · exact g.elim
    · exact g.elim
  · rename_i a
    cases ry
    split at g
    · rename_i ys ea
      obtain ⟨vs, e1, q1⟩ := rh a _ ea
      split at g
      · rename_i w ws e2 e3
        obtain ⟨rfl, f1⟩ := lfl_ok rx e2
        obtain ⟨rfl, f2⟩ := lfls_ok q1 e3
        exact .inl ⟨a, _, rfl, .inl (.of e1), f1, f2, o _ H _ h (.refl H) rh (.bl _) g⟩
      · split at g
        · rename_i d ds e2 e3
          exact .inr (.inr (.inl ⟨d, ds, toD_ok rh 8 _ _ _ rx e2, toD_ok rh 8 _ _ _ (.ref a) e3, g.1, g.2.1, o _ H _ h (.refl H) rh (.bl _) g.2.2⟩))
        · exact g.elim
    · rename_i kvs ea
      obtain ⟨ws, e1, q1⟩ := rh a _ ea
      split at g
      · rename_i k ek
        have e2 := keyOf_ok rx ek
        subst e2
        exact .inr (.inr (.inr ⟨a, _, rfl, .k e1, o _ H _ h (.refl H) rh (.bl _) (by rw [← isSome_of q1]; exact g)⟩))
      · exact g.elim
    · rename_i kvs ea
      obtain ⟨ob, ws, e1, q1⟩ := rh a _ ea
      split at g
      · rename_i k ek
        have e2 := keyOf_ok rx ek
        subst e2
        exact .inr (.inr (.inr ⟨a, _, rfl, .inl ⟨ws, k, .inr ⟨ob, e1⟩, rfl, rfl⟩, o _ H _ h (.refl H) rh (.bl _) (by rw [← isSome_of q1]; exact g)⟩))
      · exact g.elim
    · exact g.elim
  · exact g.elim

/-! ### subscripts -/
theorem ixN_lt {n : Nat} {i : Int} {j : Nat} (h : ixN n i = some j) : j < n := by
  unfold ixN at h
  split at h
  · split at h
    · cases h; omega
    · cases h
  · split at h
    · cases h; omega
    · cases h
theorem atI_of {H : Hp} {xs : List LV} {vs : List V} {i : Int} {x : LV} (r : RVs K H xs vs) (e : atI xs i = some x) : ∃ v, atI vs i = some v ∧ RV K H x v := by
  unfold atI at e ⊢
  rw [← r.length]
  cases q : ixN xs.length i with
  | none => rw [q] at e; cases e
  | some j =>
    rw [q] at e
    exact r.get e
def gIx : LR2 := fun x y h L => match x with
  | .tup xs => (match y with
    | .int i => (match atI xs i with
      | some v => L v h
      | none => False)
    | _ => False)
  | .rl xs => (match y with
    | .int i => (match atI xs i with
      | some v => L v h
      | none => False)
    | _ => False)
  | .str z => (match y with
    | .int i => (match atI z.cps.toList i with
      | some c => z.length ≤ sizeLine ∧ L (.str ⟨#[c]⟩) h
      | none => False)
    | _ => False)
  | .ref a => (match h a with
    | some (.lst xs) => (match y with
      | .int i => (match atI xs i with
        | some v => L v h
        | none => False)
      | _ => False)
    | some (.dic kvs) => (match keyOf y with
      | some k => (match dget kvs k with
        | some v => L v h
        | none => False)
      | none => False)
    | some (.fdi kvs) => (match keyOf y with
      | some k => (match dget kvs k with
        | some v => L v h
        | none => False)
      | none => False)
    | _ => False)
  | _ => False
def rIxD : R2 := fun x y H Q => ∃ a v, x = .ref a ∧ DGet H a y (some v) ∧ Q v H
theorem ix_dic {X : Cx} (hu : X.A.units + 1 < cLine) : IxR X rIxD := by
  intro value slice pins s σ H x y v u Q I rx ry h hs
  obtain ⟨a, w, rfl, g, q⟩ := h
  cases rx
  exact tail_any (dict_typeIs I g) PySem.F.slot_dict_getitem.lookup (d_getItem hu I g ry fun w' s' I' r' => ⟨w, H, I', r', q⟩) hs
theorem ix_all {X : Cx} (hu : X.A.units + 1 < cLine) : IxR X (fun x y H Q => rIx X.K x y H Q ∨ rIxD x y H Q) := ix_seq.or (ix_dic hu)
theorem sr_ix : SR2 K (fun x y H Q => rIx K x y H Q ∨ rIxD x y H Q) gIx := fun H h x y v u L Q rh rx ry g o => by
  unfold gIx at g
  split at g
  · cases rx with
    | tup ht hr =>
      split at g
      · cases ry
        split at g
        · rename_i w e
          obtain ⟨w', e1, r1⟩ := atI_of hr e
          exact .inl (.inr (.inl ⟨_, _, _, w', rfl, rfl, ht, e1, o _ H _ h (.refl H) rh r1 g⟩))
        · exact g.elim
      · exact g.elim
  · cases rx with
    | rl ht hr =>
      split at g
      · cases ry
        split at g
        · rename_i w e
          obtain ⟨w', e1, r1⟩ := atI_of hr e
          exact .inl (.inl ⟨_, _, _, w', rfl, rfl, ht.sq, e1, o _ H _ h (.refl H) rh r1 g⟩)
        · exact g.elim
      · exact g.elim
  · cases rx
    split at g
    · cases ry
      split at g
      · rename_i c e
        exact .inl (.inr (.inr ⟨_, _, c, rfl, rfl, g.1, e, o _ H _ h (.refl H) rh (.str _) g.2⟩))
      · exact g.elim
    · exact g.elim
  · rename_i a
    cases rx
    split at g
    · rename_i xs ea
      obtain ⟨vs, e1, q1⟩ := rh a _ ea
      split at g
      · cases ry
        split at g
        · rename_i w e
          obtain ⟨w', e2, r1⟩ := atI_of q1 e
          exact .inl (.inl ⟨_, _, _, w', rfl, rfl, .of e1, e2, o _ H _ h (.refl H) rh r1 g⟩)
        · exact g.elim
      · exact g.elim
    · rename_i kvs ea
      obtain ⟨ws, e1, q1⟩ := rh a _ ea
      split at g
      · rename_i k ek
        have e2 := keyOf_ok ry ek
        subst e2
        split at g
        · rename_i w e
          obtain ⟨w', e3, r1⟩ := (q1.dget (k := k)).1 w e
          exact .inr ⟨a, w', rfl, by rw [← e3]; exact .k e1, o _ H _ h (.refl H) rh r1 g⟩
        · exact g.elim
      · exact g.elim
    · rename_i kvs ea
      obtain ⟨ob, ws, e1, q1⟩ := rh a _ ea
      split at g
      · rename_i k ek
        have e2 := keyOf_ok ry ek
        subst e2
        split at g
        · rename_i w e
          obtain ⟨w', e3, r1⟩ := (q1.dget (k := k)).1 w e
          exact .inr ⟨a, w', rfl, .inl ⟨ws, k, .inr ⟨ob, e1⟩, rfl, e3.symm⟩, o _ H _ h (.refl H) rh r1 g⟩
        · exact g.elim
      · exact g.elim
    · exact g.elim
  · exact g.elim
end
section
variable {X : Cx} {W : WX} {a b e : Expr} {la lb le : LTE} {pos p2 : Pos} {ll lh : LTO}
theorem le_ix (hu : X.A.units + 1 < cLine) (ha : LE X W a la) (hb : LE X W b lb) (hs : PlainIx b := by intro _ _; rfl) : LE X W (.Subscript a b pos) (lOp gIx la lb) := peW (pe_ix (ix_all hu) ha hb hs) (op_imp sr_ix)
theorem le_add (ha : LE X W a la) (hb : LE X W b lb) : LE X W (.BinOp a .Add b pos) (lOp gAdd la lb) := le_op op_add4 sr_add ha hb
theorem le_sub (ha : LE X W a la) (hb : LE X W b lb) : LE X W (.BinOp a .Sub b pos) (lOp gSub la lb) := le_op op_sub sr_int ha hb
theorem le_mul (ha : LE X W a la) (hb : LE X W b lb) : LE X W (.BinOp a .Mult b pos) (lOp gMul la lb) := le_op op_mul2 sr_mul ha hb
theorem le_fdiv (ha : LE X W a la) (hb : LE X W b lb) : LE X W (.BinOp a .FloorDiv b pos) (lOp gFdiv la lb) := le_op op_fdiv sr_intC ha hb
theorem le_mod (ha : LE X W a la) (hb : LE X W b lb) : LE X W (.BinOp a .Mod b pos) (lOp gMod la lb) := le_op op_mod sr_intC ha hb
theorem le_pow (ha : LE X W a la) (hb : LE X W b lb) : LE X W (.BinOp a .Pow b pos) (lOp gPow la lb) := le_op op_pow sr_intC ha hb
abbrev gLt : LR2 := gCmp fun i j => decide (i < j)
abbrev gLe : LR2 := gCmp fun i j => decide (i ≤ j)
abbrev gGt : LR2 := gCmp fun i j => decide (j < i)
abbrev gGe : LR2 := gCmp fun i j => decide (j ≤ i)
theorem lt_eq (hu : X.A.units + 64 < cLine) (ha : LE X W a la) (hb : LE X W b lb) : LT X W (.Compare a [.Eq] [b] pos) (lTest (lOp gEq la lb)) := lt_cmpR (op_eq2 hu) sr_eq ha hb (nomark _)
theorem lt_ne (hu : X.A.units + 64 < cLine) (ha : LE X W a la) (hb : LE X W b lb) : LT X W (.Compare a [.NotEq] [b] pos) (lTest (lOp gNe la lb)) := lt_cmpR (op_ne2 hu) sr_ne ha hb (nomark _)
theorem lt_lt (ha : LE X W a la) (hb : LE X W b lb) : LT X W (.Compare a [.Lt] [b] pos) (lTest (lOp gLt la lb)) := lt_cmpR op_lt sr_cmp ha hb (nomark _)
theorem lt_le (ha : LE X W a la) (hb : LE X W b lb) : LT X W (.Compare a [.LtE] [b] pos) (lTest (lOp gLe la lb)) := lt_cmpR op_le sr_cmp ha hb (nomark _)
theorem lt_gt (ha : LE X W a la) (hb : LE X W b lb) : LT X W (.Compare a [.Gt] [b] pos) (lTest (lOp gGt la lb)) := lt_cmpR op_gt sr_cmp ha hb (nomark _)
theorem lt_ge (ha : LE X W a la) (hb : LE X W b lb) : LT X W (.Compare a [.GtE] [b] pos) (lTest (lOp gGe la lb)) := lt_cmpR op_ge sr_cmp ha hb (nomark _)
theorem le_eq (hu : X.A.units + 64 < cLine) (ha : LE X W a la) (hb : LE X W b lb) : LE X W (.Compare a [.Eq] [b] pos) (lOp gEq la lb) := le_cmpR (op_eq2 hu) sr_eq ha hb (nomark _)
theorem le_ne (hu : X.A.units + 64 < cLine) (ha : LE X W a la) (hb : LE X W b lb) : LE X W (.Compare a [.NotEq] [b] pos) (lOp gNe la lb) := le_cmpR (op_ne2 hu) sr_ne ha hb (nomark _)
theorem le_lt (ha : LE X W a la) (hb : LE X W b lb) : LE X W (.Compare a [.Lt] [b] pos) (lOp gLt la lb) := le_cmpR op_lt sr_cmp ha hb (nomark _)
theorem le_le (ha : LE X W a la) (hb : LE X W b lb) : LE X W (.Compare a [.LtE] [b] pos) (lOp gLe la lb) := le_cmpR op_le sr_cmp ha hb (nomark _)
theorem le_gt (ha : LE X W a la) (hb : LE X W b lb) : LE X W (.Compare a [.Gt] [b] pos) (lOp gGt la lb) := le_cmpR op_gt sr_cmp ha hb (nomark _)
theorem le_ge (ha : LE X W a la) (hb : LE X W b lb) : LE X W (.Compare a [.GtE] [b] pos) (lOp gGe la lb) := le_cmpR op_ge sr_cmp ha hb (nomark _)
theorem le_is (ha : LE X W a la) (hb : LE X W b lb) : LE X W (.Compare a [.Is] [b] pos) (lOp (gIs id) la lb) := le_cmpR op_is2 sr_is ha hb (nomark _)
theorem le_isnot (ha : LE X W a la) (hb : LE X W b lb) : LE X W (.Compare a [.IsNot] [b] pos) (lOp (gIs (!·)) la lb) := le_cmpR op_isnot2 sr_is ha hb (nomark _)
theorem lt_is (ha : LE X W a la) (hb : LE X W b lb) : LT X W (.Compare a [.Is] [b] pos) (lTest (lOp (gIs id) la lb)) := lt_cmpR op_is2 sr_is ha hb (nomark _)
theorem lt_isnot (ha : LE X W a la) (hb : LE X W b lb) : LT X W (.Compare a [.IsNot] [b] pos) (lTest (lOp (gIs (!·)) la lb)) := lt_cmpR op_isnot2 sr_is ha hb (nomark _)
theorem le_in (hu : X.A.units + 65 < cLine) (ha : LE X W a la) (hb : LE X W b lb) (hm : behindInMarks .In b = false := by with_unfolding_all rfl) : LE X W (.Compare a [.In] [b] pos) (lOp (gIn id) la lb) := le_cmpR (op_inW hu) sr_in ha hb hm
theorem le_notIn (hu : X.A.units + 65 < cLine) (ha : LE X W a la) (hb : LE X W b lb) (hm : behindInMarks .NotIn b = false := by with_unfolding_all rfl) : LE X W (.Compare a [.NotIn] [b] pos) (lOp (gIn (!·)) la lb) := le_cmpR (op_notInW hu) sr_in ha hb hm
theorem lt_in (hu : X.A.units + 65 < cLine) (ha : LE X W a la) (hb : LE X W b lb) (hm : behindInMarks .In b = false := by with_unfolding_all rfl) : LT X W (.Compare a [.In] [b] pos) (lTest (lOp (gIn id) la lb)) := lt_cmpR (op_inW hu) sr_in ha hb hm
theorem lt_notIn (hu : X.A.units + 65 < cLine) (ha : LE X W a la) (hb : LE X W b lb) (hm : behindInMarks .NotIn b = false := by with_unfolding_all rfl) : LT X W (.Compare a [.NotIn] [b] pos) (lTest (lOp (gIn (!·)) la lb)) := lt_cmpR (op_notInW hu) sr_in ha hb hm
/-! ### slices -/
def cutL (xs : List LV) (lo hi : Option Int) : List LV := (xs.drop (HT.sIx xs.length 0 lo)).take (HT.sIx xs.length xs.length hi - HT.sIx xs.length 0 lo)
theorem cut_ok {K : PySem.W.Frag} {H : Hp} {xs : List LV} {vs : List V} (r : RVs K H xs vs) (lo hi : Option Int) : RVs K H (cutL xs lo hi) (cutV vs lo hi) := by
  unfold cutL cutV
  rw [r.length]
  exact (r.drop _).take _
def gSl : LV → Option Int → Option Int → LH → LK → Prop := fun x lo hi h L => match x with
  | .tup xs => L (.tup (cutL xs lo hi)) h
  | .rl xs => ∀ p, h p = none → L (.ref p) (up h p (.lst (cutL xs lo hi)))
  | .str z => z.length ≤ sizeLine ∧ L (.str (cutS z lo hi)) h
  | .ref a => (match h a with
    | some (.lst xs) => ∀ p, h p = none → L (.ref p) (up h p (.lst (cutL xs lo hi)))
    | _ => False)
  | _ => False
theorem SlR.or {r r' : V → Option Int → Option Int → Hp → VK → Prop} (h : SlR X r) (h' : SlR X r') : SlR X (fun x lo hi H Q => r x lo hi H Q ∨ r' x lo hi H Q) := by
  intro pins s σ H x v vl vu lo hi sl Q I rx hs pl pu q
  rcases q with q | q
  · exact h pins s σ H x v vl vu lo hi sl Q I rx hs pl pu q
  · exact h' pins s σ H x v vl vu lo hi sl Q I rx hs pl pu q
def rSl3 (K : PySem.W.Frag) : V → Option Int → Option Int → Hp → VK → Prop := fun x lo hi H Q => rSlL K x lo hi H Q ∨ (rSlA K x lo hi H Q ∨ rSlS x lo hi H Q)
theorem sl_3 : SlR X (rSl3 X.K) := SlR.or sl_list (SlR.or sl_tupA sl_str)
theorem cut_whole {vs : List V} {lo hi : Option Int} (h : HT.sIx vs.length 0 lo = 0 ∧ HT.sIx vs.length vs.length hi = vs.length) : cutV vs lo hi = vs := by
  unfold cutV
  rw [h.1, h.2]
  simp
def lSl (l : LTE) (ll lh : LTO) : LTE := fun s h E L => l s h E fun x h1 => ll s h1 E fun lo h2 => lh s h2 E fun hi h3 => gSl x lo hi h3 L
def lNoP : LTO := fun _ h _ L => L none h
def lPart (l : LTE) : LTO := fun s h E L => l s h E fun x h1 => match x with
  | .int i => L (some i) h1
  | _ => False
theorem lo_none : LO' X W none lNoP := ⟨fun pins s σ H Q I ⟨s', h, E, L, z, hl, o⟩ => po_none.run pins s σ H Q I (o _ H h (.refl H) z.rh hl)⟩
theorem lo_some (h : LE X W e le) : LO' X W (some e) (lPart le) := ⟨fun pins s σ H Q I ⟨s', h', E, L, z, hl, o⟩ => (po_some h).run pins s σ H Q I ⟨s', h', E, _, z, hl, fun v H1 x h1 t1 r1 rx q1 => by
  cases x with
  | int i => cases rx; exact ⟨i, rfl, o _ H1 h1 t1 r1 q1⟩
  | _ => exact q1.elim⟩⟩
theorem le_slice {lo hi : Option Expr} (ha : LE X W e le) (hl : LO' X W lo ll) (hh : LO' X W hi lh) : LE X W (.Subscript e (.Slice lo hi none p2) pos) (lSl le ll lh) :=
  peW (pe_slice sl_3 ha hl hh) fun σ H Q ⟨s, h, E, L, z, hl, o⟩ => ⟨s, h, E, _, z, hl, fun v H1 x h1 t1 r1 rx q1 => ⟨s, h1, E, _, z.step t1 r1, q1, fun lo' H2 h2 t2 r2 q2 => ⟨s, h2, E, _, z.step (t1.trans t2) r2, q2, fun hi' H3 h3 t3 r3 q3 => by
    have o3 := o.step ((t1.trans t2).trans t3)
    have rx3 := (rx.mono t2).mono t3
    unfold gSl at q3
    split at q3
    · cases rx3 with
      | tup ht hr =>
        refine .inr (.inl ⟨_, _, rfl, ht, fun w => ?_, fun w p hp => ?_⟩)
        · refine o3 _ H3 _ h3 (.refl H3) r3 ?_ q3
          have c := cut_ok hr lo' hi'
          rw [cut_whole w] at c
          exact .tup ht c
        · exact o3 _ _ _ h3 (.new hp) (r3.new hp) (.tup (.of upd_same) ((cut_ok hr lo' hi').mono (.new hp))) q3
    · cases rx3 with
      | rl ht hr => exact .inl ⟨_, _, rfl, ht.sq, fun p hp => o3 _ _ (.ref p) _ (.new hp) (r3.lay hp (.mkL upd_same ((cut_ok hr lo' hi').mono (.new hp)))) (.ref p) (q3 p (r3.fresh hp))⟩
    · cases rx3
      exact .inr (.inr ⟨_, rfl, q3.1, o3 _ H3 _ h3 (.refl H3) r3 (.str _) q3.2⟩)
    · rename_i a
      cases rx3
      split at q3
      · rename_i xs ea
        obtain ⟨vs, e1, hr⟩ := r3 a _ ea
        exact .inl ⟨_, _, rfl, .of e1, fun p hp => o3 _ _ (.ref p) _ (.new hp) (r3.lay hp (.mkL upd_same ((cut_ok hr lo' hi').mono (.new hp)))) (.ref p) (q3 p (r3.fresh hp))⟩
      · exact q3.elim
    · exact q3.elim⟩⟩⟩
end
end VL

set_option Elab.async false
set_option linter.all false
set_option maxRecDepth 100000
set_option maxHeartbeats 2000000
namespace VL
open PySem PySem.Spec PyProof.Rows L2
/-! ### built-ins by values -/
abbrev LCR := List LV → LH → LK → Prop
def SRC (K : PySem.W.Frag) (r : List V → Hp → VK → Prop) (g : LCR) : Prop := ∀ (H : Hp) (h : LH) (xs : List LV) (vs : List V) (L : LK) (Q : VK), RH K H h → RVs K H xs vs → g xs h L → OutV K H Q L → r vs H Q
def lCB (g : LCR) (la : LTA) : LTE := fun s h E L => la s h E fun xs h1 => g xs h1 L
section
variable {X : Cx} {W : WX} {a b e : Expr} {es : List Expr} {la lb le : LTE} {lr : LTA} {pos p p2 : Pos} {x : Str} {id T : String} {r : List V → Hp → VK → Prop} {g : LCR}
theorem cb_imp (sr : SRC X.K r g) : ∀ σ H Q, upE X.K W (lCB g lr) σ H Q → tCB r (upA X.K W lr) σ H Q := fun σ H Q ⟨s, h, E, L, z, hl, o⟩ =>
  ⟨s, h, E, _, z, hl, fun vs H1 xs h1 t1 r1 rx q1 => sr H1 h1 xs vs L Q r1 rx q1 (o.step t1)⟩
theorem le_callB (hc : CallR X (.builtin id) r) (sr : SRC X.K r g) (hv : bootBuiltins x = some (.builtin id)) (hm : X.mg x = none) (ha : LA X W (e :: es) lr) (hg : Gl X x := by rfl) (hn : x ≠ "__name__" := by decide) (hdb : (x == ("__debug__" : Str)) = false := by decide)
    (he : starEach (e :: es) X.env = (false, eval e X.env) :: starEach es X.env := by rfl) (hpl : (backTo pos (starEach es X.env)).any (·.1) = false := by rfl) : LE X W (.Call (.Name x p) (e :: es) [] pos) (lCB g lr) :=
  peW (pe_callB hc hg hm hv ha hn hdb he hpl) (cb_imp sr)
theorem le_callT (hc : CallR X (.type T) r) (sr : SRC X.K r g) (hv : bootBuiltins x = some (.type T)) (hm : X.mg x = none) (ha : LA X W (e :: es) lr) (hg : Gl X x := by rfl) (hn : x ≠ "__name__" := by decide) (hdb : (x == ("__debug__" : Str)) = false := by decide)
    (he : starEach (e :: es) X.env = (false, eval e X.env) :: starEach es X.env := by rfl) (hpl : (backTo pos (starEach es X.env)).any (·.1) = false := by rfl) : LE X W (.Call (.Name x p) (e :: es) [] pos) (lCB g lr) :=
  peW (pe_callTy hc hg hm hv ha hn hdb he hpl) (cb_imp sr)
end
section
variable {K : PySem.W.Frag}
/-- len -/
def gLen : LCR := fun xs h L => match xs with
  | [.tup ys] => L (.int ys.length) h
  | [.rl ys] => L (.int ys.length) h
  | [.str z] => z.length ≤ sizeLine ∧ L (.int z.length) h
  | [.ref a] => (match h a with
    | some (.lst ys) => L (.int ys.length) h
    | some (.dic ys) => L (.int ys.length) h
    | _ => False)
  | _ => False
def rLen4 (K : PySem.W.Frag) : List V → Hp → VK → Prop := fun xs H Q => (∃ p ys, xs = [.ref p] ∧ (SqL K H p ys ∨ SqT K H p ys) ∧ Q (.int ys.length) H) ∨ (∃ z, xs = [.str z] ∧ z.length ≤ sizeLine ∧ Q (.int z.length) H) ∨ ∃ a kvs, xs = [V.ref a] ∧ H a = some (.dK kvs) ∧ Q (.int kvs.length) H
theorem call_len4 {X : Cx} : CallR X (.builtin "len") (rLen4 X.K) := CallR.or call_len_seq (CallR.or call_len_str call_lenD)
theorem src_len : SRC K (rLen4 K) gLen := fun H h xs vs L Q rh rx g o => by
  unfold gLen at g
  split at g
  · cases rx with
    | cons r t =>
      cases t
      cases r with
      | tup ht hr => exact .inl ⟨_, _, rfl, .inr ht, o _ H _ h (.refl H) rh (by rw [← hr.length]; exact .int _) g⟩
  · cases rx with
    | cons r t =>
      cases t
      cases r with
      | rl ht hr => exact .inl ⟨_, _, rfl, .inl ht.sq, o _ H _ h (.refl H) rh (by rw [← hr.length]; exact .int _) g⟩
  · cases rx with
    | cons r t =>
      cases t
      cases r
      exact .inr (.inl ⟨_, rfl, g.1, o _ H _ h (.refl H) rh (.int _) g.2⟩)
  · rename_i a
    cases rx with
    | cons r t =>
      cases t
      cases r
      split at g
      · rename_i ys ea
        obtain ⟨vs, e1, q1⟩ := rh a _ ea
        exact .inl ⟨_, _, rfl, .inl (.of e1), o _ H _ h (.refl H) rh (by rw [← q1.length]; exact .int _) g⟩
      · rename_i ys ea
        obtain ⟨vs, e1, q1⟩ := rh a _ ea
        refine .inr (.inr ?_)
        have q := o (.int (vs.length : Nat)) H _ h (.refl H) rh (by rw [← q1.length]; exact .int _) g
        exact ⟨a, vs, rfl, e1, q⟩
      · exact g.elim
  · exact g.elim
def gAbs : LCR := fun xs h L => match xs with
  | [.int i] => L (.int (if i < 0 then -i else i)) h
  | _ => False
theorem src_abs : SRC K (fun xs H Q => ∃ i, xs = [.int i] ∧ Q (.int (if i < 0 then -i else i)) H) gAbs := fun H h xs vs L Q rh rx g o => by
  unfold gAbs at g
  split at g
  · cases rx with
    | cons r t => cases t; cases r; exact ⟨_, rfl, o _ H _ h (.refl H) rh (.int _) g⟩
  · exact g.elim
def gII (f : Int → Int → Int) : LCR := fun xs h L => match xs with
  | [.int i, .int j] => L (.int (f i j)) h
  | _ => False
theorem src_II {f : Int → Int → Int} : SRC K (fun xs H Q => ∃ i j, xs = [.int i, .int j] ∧ Q (.int (f i j)) H) (gII f) := fun H h xs vs L Q rh rx g o => by
  unfold gII at g
  split at g
  · cases rx with
    | cons r t =>
      cases t with
      | cons r2 t => cases t; cases r; cases r2; exact ⟨_, _, rfl, o _ H _ h (.refl H) rh (.int _) g⟩
  · exact g.elim
abbrev gMax2 : LCR := gII fun i j => if j > i then j else i
abbrev gMin2 : LCR := gII fun i j => if j < i then j else i
def gInt1 : LCR := fun xs h L => match xs with
  | [.int i] => L (.int i) h
  | [.bl k] => L (.int (if k then 1 else 0)) h
  | _ => False
theorem src_int1 : SRC K (fun xs H Q => (∃ i, xs = [.int i] ∧ Q (.int i) H) ∨ ∃ k, xs = [.bl k] ∧ Q (.int (if k then 1 else 0)) H) gInt1 := fun H h xs vs L Q rh rx g o => by
  unfold gInt1 at g
  split at g
  · cases rx with
    | cons r t => cases t; cases r; exact .inl ⟨_, rfl, o _ H _ h (.refl H) rh (.int _) g⟩
  · cases rx with
    | cons r t => cases t; cases r; exact .inr ⟨_, rfl, o _ H _ h (.refl H) rh (.int _) g⟩
  · exact g.elim
/-- list(x) -/
def gList : LCR := fun xs h L => match xs with
  | [.tup ys] => ∀ p, h p = none → L (.ref p) (up h p (.lst ys))
  | [.rl ys] => ∀ p, h p = none → L (.ref p) (up h p (.lst ys))
  | [.ref a] => (match h a with
    | some (.lst ys) => ∀ p, h p = none → L (.ref p) (up h p (.lst ys))
    | _ => False)
  | _ => False
def rListOf (K : PySem.W.Frag) : List V → Hp → VK → Prop := fun xs H Q => ∃ p ys, xs = [.ref p] ∧ (SqL K H p ys ∨ SqT K H p ys) ∧ ∀ l, H l = none → Q (.ref l) (upd H l (.lst ys))
theorem src_list : SRC K (rListOf K) gList := fun H h xs vs L Q rh rx g o => by
  unfold gList at g
  split at g
  · cases rx with
    | cons r t =>
      cases t
      cases r with
      | tup ht hr => exact ⟨_, _, rfl, .inr ht, fun p hp => o _ _ (.ref p) _ (.new hp) (rh.lay hp (.mkL upd_same (hr.mono (.new hp)))) (.ref p) (g p (rh.fresh hp))⟩
  · cases rx with
    | cons r t =>
      cases t
      cases r with
      | rl ht hr => exact ⟨_, _, rfl, .inl ht.sq, fun p hp => o _ _ (.ref p) _ (.new hp) (rh.lay hp (.mkL upd_same (hr.mono (.new hp)))) (.ref p) (g p (rh.fresh hp))⟩
  · rename_i a
    cases rx with
    | cons r t =>
      cases t
      cases r
      split at g
      · rename_i ys ea
        obtain ⟨vs, e1, hr⟩ := rh a _ ea
        exact ⟨_, _, rfl, .inl (.of e1), fun p hp => o _ _ (.ref p) _ (.new hp) (rh.lay hp (.mkL upd_same (hr.mono (.new hp)))) (.ref p) (g p (rh.fresh hp))⟩
      · exact g.elim
  · exact g.elim
/-- tuple(x) -/
def gTuple : LCR := fun xs h L => match xs with
  | [.tup ys] => L (.tup ys) h
  | [.rl ys] => L (.tup ys) h
  | [.ref a] => (match h a with
    | some (.lst ys) => L (.tup ys) h
    | _ => False)
  | _ => False
def rTupOf (K : PySem.W.Frag) : List V → Hp → VK → Prop := fun xs H Q => ∃ p ys, xs = [.ref p] ∧ ((SqL K H p ys ∧ ∀ l, H l = none → Q (.ref l) (upd H l (.tup ys))) ∨ (SqT K H p ys ∧ Q (.ref p) H))
theorem src_tuple : SRC K (rTupOf K) gTuple := fun H h xs vs L Q rh rx g o => by
  unfold gTuple at g
  split at g
  · cases rx with
    | cons r t =>
      cases t
      cases r with
      | tup ht hr => exact ⟨_, _, rfl, .inr ⟨ht, o _ H _ h (.refl H) rh (.tup ht hr) g⟩⟩
  · cases rx with
    | cons r t =>
      cases t
      cases r with
      | rl ht hr => exact ⟨_, _, rfl, .inl ⟨ht.sq, fun p hp => o _ _ _ h (.new hp) (rh.new hp) (.tup (.of upd_same) (hr.mono (.new hp))) g⟩⟩
  · rename_i a
    cases rx with
    | cons r t =>
      cases t
      cases r
      split at g
      · rename_i ys ea
        obtain ⟨vs, e1, hr⟩ := rh a _ ea
        exact ⟨_, _, rfl, .inl ⟨.of e1, fun p hp => o _ _ _ h (.new hp) (rh.new hp) (.tup (.of upd_same) (hr.mono (.new hp))) g⟩⟩
      · exact g.elim
  · exact g.elim
/-- the items of a list or tuple by value -/
def seqOf (h : LH) : LV → Option (List LV)
  | .tup xs => some xs
  | .rl xs => some xs
  | .ref a => (match h a with
    | some (.lst xs) => some xs
    | _ => none)
  | _ => none
/-- .. of a list alone -/
def lstOf (h : LH) : LV → Option (List LV)
  | .rl xs => some xs
  | .ref a => (match h a with
    | some (.lst xs) => some xs
    | _ => none)
  | _ => none
theorem lstOf_ok {H : Hp} {h : LH} (rh : RH K H h) {x : LV} {v : V} {xs : List LV} (r : RV K H x v) (e : lstOf h x = some xs) : ∃ p vs, v = .ref p ∧ SqL K H p vs ∧ RVs K H xs vs := by
  unfold lstOf at e
  split at e
  · cases e
    cases r with
    | rl ht hr => exact ⟨_, _, rfl, ht.sq, hr⟩
  · rename_i a
    cases r
    split at e
    · rename_i ys ea
      cases e
      obtain ⟨vs, e1, hr⟩ := rh a _ ea
      exact ⟨a, vs, rfl, .of e1, hr⟩
    · cases e
  · cases e
theorem seqOf_ok {H : Hp} {h : LH} (rh : RH K H h) {x : LV} {v : V} {xs : List LV} (r : RV K H x v) (e : seqOf h x = some xs) : ∃ p vs, v = .ref p ∧ (SqL K H p vs ∨ SqT K H p vs) ∧ RVs K H xs vs := by
  unfold seqOf at e
  split at e
  · cases e
    cases r with
    | tup ht hr => exact ⟨_, _, rfl, .inr ht, hr⟩
  · cases e
    cases r with
    | rl ht hr => exact ⟨_, _, rfl, .inl ht.sq, hr⟩
  · rename_i a
    cases r
    split at e
    · rename_i ys ea
      cases e
      obtain ⟨vs, e1, hr⟩ := rh a _ ea
      exact ⟨a, vs, rfl, .inl (.of e1), hr⟩
    · cases e
  · cases e
def intsOf : List LV → Option (List Int)
  | [] => some []
  | .int i :: r => (match intsOf r with
    | some is => some (i :: is)
    | none => none)
  | _ => none
theorem intsOf_ok {H : Hp} : ∀ {xs : List LV} {vs : List V} {is : List Int}, RVs K H xs vs → intsOf xs = some is → vs = is.map V.int
  | [], _, _, .nil, e => by cases e; rfl
  | x :: xs, _, is, .cons a b, e => by
    unfold intsOf at e
    split at e
    · rename_i i r q
      cases q
    · rename_i i r q
      cases q
      split at e
      · rename_i is' e1
        cases e
        cases a
        rw [intsOf_ok b e1]
        rfl
      · cases e
    · cases e
theorem intsOf_map : ∀ is : List Int, intsOf (is.map LV.int) = some is
  | [] => rfl
  | i :: r => by
    show (match intsOf (r.map LV.int) with
    | some is => some (i :: is)
    | none => none) = some (i :: r)
    rw [intsOf_map r]
def blsOf : List LV → Option (List Bool)
  | [] => some []
  | .bl i :: r => (match blsOf r with
    | some is => some (i :: is)
    | none => none)
  | _ => none
theorem blsOf_ok {H : Hp} : ∀ {xs : List LV} {vs : List V} {is : List Bool}, RVs K H xs vs → blsOf xs = some is → vs = is.map V.bl
  | [], _, _, .nil, e => by cases e; rfl
  | x :: xs, _, is, .cons a b, e => by
    unfold blsOf at e
    split at e
    · rename_i i r q
      cases q
    · rename_i i r q
      cases q
      split at e
      · rename_i is' e1
        cases e
        cases a
        rw [blsOf_ok b e1]
        rfl
      · cases e
    · cases e
theorem blsOf_map : ∀ is : List Bool, blsOf (is.map LV.bl) = some is
  | [] => rfl
  | i :: r => by
    show (match blsOf (r.map LV.bl) with
    | some is => some (i :: is)
    | none => none) = some (i :: r)
    rw [blsOf_map r]
def strsOf : List LV → Option (List Str)
  | [] => some []
  | .str i :: r => (match strsOf r with
    | some is => some (i :: is)
    | none => none)
  | _ => none
theorem strsOf_ok {H : Hp} : ∀ {xs : List LV} {vs : List V} {is : List Str}, RVs K H xs vs → strsOf xs = some is → vs = is.map V.str
  | [], _, _, .nil, e => by cases e; rfl
  | x :: xs, _, is, .cons a b, e => by
    unfold strsOf at e
    split at e
    · rename_i i r q
      cases q
    · rename_i i r q
      cases q
      split at e
      · rename_i is' e1
        cases e
        cases a
        rw [strsOf_ok b e1]
        rfl
      · cases e
    · cases e
theorem strsOf_map : ∀ is : List Str, strsOf (is.map LV.str) = some is
  | [] => rfl
  | i :: r => by
    show (match strsOf (r.map LV.str) with
    | some is => some (i :: is)
    | none => none) = some (i :: r)
    rw [strsOf_map r]
/-- sum, all, any of a list -/
def gSum : LCR := fun xs h L => match xs with
  | [x] => (match lstOf h x with
    | some ys => (match intsOf ys with
      | some ns => L (.int ns.sum) h
      | none => False)
    | none => False)
  | _ => False
def gBls (f : List Bool → Bool) : LCR := fun xs h L => match xs with
  | [x] => (match lstOf h x with
    | some ys => (match blsOf ys with
      | some ns => L (.bl (f ns)) h
      | none => False)
    | none => False)
  | _ => False
abbrev gAll : LCR := gBls fun bs => bs.all id
abbrev gAny : LCR := gBls fun bs => bs.any id
theorem src_sum : SRC K (rSum K) gSum := fun H h xs vs L Q rh rx g o => by
  unfold gSum at g
  split at g
  · cases rx with
    | cons r t =>
      cases t
      split at g
      · rename_i ys e1
        split at g
        · rename_i ns e2
          obtain ⟨p, ws, rfl, hs, hr⟩ := lstOf_ok rh r e1
          rw [intsOf_ok hr e2] at hs
          exact ⟨p, ns, rfl, hs, o _ H _ h (.refl H) rh (.int _) g⟩
        · exact g.elim
      · exact g.elim
  · exact g.elim
theorem src_bls {f : List Bool → Bool} : SRC K (fun vs H Q => ∃ (a : Addr) (bs : List Bool), vs = [V.ref a] ∧ SqL K H a (bs.map V.bl) ∧ Q (.bl (f bs)) H) (gBls f) := fun H h xs vs L Q rh rx g o => by
  unfold gBls at g
  split at g
  · cases rx with
    | cons r t =>
      cases t
      split at g
      · rename_i ys e1
        split at g
        · rename_i ns e2
          obtain ⟨p, ws, rfl, hs, hr⟩ := lstOf_ok rh r e1
          rw [blsOf_ok hr e2] at hs
          exact ⟨p, ns, rfl, hs, o _ H _ h (.refl H) rh (.bl _) g⟩
        · exact g.elim
      · exact g.elim
  · exact g.elim
/-- max, min of a list of ints -/
def gMaxL (le : Int → Int → Prop) : LCR := fun xs h L => match xs with
  | [x] => (match lstOf h x with
    | some ys => (match intsOf ys with
      | some ns => 0 < ns.length ∧ ∀ m, m ∈ ns → (∀ y, y ∈ ns → le y m) → L (.int m) h
      | none => False)
    | none => False)
  | _ => False
theorem src_maxL : SRC K (rMax K) (gMaxL fun y m => y ≤ m) := fun H h xs vs L Q rh rx g o => by
  unfold gMaxL at g
  split at g
  · cases rx with
    | cons r t =>
      cases t
      split at g
      · rename_i ys e1
        split at g
        · rename_i ns e2
          obtain ⟨p, ws, rfl, hs, hr⟩ := lstOf_ok rh r e1
          rw [intsOf_ok hr e2] at hs
          exact ⟨p, ns, rfl, hs, g.1, fun m h1 h2 => o _ H _ h (.refl H) rh (.int _) (g.2 m h1 h2)⟩
        · exact g.elim
      · exact g.elim
  · exact g.elim
theorem src_minL : SRC K (rMin K) (gMaxL fun y m => m ≤ y) := fun H h xs vs L Q rh rx g o => by
  unfold gMaxL at g
  split at g
  · cases rx with
    | cons r t =>
      cases t
      split at g
      · rename_i ys e1
        split at g
        · rename_i ns e2
          obtain ⟨p, ws, rfl, hs, hr⟩ := lstOf_ok rh r e1
          rw [intsOf_ok hr e2] at hs
          exact ⟨p, ns, rfl, hs, g.1, fun m h1 h2 => o _ H _ h (.refl H) rh (.int _) (g.2 m h1 h2)⟩
        · exact g.elim
      · exact g.elim
  · exact g.elim
/-- divmod -/
def gDivmod : LCR := fun xs h L => match xs with
  | [.int i, .int j] => CDiv i j ∧ L (.tup [.int (i / j), .int (i % j)]) h
  | _ => False
theorem src_divmod : SRC K (fun xs H Q => ∃ i j, xs = [.int i, .int j] ∧ CDiv i j ∧ ∀ p, H p = none → Q (.ref p) (upd H p (.tup [.int (i / j), .int (i % j)]))) gDivmod := fun H h xs vs L Q rh rx g o => by
  unfold gDivmod at g
  split at g
  · cases rx with
    | cons r t =>
      cases t with
      | cons r2 t => cases t; cases r; cases r2; exact ⟨_, _, rfl, g.1, fun p hp => o _ _ _ h (.new hp) (rh.new hp) (.tup (.of upd_same) (.cons (.int _) (.cons (.int _) .nil))) g.2⟩
  · exact g.elim
/-- isinstance against one built-in class, or a tuple of such -/
def lty (h : LH) : LV → Option String
  | .non => some "NoneType"
  | .bl _ => some "bool"
  | .int _ => some "int"
  | .str _ => some "str"
  | .tup _ => some "tuple"
  | .rl _ => some "list"
  | .ref a => (match h a with
    | some (.lst _) => some "list"
    | some (.dic _) => some "dict"
    | _ => none)
  | _ => none
/-- the answer, by written names -/
def isiT : String → String → Bool := fun a b => decide (a = b) || (decide (a = "bool") && decide (b = "int"))
def tyNames : List String := ["NoneType", "bool", "int", "str", "tuple", "list", "dict"]
theorem isi0 : (tyNames.all fun a => tyNames.all fun b => decide (b = "NoneType") || decide (kitB a b = some (isiT a b))) = true := by decide +kernel
theorem isi_ok {a b : String} (ha : a ∈ tyNames) (hb : b ∈ tyNames) (hn : b ≠ "NoneType") : kitB a b = some (isiT a b) := by
  have h := List.all_eq_true.mp (List.all_eq_true.mp isi0 a ha) b hb
  rw [decide_eq_false hn, Bool.false_or] at h
  exact of_decide_eq_true h
theorem lty_ok {H : Hp} {h : LH} (rh : RH K H h) {x : LV} {v : V} {t : String} (r : RV K H x v) (e : lty h x = some t) : TyX K H v (.type t) ∧ t ∈ tyNames := by
  cases r with
  | non => cases e; exact ⟨.base .non, by decide⟩
  | bl b => cases e; exact ⟨.base (.bl _), by decide⟩
  | int b => cases e; exact ⟨.base (.int _), by decide⟩
  | str b => cases e; exact ⟨.base (.str _), by decide⟩
  | ty b => cases e
  | tup ht hr =>
    cases e
    refine ⟨?_, by decide⟩
    rcases ht with (ht | ⟨o, ht⟩) | ⟨o, its, n, k, c, _⟩
    · exact .base (.tup ht)
    · exact .fTuple ht
    · exact .kTuple k c
  | rl ht hr =>
    cases e
    refine ⟨?_, by decide⟩
    rcases ht with ⟨o, ht⟩ | ⟨o, its, n, k, c, _⟩
    · exact .base (.frz ht)
    · exact .kList k c
  | ref a =>
    unfold lty at e
    simp only at e
    split at e
    · rename_i ys ea
      obtain ⟨vs, e1, hr⟩ := rh a _ ea
      cases e
      exact ⟨.base (.lst e1), by decide⟩
    · rename_i ys ea
      obtain ⟨vs, e1, hr⟩ := rh a _ ea
      cases e
      exact ⟨.base (.dK e1), by decide⟩
    · cases e
def tysOf : List LV → Option (List String)
  | [] => some []
  | .ty n :: r => (match tysOf r with
    | some is => some (n :: is)
    | none => none)
  | _ => none
def gIsi : LCR := fun xs h L => match xs with
  | [x, .ty b] => (match lty h x with
    | some a => b ∈ tyNames ∧ b ≠ "NoneType" ∧ L (.bl (isiT a b)) h
    | none => False)
  | [x, .tup ts] => (match lty h x, tysOf ts with
    | some a, some bs => (∀ b ∈ bs, b ∈ tyNames ∧ b ≠ "NoneType") ∧ L (.bl (bs.any (isiT a))) h
    | _, _ => False)
  | _ => False
theorem tysOf_ok {H : Hp} : ∀ {xs : List LV} {vs : List V} {is : List String}, RVs K H xs vs → tysOf xs = some is → Paired ClsV vs (is.map Value.type)
  | [], _, _, .nil, e => by cases e; exact .nil
  | x :: xs, _, is, .cons a b, e => by
    unfold tysOf at e
    split at e
    · rename_i i r q
      cases q
    · rename_i i r q
      cases q
      split at e
      · rename_i is' e1
        cases e
        cases a
        exact .cons (.ty _) (tysOf_ok b e1)
      · cases e
    · cases e
theorem kitAny_ok {a : String} (ha : a ∈ tyNames) : ∀ {bs : List String}, (∀ b ∈ bs, b ∈ tyNames ∧ b ≠ "NoneType") → PySem.W.kitAny K (.type a) (bs.map Value.type) = some (bs.any (isiT a))
  | [], _ => rfl
  | b :: bs, h => by
    obtain ⟨h1, h2⟩ := h b List.mem_cons_self
    refine kitAny_cons (kit_ty (isi_ok ha h1 h2)) (fun e => ?_) (fun e => ?_)
    · rw [List.any_cons, e, Bool.false_or]
      exact kitAny_ok ha fun c hc => h c (List.mem_cons_of_mem _ hc)
    · rw [List.any_cons, e, Bool.true_or]
def rIsiT2 (K : PySem.W.Frag) : List V → Hp → VK → Prop := fun xs H Q => ∃ (x : V) (tp : Addr) (cs : List V) (t : Value) (us : List Value) (b : Bool), xs = [x, .ref tp] ∧ SqT K H tp cs ∧ Paired ClsV cs us ∧ TyX K H x t ∧ PySem.W.kitAny K t us = some b ∧ Q (.bl b) H
theorem call_isiT2 {X : Cx} : CallR X (.builtin "isinstance") (rIsiT2 X.K) := by
  intro pins s σ H xs us Q I r h
  obtain ⟨x, tp, cs, t, ws, b, rfl, hT, k, ty, e, q⟩ := h
  cases r with
  | cons r1 r =>
    cases r with
    | cons r2 r =>
      cases r
      cases r2
      obtain ⟨P, Z, p, hx⟩ := kit_of I r1 ty
      obtain ⟨its, rv, ⟨o, h1, h2, n, h3⟩, _⟩ := I.tuple hT
      have e3 := ClsV.all k rv
      subst e3
      obtain ⟨oc, od, dt, sl⟩ := o
      simp only at h2 h3
      subst h2 h3
      exact PySem.W.kia_tup Z I.kIn p h1 e hx fun tk => ⟨.bl b, H, I.tok tk, rfl, q⟩
def rIsi2 (K : PySem.W.Frag) : List V → Hp → VK → Prop := fun vs H Q => rIsi K vs H Q ∨ (rIsiT2 K vs H Q)
theorem call_isi2 {X : Cx} : CallR X (.builtin "isinstance") (rIsi2 X.K) := CallR.or call_isi call_isiT2
theorem src_isi : SRC K (rIsi2 K) gIsi := fun H h xs vs L Q rh rx g o => by
  unfold gIsi at g
  split at g
  · cases rx with
    | cons r t =>
      cases t with
      | cons r2 t =>
        cases t
        cases r2
        split at g
        · rename_i a e
          obtain ⟨h1, h2⟩ := lty_ok rh r e
          exact .inl ⟨_, _, _, _, _, rfl, .ty _, h1, kit_ty (isi_ok h2 g.1 g.2.1), o _ H _ h (.refl H) rh (.bl _) g.2.2⟩
        · exact g.elim
  · cases rx with
    | cons r t =>
      cases t with
      | cons r2 t =>
        cases t
        cases r2 with
        | tup ht hr =>
          split at g
          · rename_i a bs e e2
            obtain ⟨h1, h2⟩ := lty_ok rh r e
            exact .inr ⟨_, _, _, _, _, _, rfl, ht, tysOf_ok hr e2, h1, kitAny_ok h2 g.1, o _ H _ h (.refl H) rh (.bl _) g.2⟩
          · exact g.elim
  · exact g.elim
end
end VL

set_option Elab.async false
set_option linter.all false
set_option maxRecDepth 100000
set_option maxHeartbeats 2000000
namespace VL
open PySem PySem.Spec PyProof.Rows L2
/-! ### methods of built-in types -/
abbrev LMR := LV → List LV → LH → LK → Prop
def SRM (K : PySem.W.Frag) (r : V → List V → Hp → VK → Prop) (g : LMR) : Prop := ∀ (H : Hp) (h : LH) (x : LV) (xs : List LV) (v : V) (vs : List V) (L : LK) (Q : VK), RH K H h → RV K H x v → RVs K H xs vs → g x xs h L → OutV K H Q L → r v vs H Q
def lTy (T : String) (x : LV) (h : LH) : Prop := match x with
  | .str _ => T = "str"
  | .rl _ => T = "list"
  | .ref a => (match h a with
    | some (.lst _) => T = "list"
    | some (.dic _) => T = "dict"
    | _ => False)
  | _ => False
theorem lTy_ok {K : PySem.W.Frag} {H : Hp} {h : LH} (rh : RH K H h) {T : String} {x : LV} {v : V} (r : RV K H x v) (t : lTy T x h) : tyV K T v H := by
  cases r with
  | str z => exact t
  | rl ht hr => exact .inl ⟨t, _, ht.sq⟩
  | ref a =>
    unfold lTy at t
    simp only at t
    split at t
    · rename_i xs ea
      obtain ⟨vs, e1, _⟩ := rh a _ ea
      exact .inl ⟨t, _, .of e1⟩
    · rename_i xs ea
      obtain ⟨vs, e1, _⟩ := rh a _ ea
      exact .inr (.inr (.inl ⟨t, .inl ⟨_, e1⟩⟩))
    · exact t.elim
  | _ => exact t.elim
def lBM (T : String) (g : LMR) (lo : LTE) (la : LTA) : LTE := fun s h E L => lo s h E fun x h1 => lTy T x h1 ∧ la s h1 E fun xs h2 => g x xs h2 L
section
variable {X : Cx} {W : WX} {o e f : Expr} {es : List Expr} {lo la le : LTE} {lr : LTA} {name : Str} {apos cpos pos : Pos} {T id : String} {r : V → List V → Hp → VK → Prop} {g : LMR}
theorem le_bm0 (pa : PlainAttrs T) (slot : Slot T name id) (hty : typeOf (.builtin id) = pure (.type "method_descriptor")) (hm : MtR X id r) (sr : SRM X.K r g) (ho : LE X W o lo)
    (hbase : attributeBase o name X.env (eval o X.env) = eval o X.env := by rfl) (hline : (apos.endLine == cpos.line) = true := by rfl) : LE X W (.Call (.Attribute o name apos) [] [] cpos) (lBM T g lo lNil) :=
  peW (pe_bm0 pa slot hty hm ho hbase hline) fun σ H Q ⟨s, h, E, L, z, hl, out⟩ => ⟨s, h, E, _, z, hl, fun v H1 x h1 t1 r1 rx q1 => ⟨lTy_ok r1 rx q1.1, sr H1 h1 x [] v [] L Q r1 rx .nil q1.2 (out.step t1)⟩⟩
theorem le_bm (pa : PlainAttrs T) (slot : Slot T name id) (hty : typeOf (.builtin id) = pure (.type "method_descriptor")) (hm : MtR X id r) (sr : SRM X.K r g) (ho : LE X W o lo) (ha : LA X W (e :: es) lr)
    (hbase : attributeBase o name X.env (eval o X.env) = eval o X.env := by rfl)
    (hfew : ((backTo cpos (starEach (e :: es) X.env)).all (fun x => !x.1) && (backToKw cpos (keywordEach [] X.env)).all (fun x => x.1.isSome)
      && decide ((e :: es).length + ([] : List Keyword).length + (if ([] : List Keyword).isEmpty then 0 else 1) < 30)) = true := by rfl)
    (hline : (apos.endLine == cpos.line) = true := by rfl) (hs : starEach (e :: es) X.env = (false, eval e X.env) :: starEach es X.env := by rfl) (hplain : (backTo cpos (starEach es X.env)).any (·.1) = false := by rfl) :
    LE X W (.Call (.Attribute o name apos) (e :: es) [] cpos) (lBM T g lo lr) :=
  peW (pe_bm pa slot hty hm ho ha hbase hfew hline hs hplain) fun σ H Q ⟨s, h, E, L, z, hl, out⟩ => ⟨s, h, E, _, z, hl, fun v H1 x h1 t1 r1 rx q1 => ⟨lTy_ok r1 rx q1.1, s, h1, E, _, z.step t1 r1, q1.2, fun vs H2 xs h2 t2 r2 rxs q2 =>
    sr H2 h2 x xs v vs L Q r2 (rx.mono t2) rxs q2 (out.step (t1.trans t2))⟩⟩
end
section
variable {K : PySem.W.Frag}
theorem TLe.lst {H : Hp} {a : Addr} {xs : List V} {o : HO} (e : H a = some (.lst xs)) : TLe K H (L2.upd H a o) := TLe.upd (H := H) (a := a) (fun vs z => by rw [e] at z; cases z) fun ob u z => by rw [e] at z; cases z
theorem TLe.dK {H : Hp} {a : Addr} {xs : List (Key × V)} {o : HO} (e : H a = some (.dK xs)) : TLe K H (L2.upd H a o) := TLe.upd (H := H) (a := a) (fun vs z => by rw [e] at z; cases z) fun ob u z => by rw [e] at z; cases z
theorem TLe.ins {H : Hp} {a C dx : Addr} {xs : List (Str × V)} {o : HO} (e : H a = some (.ins C dx xs)) : TLe K H (L2.upd H a o) := TLe.upd (H := H) (a := a) (fun vs z => by rw [e] at z; cases z) fun ob u z => by rw [e] at z; cases z
/-- a list's change by its items -/
def gLm (f : List LV → List LV → Option (List LV × LV)) : LMR := fun x xs h L => match x with
  | .ref a => (match h a with
    | some (.lst ys) => (match f ys xs with
      | some (zs, v) => L v (up h a (.lst zs))
      | none => False)
    | _ => False)
  | _ => False
def gAppend : LMR := gLm fun ys xs => match xs with
  | [x] => if ys.length < 100000 then some (ys ++ [x], .non) else none
  | _ => none
def gReverse : LMR := gLm fun ys xs => match xs with
  | [] => some (ys.reverse, .non)
  | _ => none
def gClear : LMR := gLm fun ys xs => match xs with
  | [] => some ([], .non)
  | _ => none
def gPop0 : LMR := gLm fun ys xs => match xs with
  | [] => (match ys[ys.length - 1]? with
    | some y => some (ys.dropLast, y)
    | none => none)
  | _ => none
def gPop1 : LMR := gLm fun ys xs => match xs with
  | [.int i] => if 0 ≤ i ∧ i < 100000 then (match ys[i.toNat]? with
    | some y => some (ys.eraseIdx i.toNat, y)
    | none => none) else none
  | _ => none
def gInsert : LMR := gLm fun ys xs => match xs with
  | [.int i, y] => if 0 ≤ i ∧ i < 100000 ∧ ys.length < 100000 then some (ys.take i.toNat ++ [y] ++ ys.drop i.toNat, .non) else none
  | _ => none
theorem szlt {n : Nat} (h : n < 100000) : n < sizeLine := Nat.lt_of_lt_of_le h (by decide)
theorem srm_append : SRM K rAppend gAppend := fun H h x xs v vs L Q rh rx rxs g o => by
  unfold gAppend gLm at g
  split at g
  · rename_i a
    cases rx
    split at g
    · rename_i ys ea
      obtain ⟨ws, e1, hr⟩ := rh a _ ea
      split at g
      · rename_i zs v e
        dsimp only at e
        split at e
        · split at e
          · rename_i x hz
            cases e
            cases rxs with
            | cons r1 t =>
              cases t
              refine ⟨a, ws, _, rfl, rfl, e1, by rw [← hr.length]; exact szlt hz, o _ _ .non _ (.lst e1) (rh.upd (.lst e1) (.mkL upd_same ((hr.append (.cons r1 .nil)).mono (.lst e1)))) .non g⟩
          · cases e
        · cases e
      · exact g.elim
    · exact g.elim
  · exact g.elim
theorem srm_reverse : SRM K rReverse gReverse := fun H h x xs v vs L Q rh rx rxs g o => by
  unfold gReverse gLm at g
  split at g
  · rename_i a
    cases rx
    split at g
    · rename_i ys ea
      obtain ⟨ws, e1, hr⟩ := rh a _ ea
      split at g
      · rename_i zs v e
        dsimp only at e
        split at e
        · cases e
          cases rxs
          exact ⟨a, ws, rfl, rfl, e1, o _ _ .non _ (.lst e1) (rh.upd (.lst e1) (.mkL upd_same (hr.reverse.mono (.lst e1)))) .non g⟩
        · cases e
      · exact g.elim
    · exact g.elim
  · exact g.elim
theorem srm_clear : SRM K rClear gClear := fun H h x xs v vs L Q rh rx rxs g o => by
  unfold gClear gLm at g
  split at g
  · rename_i a
    cases rx
    split at g
    · rename_i ys ea
      obtain ⟨ws, e1, hr⟩ := rh a _ ea
      split at g
      · rename_i zs v e
        dsimp only at e
        split at e
        · cases e
          cases rxs
          exact ⟨a, ws, rfl, rfl, e1, o _ _ .non _ (.lst e1) (rh.upd (.lst e1) (.mkL upd_same .nil)) .non g⟩
        · cases e
      · exact g.elim
    · exact g.elim
  · exact g.elim
theorem srm_pop0 : SRM K rPop gPop0 := fun H h x xs v vs L Q rh rx rxs g o => by
  unfold gPop0 gLm at g
  split at g
  · rename_i a
    cases rx
    split at g
    · rename_i ys ea
      obtain ⟨ws, e1, hr⟩ := rh a _ ea
      split at g
      · rename_i zs v e
        dsimp only at e
        split at e
        · split at e
          · rename_i y hy
            cases e
            cases rxs
            obtain ⟨w, hw, rw'⟩ := hr.get hy
            rw [hr.length] at hw
            exact ⟨a, ws, w, rfl, rfl, e1, hw, o _ _ v _ (.lst e1) (rh.upd (.lst e1) (.mkL upd_same (hr.dropLast.mono (.lst e1)))) (rw'.mono (.lst e1)) g⟩
          · cases e
        · cases e
      · exact g.elim
    · exact g.elim
  · exact g.elim
theorem srm_pop1 : SRM K rPopAt gPop1 := fun H h x xs v vs L Q rh rx rxs g o => by
  unfold gPop1 gLm at g
  split at g
  · rename_i a
    cases rx
    split at g
    · rename_i ys ea
      obtain ⟨ws, e1, hr⟩ := rh a _ ea
      split at g
      · rename_i zs v e
        dsimp only at e
        split at e
        · rename_i i
          split at e
          · rename_i hi
            split at e
            · rename_i y hy
              cases e
              cases rxs with
              | cons r1 t =>
                cases t
                cases r1
                obtain ⟨w, hw, rw'⟩ := hr.get hy
                have hlt : i.toNat < ws.length := (List.getElem?_eq_some_iff.mp hw).1
                exact ⟨a, ws, i, i.toNat, w, rfl, rfl, e1, by omega, by omega, PySem.seqIndex_of hi.1 (by omega), hw, o _ _ v _ (.lst e1) (rh.upd (.lst e1) (.mkL upd_same ((hr.eraseIdx _).mono (.lst e1)))) (rw'.mono (.lst e1)) g⟩
            · cases e
          · cases e
        · cases e
      · exact g.elim
    · exact g.elim
  · exact g.elim
theorem srm_insert : SRM K (fun x vs H Q => ∃ (l : Addr) (xs : List V) (i : Int) (y : V), x = .ref l ∧ vs = [.int i, y] ∧ H l = some (.lst xs) ∧ xs.length < sizeLine ∧ 0 ≤ i ∧ i < 2 ^ 63 ∧
    Q .non (upd H l (.lst (xs.take i.toNat ++ [y] ++ xs.drop i.toNat)))) gInsert := fun H h x xs v vs L Q rh rx rxs g o => by
  unfold gInsert gLm at g
  split at g
  · rename_i a
    cases rx
    split at g
    · rename_i ys ea
      obtain ⟨ws, e1, hr⟩ := rh a _ ea
      split at g
      · rename_i zs v e
        dsimp only at e
        split at e
        · rename_i i y
          split at e
          · rename_i hi
            cases e
            cases rxs with
            | cons r1 t =>
              cases t with
              | cons r2 t =>
                cases t
                cases r1
                exact ⟨a, ws, i, _, rfl, rfl, e1, by rw [← hr.length]; exact szlt hi.2.2, hi.1, by omega, o _ _ .non _ (.lst e1) (rh.upd (.lst e1) (.mkL upd_same ((((hr.take _).append (.cons r2 .nil)).append (hr.drop _)).mono (.lst e1)))) .non g⟩
          · cases e
        · cases e
      · exact g.elim
    · exact g.elim
  · exact g.elim
/-- xs.extend(ys), ys a list -/
def gExtend : LMR := fun x xs h L => match x, xs with
  | .ref a, [.ref b] => (match h a, h b with
    | some (.lst ys), some (.lst zs) => ys.length + zs.length ≤ 100000 ∧ L .non (up h a (.lst (ys ++ zs)))
    | _, _ => False)
  | _, _ => False
theorem srm_extend : SRM K rExtend gExtend := fun H h x xs v vs L Q rh rx rxs g o => by
  unfold gExtend at g
  split at g
  · rename_i a b
    cases rx
    cases rxs with
    | cons r1 t =>
      cases t
      cases r1
      split at g
      · rename_i ys zs ea eb
        obtain ⟨ws, e1, hr⟩ := rh a _ ea
        obtain ⟨us, e2, hq⟩ := rh b _ eb
        exact ⟨a, b, ws, us, rfl, rfl, e1, e2, by rw [← hr.length, ← hq.length]; exact szl g.1, o _ _ .non _ (.lst e1) (rh.upd (.lst e1) (.mkL upd_same ((hr.append hq).mono (.lst e1)))) .non g.2⟩
      · exact g.elim
  · exact g.elim
/-- xs.index(y), flat items: the first place -/
def gIndex : LMR := fun x xs h L => match xs with
  | [y] => (match lstOf h x, lfl y with
    | some ys, some w => (match lfls ys with
      | some ws => ∃ j z, ws[j]? = some z ∧ eqV z w = true ∧ (∀ m z', m < j → ws[m]? = some z' → eqV z' w = false) ∧ L (.int (j : Nat)) h
      | none => False)
    | _, _ => False)
  | _ => False
theorem srm_index : SRM K (rIndex K) gIndex := fun H h x xs v vs L Q rh rx rxs g o => by
  unfold gIndex at g
  split at g
  · rename_i y
    cases rxs with
    | cons r1 t =>
      cases t
      split at g
      · rename_i ys w e1 e2
        split at g
        · rename_i ws e3
          obtain ⟨j, z, hz, he, hn, q⟩ := g
          obtain ⟨p, us, rfl, hs, hr⟩ := lstOf_ok rh rx e1
          obtain ⟨rfl, f1⟩ := lfl_ok r1 e2
          obtain ⟨rfl, f2⟩ := lfls_ok hr e3
          exact ⟨p, _, _, j, z, rfl, rfl, hs, f1, f2, hz, he, hn, o _ H _ h (.refl H) rh (.int _) q⟩
        · exact g.elim
      · exact g.elim
  · exact g.elim
/-- z.index(c): texts -/
def gSIndex : LMR := fun x xs h L => match x, xs with
  | .str a, [.str b] => (match Txt.index0 a b with
    | some k => L (.int (k : Nat)) h
    | none => False)
  | _, _ => False
theorem le_sindex {X : Cx} {W : WX} {o e : Expr} {lo : LTE} {lr : LTA} {apos cpos : Pos} (hc : X.calm = true) (tk : Takes X W) (ho : LE X W o lo) (ha : LA X W [e] lr)
    (hbase : attributeBase o "index" X.env (eval o X.env) = eval o X.env := by rfl)
    (hfew : ((backTo cpos (starEach [e] X.env)).all (fun x => !x.1) && (backToKw cpos (keywordEach [] X.env)).all (fun x => x.1.isSome)
      && decide ([e].length + ([] : List Keyword).length + (if ([] : List Keyword).isEmpty then 0 else 1) < 30)) = true := by rfl)
    (hline : (apos.endLine == cpos.line) = true := by rfl) (hs : starEach [e] X.env = (false, eval e X.env) :: starEach [] X.env := by rfl) (hplain : (backTo cpos (starEach [] X.env)).any (·.1) = false := by rfl) :
    LE X W (.Call (.Attribute o "index" apos) [e] [] cpos) (lBM "str" gSIndex lo lr) :=
  peW (pe_bmS PySem.F.plainAttrs_str PySem.F.slot_str_index PySem.F.type_str_index (mt_indexX hc tk) ho ha hbase hfew hline hs hplain) fun σ H Q ⟨s, h, E, L, z, hl, out⟩ => ⟨s, h, E, _, z, hl, fun v H1 x h1 t1 r1 rx q1 => ⟨lTy_ok r1 rx q1.1, s, h1, E, _, z.step t1 r1, q1.2, fun vs H2 xs h2 t2 r2 rxs q2 => by
    unfold gSIndex at q2
    split at q2
    · rename_i a b
      cases rx
      cases rxs with
      | cons rr t =>
        cases t
        cases rr
        split at q2
        · rename_i k e
          exact ⟨a, b, rfl, rfl, fun k' e' => by rw [e] at e'; cases e'; exact (out.step (t1.trans t2)) _ H2 _ h2 (.refl H2) r2 (.int _) q2, fun e' => by rw [e] at e'; cases e'⟩
        · exact q2.elim
    · exact q2.elim⟩⟩
end

/-! ### own defs, methods, makings -/
section
variable {P : Program} {w : World} {K : PySem.W.Frag} {mg : Str → Option Value} {base : Heap}
def upSp (K : PySem.W.Frag) (ls : LSp) : Sp := fun vs H Q E => ∃ xs h LE L, RVs K H xs vs ∧ RH K H h ∧ ls xs h LE L ∧ OutV K H Q L ∧ ∀ c fs d H' h', TLe K H H' → RH K H' h' → RX K H' fs d → LE c fs h' → E (.ref (Cn.ad K c)) d H'
/-- the def at f keeps the promise ls, by k levels at most -/
abbrev LFn (P : Program) (w : World) (K : PySem.W.Frag) (mg : Str → Option Value) (base : Heap) (k : Nat) (f : Addr) (fd : FuncData) (ps : List Str) (ls : LSp) : Prop := FnOk P w K mg base (L2.CX P w) k f fd ps (upSp K ls)
end
def lCall (ls : LSp) (la : LTA) : LTE := fun s h E L => la s h E fun xs h1 => ls xs h1 E L
def lMeth (c : Cn) (ls : LSp) (lo : LTE) (la : LTA) : LTE := fun s h E L => lo s h E fun x h1 => match x with
  | .ref a => (match h1 a with
    | some (.ins c' _) => c' = c ∧ la s h1 E fun xs h2 => ls (.ref a :: xs) h2 E L
    | _ => False)
  | _ => False
def lMake (c : Cn) (ls : LSp) (la : LTA) : LTE := fun s h E L => la s h E fun xs h1 => ∀ x, h1 x = none → ls (.ref x :: xs) (up h1 x (.ins c [])) X0 fun v h2 => v = .non ∧ L (.ref x) h2
section
variable {X : Cx} {W : WX} {o e : Expr} {es : List Expr} {lo la le : LTE} {lr : LTA} {x m : Str} {p pos apos : Pos} {k : Nat} {f : Addr} {fd : FuncData} {ps : List Str} {ls : LSp} {c : Cn}
theorem call_imp {σ : L2.St} {H H1 : Hp} {s : LS} {h h1 : LH} {E : LX} {L : LK} {Q : VK} {xs : List LV} {vs : List V} (z : Sit X.K W σ H s h E) (out : OutV X.K H Q L) (t1 : TLe X.K H H1) (r1 : RH X.K H1 h1) (rxs : RVs X.K H1 xs vs) (q : ls xs h1 E L) :
    upSp X.K ls vs H1 Q (WE W σ) := ⟨xs, h1, E, L, rxs, r1, q, out.step t1, fun c fs d H' h' t2 r2 rd q2 => z.ox c fs d H' h' (t1.trans t2) r2 rd q2⟩
theorem le_call (F : LFn X.prog X.w X.K X.mg X.base k f fd ps ls) (hm : X.mg x = some (.ref f)) (hk : PySem.W.keepIn X.K (.ref f) = true) (hb : Binds X.K fd ps []) (hr : Room k X.A) (tk : Takes X W) (ha : LA X W (e :: es) lr) (hg : Gl X x := by rfl)
    (hdb : (x == ("__debug__" : Str)) = false := by decide) (he : starEach (e :: es) X.env = (false, eval e X.env) :: starEach es X.env := by rfl) (hpl : (backTo pos (starEach es X.env)).any (·.1) = false := by rfl) :
    LE X W (.Call (.Name x p) (e :: es) [] pos) (lCall ls lr) :=
  peW (pe_callSD F hr hg hm hk hb .nil (fun σ => passAt tk σ) ha hdb he hpl) fun σ H Q ⟨s, h, E, L, z, hl, out⟩ => ⟨s, h, E, _, z, hl, fun vs H1 xs h1 t1 r1 rxs q1 => by
    show upSp X.K ls (vs ++ []) H1 Q (WE W σ)
    rw [List.append_nil]
    exact call_imp z out t1 r1 rxs q1⟩
def tMethS (C : Addr) (m : Str) (sp : Sp) (E : L2.St → XK) (ta : TE) (t : TA) : TE := fun σ H Q => ta σ H fun x H1 => ∃ a dx fs, x = .ref a ∧ H1 a = some (.ins C dx fs) ∧ fs.lookup m = none ∧
  t σ H1 fun vs H2 => sp (x :: vs) H2 Q (E σ)
theorem pe_methSD {C : Addr} {CX : CXT} {sp : Sp} {E : L2.St → XK} {ta : TE} {t : TA} {pl : Sem Bool} (he : PE X o ta) (c : Cls X.K C) (hm : Meth X.K C m f) (F : FnOk X.prog X.w X.K X.mg X.base CX k f fd ps sp) (hr : Room k X.A) (hb : Binds X.K fd ps []) (hx : ∀ σ, PassesAt CX X σ (E σ)) (ha : PA X (e :: es) t)
    (hst : starEach (e :: es) X.env = (false, eval e X.env) :: starEach es X.env) (hpl : (backTo pos (starEach es X.env)).any (·.1) = false)
    (ht : eval (.Call (.Attribute o m apos) (e :: es) [] pos) X.env = (do
      let ov ← eval o X.env
      standAt apos.atName
      let (f, first) ← holding [ov] (getMethod ov m pl)
      callWith pos f first (backTo pos (starEach (e :: es) X.env)) (backToKw pos (keywordEach [] X.env)))) :
    PE X (.Call (.Attribute o m apos) (e :: es) [] pos) (tMethS C m sp E ta t) := by
  refine ⟨fun pins s σ H Q I h => ?_⟩
  refine PySem.W.methodCall_KW (pl := pl) (thn (he.run pins s σ H _ I h) fun u s1 ⟨x, H1, I1, rx, a, dx, fs, ex, ea, l, q⟩ => ?_) ht
  subst ex
  obtain rfl : u = Value.ref a := rx
  refine getmeth_ok I1 ea c hm l ?_
  refine PySem.W.callWith_K (first := [.ref a]) (h₀ := X.base) I.ok.mod.kin hm.kp (thn (ha.run pos pins s1 σ H1 _ I1 q) fun us s2 ⟨vs, H2, I2, r, q2⟩ => ⟨I2.kIn, ?_⟩) hst hpl
  exact run_fnSD (us := .ref a :: us) (vs := .ref a :: vs) F hr hb .nil (hx σ) I2 (.cons rfl r) (by rw [List.append_nil]; exact q2)
theorem pe_methSD0 {C : Addr} {CX : CXT} {sp : Sp} {E : L2.St → XK} {ta : TE} {pl : Sem Bool} (he : PE X o ta) (c : Cls X.K C) (hm : Meth X.K C m f) (F : FnOk X.prog X.w X.K X.mg X.base CX k f fd ps sp) (hr : Room k X.A) (hb : Binds X.K fd ps []) (hx : ∀ σ, PassesAt CX X σ (E σ))
    (ht : eval (.Call (.Attribute o m apos) [] [] pos) X.env = (do
      let ov ← eval o X.env
      standAt apos.atName
      let (f, first) ← holding [ov] (getMethod ov m pl)
      callWith pos f first (backTo pos (starEach [] X.env)) (backToKw pos (keywordEach [] X.env)))) :
    PE X (.Call (.Attribute o m apos) [] [] pos) (tMethS C m sp E ta tNil) := by
  refine ⟨fun pins s σ H Q I h => ?_⟩
  refine PySem.W.methodCall_KW (pl := pl) (thn (he.run pins s σ H _ I h) fun u s1 ⟨x, H1, I1, rx, a, dx, fs, ex, ea, l, q⟩ => ?_) ht
  subst ex
  obtain rfl : u = Value.ref a := rx
  refine getmeth_ok I1 ea c hm l ?_
  exact PySem.W.callWith_K0 (first := [.ref a]) I1.kIn hm.kp (run_fnSD (us := [.ref a]) (vs := [.ref a]) F hr hb .nil (hx σ) I1 (.cons rfl .nil) q)
theorem meth_imp (hnf : ∀ f : Fd, f.nm ≠ m) : ∀ σ H Q, upE X.K W (lMeth c ls lo lr) σ H Q → tMethS (c.ad X.K) m (upSp X.K ls) (WE W) (upE X.K W lo) (upA X.K W lr) σ H Q := fun σ H Q ⟨s, h, E, L, z, hl, out⟩ =>
  ⟨s, h, E, _, z, hl, fun v H1 x h1 t1 r1 rx q1 => by
    cases rx with
    | ref a =>
      have q2 : (match h1 a with
        | some (.ins c' _) => c' = c ∧ lr s h1 E fun xs h2 => ls (.ref a :: xs) h2 E L
        | _ => False) := q1
      split at q2
      · rename_i c' fs ea
        obtain ⟨rfl, q3⟩ := q2
        obtain ⟨dx, ws, e1, hr⟩ := r1 a _ ea
        exact ⟨a, dx, ws, rfl, e1, hr.fnone hnf, s, h1, E, _, z.step t1 r1, q3, fun vs H2 xs h2 t2 r2 rxs q4 => call_imp z out (t1.trans t2) r2 (.cons (.ref a) rxs) q4⟩
      · exact q2.elim
    | _ => exact q1.elim⟩
theorem le_meth {pl : Sem Bool} (ho : LE X W o lo) (cl : Cls X.K (c.ad X.K)) (hm : Meth X.K (c.ad X.K) m f) (F : LFn X.prog X.w X.K X.mg X.base k f fd ps ls) (hr : Room k X.A) (hb : Binds X.K fd ps []) (tk : Takes X W) (ha : LA X W (e :: es) lr) (hnf : ∀ f : Fd, f.nm ≠ m := by intro f; cases f <;> decide +kernel)
    (hst : starEach (e :: es) X.env = (false, eval e X.env) :: starEach es X.env := by rfl) (hpl : (backTo pos (starEach es X.env)).any (·.1) = false := by rfl)
    (ht : eval (.Call (.Attribute o m apos) (e :: es) [] pos) X.env = (do
      let ov ← eval o X.env
      standAt apos.atName
      let (f, first) ← holding [ov] (getMethod ov m pl)
      callWith pos f first (backTo pos (starEach (e :: es) X.env)) (backToKw pos (keywordEach [] X.env))) := by rfl) :
    LE X W (.Call (.Attribute o m apos) (e :: es) [] pos) (lMeth c ls lo lr) := peW (pe_methSD ho cl hm F hr hb (fun σ => passAt tk σ) ha hst hpl ht) (meth_imp hnf)
theorem le_meth0 {pl : Sem Bool} (ho : LE X W o lo) (cl : Cls X.K (c.ad X.K)) (hm : Meth X.K (c.ad X.K) m f) (F : LFn X.prog X.w X.K X.mg X.base k f fd ps ls) (hr : Room k X.A) (hb : Binds X.K fd ps []) (tk : Takes X W) (hnf : ∀ f : Fd, f.nm ≠ m := by intro f; cases f <;> decide +kernel)
    (ht : eval (.Call (.Attribute o m apos) [] [] pos) X.env = (do
      let ov ← eval o X.env
      standAt apos.atName
      let (f, first) ← holding [ov] (getMethod ov m pl)
      callWith pos f first (backTo pos (starEach [] X.env)) (backToKw pos (keywordEach [] X.env))) := by rfl) :
    LE X W (.Call (.Attribute o m apos) [] [] pos) (lMeth c ls lo lNil) := peW (pe_methSD0 ho cl hm F hr hb (fun σ => passAt tk σ) ht) fun σ H Q q => by
  obtain ⟨s, h, E, L, z, hl, out⟩ := meth_imp (X := X) (W := W) (lo := lo) (lr := lNil) (ls := ls) (c := c) hnf σ H Q q
  refine ⟨s, h, E, L, z, hl, fun v H1 x h1 t1 r1 rx q1 => ?_⟩
  obtain ⟨a, dx, fs, e1, e2, e3, s2, h2, E2, L2, z2, hl2, out2⟩ := out v H1 x h1 t1 r1 rx q1
  exact ⟨a, dx, fs, e1, e2, e3, out2 [] H1 [] h2 (.refl H1) z2.rh .nil hl2⟩
theorem le_make (M : Mk X.K (c.ad X.K) f) (F : LFn X.prog X.w X.K X.mg X.base k f fd ps ls) (hm : X.mg x = some (.ref (c.ad X.K))) (hb : Binds X.K fd ps []) (hr : Room (k + 1) X.A) (ha : LA X W (e :: es) lr) (hg : Gl X x := by rfl)
    (hdb : (x == ("__debug__" : Str)) = false := by decide) (he : starEach (e :: es) X.env = (false, eval e X.env) :: starEach es X.env := by rfl) (hpl : (backTo pos (starEach es X.env)).any (·.1) = false := by rfl) :
    LE X W (.Call (.Name x p) (e :: es) [] pos) (lMake c ls lr) :=
  peW (pe_make (E := E0) M F hr hg hm hb .nil passL ha hdb he hpl) fun σ H Q ⟨s, h, E, L, z, hl, out⟩ => ⟨s, h, E, _, z, hl, fun vs H1 xs h1 t1 r1 rxs q1 => fun x dx hx hdx hne => by
    rw [List.append_nil]
    have n2 : (upd H1 dx (.own x)) x = none := by rw [upd_ne (Ne.symm hne)]; exact hx
    have t2 : TLe X.K H1 (upd (upd H1 dx (.own x)) x (.ins (c.ad X.K) dx [])) := (TLe.new hdx).trans (.new n2)
    refine ⟨.ref x :: xs, _, X0, _, .cons (.ref x) (rxs.mono t2), (r1.new hdx).lay n2 (.mkI upd_same .nil), q1 x (r1.fresh hx), fun v H' y h' t3 r3 ry q3 => ?_, fun _ _ _ _ _ _ _ _ q => q.elim⟩
    obtain ⟨rfl, q4⟩ := q3
    cases ry
    exact ⟨rfl, out _ H' (.ref x) h' (t1.trans (t2.trans t3)) r3 (.ref x) q4⟩⟩
end

/-! ### fields -/
def lFld (c : Cn) (f : Fd) (lo : LTE) : LTE := fun s h E L => lo s h E fun x h1 => match x with
  | .ref a => (match h1 a with
    | some (.ins c' fs) => c' = c ∧ (match fget fs f with
      | some v => L v h1
      | none => False)
    | _ => False)
  | _ => False
section
variable {X : Cx} {W : WX} {o e : Expr} {lo la le : LTE} {pos pos' : Pos} {c : Cn} {m : Str}
theorem le_fld (f : Fd) (ho : LE X W o lo) (cl : Cls X.K (c.ad X.K)) (na : NoAttr X.K (c.ad X.K) m) (hm : f.nm = m := by rfl) (hb : attributeBase o m X.env (eval o X.env) = eval o X.env := by rfl) : LE X W (.Attribute o m pos) (lFld c f lo) :=
  peW (pe_fld ho hb) fun σ H Q ⟨s, h, E, L, z, hl, out⟩ => ⟨s, h, E, _, z, hl, fun v H1 x h1 t1 r1 rx q1 => by
    cases rx with
    | ref a =>
      have q2 : (match h1 a with
        | some (.ins c' fs) => c' = c ∧ (match fget fs f with
          | some v => L v h1
          | none => False)
        | _ => False) := q1
      split at q2
      · rename_i c' fs ea
        obtain ⟨rfl, q3⟩ := q2
        obtain ⟨dx, ws, e1, hr⟩ := r1 a _ ea
        split at q3
        · rename_i y ey
          obtain ⟨w, e2, rw'⟩ := hr.fget ey
          rw [hm] at e2
          exact ⟨a, _, dx, ws, w, rfl, e1, cl, na, e2, out w H1 y h1 t1 r1 rw' q3⟩
        · exact q3.elim
      · exact q2.elim
    | _ => exact q1.elim⟩
end
end VL

set_option Elab.async false
set_option linter.all false
set_option maxRecDepth 100000
set_option maxHeartbeats 2000000
namespace VL
open PySem PySem.Spec PyProof.Rows L2
abbrev SX := Cn → List (Fd × LV) → LS → LH → Prop
def OutSX (K : PySem.W.Frag) (W : WX) (H : Hp) (E : SX) : Prop := ∀ c fs d σ' H' s' h', TLe K H H' → RS K H' s' σ' → RH K H' h' → RX K H' fs d → E c fs s' h' → W (.ref (Cn.ad K c)) d σ' H'
theorem OutSX.step {K : PySem.W.Frag} {W : WX} {H H1 : Hp} {E : SX} (o : OutSX K W H E) (t : TLe K H H1) : OutSX K W H1 E := fun c fs d σ' H' s' h' t2 => o c fs d σ' H' s' h' (t.trans t2)
/-- what is wanted behind a statement -/
def OutN (K : PySem.W.Frag) (H : Hp) (Q : L2.St → Hp → Prop) (L : LS → LH → Prop) : Prop := ∀ σ' H' s' h', TLe K H H' → RS K H' s' σ' → RH K H' h' → L s' h' → Q σ' H'
theorem OutN.step {K : PySem.W.Frag} {H H1 : Hp} {Q : L2.St → Hp → Prop} {L : LS → LH → Prop} (o : OutN K H Q L) (t : TLe K H H1) : OutN K H1 Q L := fun σ' H' s' h' t2 => o σ' H' s' h' (t.trans t2)
structure OutD (K : PySem.W.Frag) (W : WX) (H : Hp) (D : Ends) (LD : LEnds) : Prop where
  nx : OutN K H D.nx LD.nx
  rt : OutV K H D.rt LD.rt
  ex : OutSX K W H LD.ex
  bk : OutN K H D.bk LD.bk
  ct : OutN K H D.ct LD.ct
theorem OutD.step {K : PySem.W.Frag} {W : WX} {H H1 : Hp} {D : Ends} {LD : LEnds} (o : OutD K W H D LD) (t : TLe K H H1) : OutD K W H1 D LD := ⟨o.nx.step t, o.rt.step t, o.ex.step t, o.bk.step t, o.ct.step t⟩
def upS (K : PySem.W.Frag) (W : WX) (l : LTS) : TS := fun D σ H => ∃ s h LD, RS K H s σ ∧ RH K H h ∧ l LD s h ∧ OutD K W H D LD
theorem sit_of {K : PySem.W.Frag} {W : WX} {σ : L2.St} {H : Hp} {s : LS} {h : LH} {E : SX} (rs : RS K H s σ) (rh : RH K H h) (o : OutSX K W H E) : Sit K W σ H s h fun c fs h' => E c fs s h' :=
  ⟨rs, rh, fun c fs d H' h' t r rd q => o c fs d σ H' s h' t (rs.mono t) r rd q⟩
abbrev LSt (X : Cx) (W : WX) (st : Stmt) (l : LTS) : Prop := PS X st (upS X.K W l)
abbrev LSs (X : Cx) (W : WX) (st : List Stmt) (l : LTS) : Prop := PSs X st (upS X.K W l)
/-! ### blocks -/
def lNx : LTS := fun D s h => D.nx s h
def lSeq (t u : LTS) : LTS := fun D s h => t { D with nx := fun s' h' => u D s' h' } s h
def lNev : LTS := fun _ _ _ => False
def lBrk : LTS := fun D s h => D.bk s h
def lCnt : LTS := fun D s h => D.ct s h
section
variable {X : Cx} {W : WX} {st : Stmt} {rest : List Stmt} {lt lu : LTS} {e o : Expr} {le lo la lb : LTE} {lc : LTT} {pos : Pos}
theorem lss_nil : LSs X W [] lNx := pssW pss_nil fun D σ H ⟨s, h, LD, rs, rh, hl, out⟩ => out.nx σ H s h (.refl H) rs rh hl
theorem lss_cons (h1 : LSt X W st lt) (h2 : LSs X W rest lu) : LSs X W (st :: rest) (lSeq lt lu) := pssW (pss_cons h1 h2) fun D σ H ⟨s, h, LD, rs, rh, hl, out⟩ =>
  ⟨s, h, { LD with nx := fun s' h' => lu LD s' h' }, rs, rh, hl, ⟨fun σ' H' s' h' t r1 r2 q => ⟨s', h', LD, r1, r2, q, out.step t⟩, out.rt, out.ex, out.bk, out.ct⟩⟩
theorem lss_one (h1 : LSt X W st lt) : LSs X W [st] lt := pss_one h1
theorem ls_pass : LSt X W (.Pass pos) lNx := psW ps_pass fun D σ H ⟨s, h, LD, rs, rh, hl, out⟩ => out.nx σ H s h (.refl H) rs rh hl
theorem ls_break : LSt X W (.Break pos) lBrk := psW ps_break fun D σ H ⟨s, h, LD, rs, rh, hl, out⟩ => out.bk σ H s h (.refl H) rs rh hl
theorem ls_continue : LSt X W (.Continue pos) lCnt := psW ps_continue fun D σ H ⟨s, h, LD, rs, rh, hl, out⟩ => out.ct σ H s h (.refl H) rs rh hl
theorem ls_doc {x j pos pos'} : LSt X W (.Expr (.Constant (.str x) j pos) pos') lNx := psW ps_doc fun D σ H ⟨s, h, LD, rs, rh, hl, out⟩ => out.nx σ H s h (.refl H) rs rh hl
theorem ls_never : LSt X W st lNev := psW ps_never fun D σ H ⟨s, h, LD, rs, rh, hl, out⟩ => hl
/-- an expression within a statement -/
def lE (l : LTE) (s : LS) (h : LH) (E : SX) (L : LK) : Prop := l s h (fun c fs h' => E c fs s h') L
def lDrop (l : LTE) : LTS := fun D s h => lE l s h D.ex fun _ h1 => D.nx s h1
theorem ls_expr (he : LE X W e le) (hs : swapsWith e none pos.line X.env = pure false := by rfl) : LSt X W (.Expr e pos) (lDrop le) := psW (ps_expr he hs) fun D σ H ⟨s, h, LD, rs, rh, hl, out⟩ =>
  ⟨s, h, _, _, sit_of rs rh out.ex, hl, fun v H1 x h1 t1 r1 rx q1 => out.nx σ H1 s h1 t1 (rs.mono t1) r1 q1⟩
def lRet (l : LTE) : LTS := fun D s h => lE l s h D.ex D.rt
theorem ls_ret (he : LE X W e le) : LSt X W (.Return (some e) pos) (lRet le) := psW (ps_ret he) fun D σ H ⟨s, h, LD, rs, rh, hl, out⟩ =>
  ⟨s, h, _, _, sit_of rs rh out.ex, hl, out.rt⟩
def lRetN : LTS := fun D _ h => D.rt .non h
theorem ls_retN : LSt X W (.Return none pos) lRetN := psW ps_retN fun D σ H ⟨s, h, LD, rs, rh, hl, out⟩ => out.rt .non H .non h (.refl H) rh .non hl
def lIfS (c : LTT) (t u : LTS) : LTS := fun D s h => c s h (fun c fs h' => D.ex c fs s h') fun b h1 => if b = true then t D s h1 else u D s h1
theorem ls_if {c : Expr} {a b : List Stmt} (hc : LT X W c lc) (ha : LSs X W a lt) (hb : LSs X W b lu) : LSt X W (.If c a b pos) (lIfS lc lt lu) := psW (ps_if hc ha hb) fun D σ H ⟨s, h, LD, rs, rh, hl, out⟩ =>
  ⟨s, h, _, _, sit_of rs rh out.ex, hl, fun k H1 h1 t1 r1 q1 => by
    cases k with
    | true => exact ⟨s, h1, LD, rs.mono t1, r1, q1, out.step t1⟩
    | false => exact ⟨s, h1, LD, rs.mono t1, r1, q1, out.step t1⟩⟩
/-! ### targets -/
abbrev LTG := LV → LS → LH → SX → (LS → LH → Prop) → Prop
abbrev LTGs := List LV → LS → LH → SX → (LS → LH → Prop) → Prop
def upG (K : PySem.W.Frag) (W : WX) (g : LTG) : TG := fun v σ H Q => ∃ x s h E L, RS K H s σ ∧ RH K H h ∧ OutSX K W H E ∧ RV K H x v ∧ g x s h E L ∧ OutN K H Q L
def upGs (K : PySem.W.Frag) (W : WX) (g : LTGs) : TGs := fun vs σ H Q => ∃ xs s h E L, RS K H s σ ∧ RH K H h ∧ OutSX K W H E ∧ RVs K H xs vs ∧ g xs s h E L ∧ OutN K H Q L
abbrev LG (X : Cx) (W : WX) (e : Expr) (g : LTG) : Prop := PG X e (upG X.K W g)
abbrev LGs (X : Cx) (W : WX) (e : List Expr) (g : LTGs) : Prop := PGs X e (upGs X.K W g)
theorem pgW {t t' : TG} (h : PG X e t) (i : ∀ v σ H Q, t' v σ H Q → t v σ H Q) : PG X e t' := ⟨fun pins s σ H v u Q I r q => h.run pins s σ H v u Q I r (i _ _ _ _ q)⟩
theorem pgsW {es : List Expr} {t t' : TGs} (h : PGs X es t) (i : ∀ v σ H Q, t' v σ H Q → t v σ H Q) : PGs X es t' := ⟨fun pins s σ H v u Q I r q => h.run pins s σ H v u Q I r (i _ _ _ _ q)⟩
def lgName (i : Nat) : LTG := fun x s h _ L => L (s.set i (some x)) h
theorem lg_name {x : Str} (i : Nat) (hN : X.N.Nodup) (hi : X.N[i]? = some x := by rfl) (hx : Loc X.env.scope x := by first | exact Or.inl rfl | exact Or.inr rfl) (hf : X.fn x = true ∨ X.env.scope.names.lookup x = some .local := by first | exact .inl rfl | exact .inr rfl | assumption) : LG X W (.Name x pos) (lgName i) :=
  pgW (pg_name hN hi hx hf) fun v σ H Q ⟨x, s, h, E, L, rs, rh, oe, rx, hl, out⟩ => out _ H _ h (.refl H) (rs.set rx i) rh hl
def lgNil : LTGs := fun xs s h _ L => xs = [] ∧ L s h
def lgCons (g : LTG) (gs : LTGs) : LTGs := fun xs s h E L => match xs with
  | x :: r => g x s h E fun s' h' => gs r s' h' E L
  | [] => False
theorem lgs_nil : LGs X W [] lgNil := pgsW pgs_nil fun v σ H Q ⟨xs, s, h, E, L, rs, rh, oe, rx, hl, out⟩ => by
  obtain ⟨rfl, q⟩ := hl
  cases rx
  exact ⟨rfl, out σ H s h (.refl H) rs rh q⟩
theorem lgs_cons {es : List Expr} {g : LTG} {gs : LTGs} (h1 : LG X W e g) (h2 : LGs X W es gs) (hs : (assignEach (e :: es) X.env).map (·.2) = assign e X.env :: (assignEach es X.env).map (·.2) := by rfl) : LGs X W (e :: es) (lgCons g gs) :=
  pgsW (pgs_cons h1 h2 hs) fun v σ H Q ⟨xs, s, h, E, L, rs, rh, oe, rx, hl, out⟩ => by
    cases rx with
    | nil => exact hl.elim
    | cons r rr => exact ⟨_, _, rfl, _, s, h, E, _, rs, rh, oe, r, hl, fun σ' H' s' h' t r1 r2 q => ⟨_, s', h', E, L, r1, r2, oe.step t, rr.mono t, q, out.step t⟩⟩
def lgTup (n : Nat) (gs : LTGs) : LTG := fun x s h E L => match x with
  | .tup xs => xs.length = n ∧ gs xs s h E L
  | _ => False
theorem lg_tup {es : List Expr} {k n : Nat} {gs : LTGs} (hc : X.calm = true) (h : LGs X W es gs) (hn : (assignEach es X.env).length = n := by rfl) (hst : (assignEach es X.env).findIdx? (·.1) = none := by rfl) : LG X W (.Tuple es k pos) (lgTup n gs) :=
  pgW (pg_tup hc h hn hst) fun v σ H Q ⟨x, s, h, E, L, rs, rh, oe, rx, hl, out⟩ => by
    cases rx with
    | tup ht hr => exact ⟨_, _, rfl, ht, by rw [← hr.length]; exact hl.1, _, s, h, E, L, rs, rh, oe, hr, hl.2, out⟩
    | _ => exact hl.elim
/-- o[i] = x -/
def gSet : LV → LV → LV → LH → (LH → Prop) → Prop := fun o i x h L => match o with
  | .ref a => (match h a with
    | some (.lst xs) => (match i with
      | .int k => (match ixN xs.length k with
        | some j => L (up h a (.lst (xs.set j x)))
        | none => False)
      | _ => False)
    | some (.dic kvs) => (match keyOf i with
      | some k => kvs.length < 100000 ∧ L (up h a (.dic (dput kvs k x)))
      | none => False)
    | _ => False)
  | _ => False
def rSetD : V → V → V → Hp → (Hp → Prop) → Prop := fun o i v H Q => ∃ a H', o = .ref a ∧ DPut H a i v H' ∧ Q H'
theorem set_two (hu : X.A.units + 1 < cLine) : PSet X (fun o i v H Q => rSetL o i v H Q ∨ rSetD o i v H Q) := by
  intro pins s σ H o i v ov iv u Q I ro ri rv q
  rcases q with q | ⟨a, H', rfl, g, q⟩
  · exact set_list pins s σ H o i v ov iv u Q I ro ri rv q
  · cases ro
    exact d_setItem hu I g ri rv fun s' I' => ⟨H', I', q⟩
theorem set_ok {K : PySem.W.Frag} {H : Hp} {h : LH} {o i x : LV} {ov iv v : V} {L : LH → Prop} {Q : Hp → Prop} (rh : RH K H h) (ro : RV K H o ov) (ri : RV K H i iv) (rx : RV K H x v) (g : gSet o i x h L) (out : ∀ H' h', TLe K H H' → RH K H' h' → L h' → Q H') :
    rSetL ov iv v H Q ∨ rSetD ov iv v H Q := by
  unfold gSet at g
  split at g
  · rename_i a
    cases ro
    split at g
    · rename_i xs ea
      obtain ⟨vs, e1, hr⟩ := rh a _ ea
      split at g
      · rename_i k
        cases ri
        split at g
        · rename_i j ej
          exact .inl ⟨a, vs, k, j, rfl, rfl, e1, by rw [← hr.length]; exact ej, out _ _ (.lst e1) (rh.upd (.lst e1) (.mkL upd_same ((hr.set rx j).mono (.lst e1)))) g⟩
        · exact g.elim
      · exact g.elim
    · rename_i kvs ea
      obtain ⟨ws, e1, hr⟩ := rh a _ ea
      split at g
      · rename_i k ek
        have e2 := keyOf_ok ri ek
        subst e2
        exact .inr ⟨a, _, rfl, .k e1 (by rw [← hr.length]; exact szlt g.1), out _ _ (.dK e1) (rh.upd (.dK e1) (.mkD upd_same ((hr.dput rx).mono (.dK e1)))) g.2⟩
      · exact g.elim
    · exact g.elim
  · exact g.elim
def lgSub (lo li : LTE) : LTG := fun x s h E L => lE lo s h E fun o h1 => lE li s h1 E fun i h2 => gSet o i x h2 fun h3 => L s h3
theorem lg_sub {i : Expr} {li : LTE} (hu : X.A.units + 1 < cLine) (ho : LE X W o lo) (hi : LE X W i li) (ha : ∀ v, assign (.Subscript o i pos) X.env v = (do
      let ov ← holding [v] (eval o X.env)
      let iv ← holding [v, ov] (eval i X.env)
      standAt pos
      holding [v, ov, iv] (setItem ov iv v)
      release [v, ov, iv] []) := by intro _; rfl) : LG X W (.Subscript o i pos) (lgSub lo li) :=
  pgW (pg_sub ho hi (set_two hu) ha) fun v σ H Q ⟨x, s, h, E, L, rs, rh, oe, rx, hl, out⟩ =>
    ⟨s, h, _, _, sit_of rs rh oe, hl, fun ov H1 y h1 t1 r1 ry q1 => ⟨s, h1, _, _, (sit_of rs rh oe).step t1 r1, q1, fun iv H2 z h2 t2 r2 rz q2 =>
      set_ok r2 (ry.mono t2) rz ((rx.mono t1).mono t2) q2 fun H3 h3 t3 r3 q3 => out σ H3 s h3 ((t1.trans t2).trans t3) (rs.mono ((t1.trans t2).trans t3)) r3 q3⟩⟩
def lAsg (l : LTE) (g : LTG) : LTS := fun D s h => lE l s h D.ex fun x h1 => g x s h1 D.ex D.nx
theorem ls_asg {tg : Expr} {g : LTG} (he : LE X W e le) (hg : LG X W tg g) (hs : swapsWithSole [tg] e pos.line X.env = pure false := by rfl) (hw : swappedStores [tg] e X.env = pure none := by rfl)
    (h1 : (assignEach [tg] X.env).map (·.2) = [assign tg X.env] := by rfl) : LSt X W (.Assign [tg] e pos) (lAsg le g) := psW (ps_asg he hg hs hw h1) fun D σ H ⟨s, h, LD, rs, rh, hl, out⟩ =>
  ⟨s, h, _, _, sit_of rs rh out.ex, hl, fun v H1 x h1 t1 r1 rx q1 => ⟨x, s, h1, LD.ex, LD.nx, rs.mono t1, r1, out.ex.step t1, rx, q1, out.nx.step t1⟩⟩
theorem ls_set {x : Str} (i : Nat) {pos' : Pos} (hN : X.N.Nodup) (he : LE X W e le) (hi : X.N[i]? = some x := by rfl) (hx : Loc X.env.scope x := by first | exact Or.inl rfl | exact Or.inr rfl) (hs : swapsWith e (some (.Name x pos')) pos.line X.env = pure false := by rfl)
    (hf : X.fn x = true ∨ X.env.scope.names.lookup x = some .local := by first | exact .inl rfl | exact .inr rfl | assumption) : LSt X W (.Assign [.Name x pos'] e pos) (lAsg le (lgName i)) := psW (ps_set hN hi hx he hs hf) fun D σ H ⟨s, h, LD, rs, rh, hl, out⟩ =>
  ⟨s, h, _, _, sit_of rs rh out.ex, hl, fun v H1 x h1 t1 r1 rx q1 => out.nx _ H1 _ h1 t1 ((rs.mono t1).set rx i) r1 q1⟩
/-- a, b = x, y -/
def lPar (i j : Nat) (la : LTA) : LTS := fun D s h => la s h (fun c fs h' => D.ex c fs s h') fun xs h1 => match xs with
  | [x, y] => D.nx ((s.set i (some x)).set j (some y)) h1
  | _ => False
theorem ls_par {x y : Str} {a b : Expr} {lr : LTA} {px py pt : Pos} {kt k2 pt2} (i j : Nat) (hc : X.calm = true) (hN : X.N.Nodup) (ha : LA X W [a, b] lr) (hi : X.N[i]? = some x := by rfl) (hj : X.N[j]? = some y := by rfl) (hij : i ≠ j := by decide)
    (hx : X.env.scope.names.lookup x = some .local := by rfl) (hy : X.env.scope.names.lookup y = some .local := by rfl)
    (hw : swappedStores [.Tuple [.Name x px, .Name y py] kt pt] (.Tuple [a, b] k2 pt2) X.env = pure (some [x, y]) := by rfl)
    (hs : swapsWithSole [.Tuple [.Name x px, .Name y py] kt pt] (.Tuple [a, b] k2 pt2) pos.line X.env = pure false := by rfl) :
    LSt X W (.Assign [.Tuple [.Name x px, .Name y py] kt pt] (.Tuple [a, b] k2 pt2) pos) (lPar i j lr) := psW (ps_par hc hN hi hj hij hx hy ha hw hs) fun D σ H ⟨s, h, LD, rs, rh, hl, out⟩ =>
  ⟨s, h, _, _, sit_of rs rh out.ex, hl, fun vs H1 xs h1 t1 r1 rxs q1 => by
    split at q1
    · cases rxs with
      | cons r t =>
        cases t with
        | cons r' t =>
          cases t
          exact ⟨_, _, rfl, out.nx _ H1 _ h1 t1 (((rs.mono t1).set r i).set r' j) r1 q1⟩
    · exact q1.elim⟩
/-! ### fields -/
def lFldS (c : Cn) (f : Fd) (lo lv : LTE) : LTS := fun D s h => lE lv s h D.ex fun x h1 => lE lo s h1 D.ex fun o h2 => match o with
  | .ref a => (match h2 a with
    | some (.ins c' fs) => c' = c ∧ fs.length < 100 ∧ D.nx s (up h2 a (.ins c (fput f x fs)))
    | _ => False)
  | _ => False
theorem ls_fld {value : Expr} {lv : LTE} {c : Cn} {m : Str} {pos' : Pos} (f : Fd) (ho : LE X W o lo) (hv : LE X W value lv) (cl : Cls X.K (c.ad X.K)) (na : NoAttr X.K (c.ad X.K) m) (hm : f.nm = m := by rfl)
    (hs : swapsWith value (some (.Attribute o m pos')) pos.line X.env = pure false := by rfl) : LSt X W (.Assign [.Attribute o m pos'] value pos) (lFldS c f lo lv) := psW (ps_fld ho hv hs) fun D σ H ⟨s, h, LD, rs, rh, hl, out⟩ =>
  ⟨s, h, _, _, sit_of rs rh out.ex, hl, fun v H1 x h1 t1 r1 rx q1 => ⟨s, h1, _, _, (sit_of rs rh out.ex).step t1 r1, q1, fun ov H2 y h2 t2 r2 ry q2 => by
    cases ry with
    | ref a =>
      have q3 : (match h2 a with
        | some (.ins c' fs) => c' = c ∧ fs.length < 100 ∧ LD.nx s (up h2 a (.ins c (fput f x fs)))
        | _ => False) := q2
      split at q3
      · rename_i c' fs ea
        obtain ⟨rfl, hz, q4⟩ := q3
        obtain ⟨dx, ws, e1, hr⟩ := r2 a _ ea
        subst hm
        refine ⟨a, _, dx, ws, rfl, e1, cl, na, by rw [← hr.length]; omega, out.nx σ _ s _ ((t1.trans t2).trans (.ins e1)) (rs.mono ((t1.trans t2).trans (.ins e1))) (r2.upd (.ins e1) (.mkI upd_same ((hr.fput (rx.mono t2)).mono (.ins e1)))) q4⟩
      · exact q3.elim
    | _ => exact q2.elim⟩⟩
/-- o.f += e, whole numbers -/
def lFldAdd (c : Cn) (f : Fd) (lo lv : LTE) : LTS := fun D s h => lE lo s h D.ex fun o h1 => match o with
  | .ref a => (match h1 a with
    | some (.ins c' fs) => c' = c ∧ (match fget fs f with
      | some (.int i) => lE lv s h1 D.ex fun y h2 => (match y with
        | .int j => (match h2 a with
          | some (.ins c'' fs') => c'' = c ∧ fs'.length < 100 ∧ D.nx s (up h2 a (.ins c (fput f (.int (i + j)) fs')))
          | _ => False)
        | _ => False)
      | _ => False)
    | _ => False)
  | _ => False
theorem ls_fldadd {value : Expr} {lv : LTE} {c : Cn} {m : Str} {pos' : Pos} (f : Fd) (ho : LE X W o lo) (hv : LE X W value lv) (cl : Cls X.K (c.ad X.K)) (na : NoAttr X.K (c.ad X.K) m) (hm : f.nm = m := by rfl) :
    LSt X W (.AugAssign (.Attribute o m pos') .Add value pos) (lFldAdd c f lo lv) := psW (ps_fldaug ho hv in_add) fun D σ H ⟨s, h, LD, rs, rh, hl, out⟩ =>
  ⟨s, h, _, _, sit_of rs rh out.ex, hl, fun ov H1 o' h1 t1 r1 ro q1 => by
    cases ro with
    | ref a =>
      dsimp only at q1
      split at q1
      · rename_i c' fs ea
        obtain ⟨rfl, q2⟩ := q1
        obtain ⟨dx, ws, e1, hr⟩ := r1 a _ ea
        split at q2
        · rename_i i ei
          obtain ⟨w, e2, rw'⟩ := hr.fget ei
          cases rw'
          rw [hm] at e2
          refine ⟨a, _, dx, ws, _, rfl, e1, cl, na, e2, s, h1, _, _, (sit_of rs rh out.ex).step t1 r1, q2, fun v H2 y h2 t2 r2 ry q3 => ?_⟩
          split at q3
          · rename_i j
            cases ry
            split at q3
            · rename_i c'' fs' eb
              obtain ⟨rfl, hz, q4⟩ := q3
              obtain ⟨dx', ws', e3, hr'⟩ := r2 a _ eb
              subst hm
              exact ⟨i, j, rfl, rfl, dx', ws', e3, by rw [← hr'.length]; omega, out.nx σ _ s _ ((t1.trans t2).trans (.ins e3)) (rs.mono ((t1.trans t2).trans (.ins e3))) (r2.upd (.ins e3) (.mkI upd_same ((hr'.fput (.int _)).mono (.ins e3)))) q4⟩
            · exact q3.elim
          · exact q3.elim
        · exact q2.elim
      · exact q1.elim
    | _ => exact q1.elim⟩
/-! ### loops -/
/-- what is walked: at a turn and a heap stuck, ended, or an item -/
abbrev LIt := Nat → LH → Option (Option LV)
abbrev LTI := LS → LH → LX → (LIt → LH → Prop) → Prop
def RIt (K : PySem.W.Frag) (H0 : Hp) (J : It) (it : LIt) : Prop := ∀ i H h, TLe K H0 H → RH K H h → match it i h with
  | none => True
  | some none => J.stop i H
  | some (some x) => J.go i H ∧ ∀ v H', J.yld i H v H' → TLe K H H' ∧ RH K H' h ∧ RV K H' x v
def upI (K : PySem.W.Frag) (W : WX) (li : LTI) : TI := fun σ H R => ∃ s h E L, Sit K W σ H s h E ∧ li s h E L ∧ ∀ J H' it h', TLe K H H' → RH K H' h' → RIt K H' J it → L it h' → R J H'
abbrev LI (X : Cx) (W : WX) (tg iter : Expr) (li : LTI) : Prop := PI X tg iter (upI X.K W li)
theorem piW {tg iter : Expr} {t t' : TI} (h : PI X tg iter t) (i : ∀ σ H R, t' σ H R → t σ H R) : PI X tg iter t' := ⟨fun pins s σ H R I q => h.run pins s σ H R I (i _ _ _ q)⟩
def lFor (li : LTI) (g : LTG) (lb : LTS) : LTS := fun D s h => li s h (fun c fs h' => D.ex c fs s h') fun it h1 => ∃ (n : Nat) (P : Nat → LS → LH → Prop), P 0 s h1 ∧ ∀ i s h, P i s h → match it i h with
  | none => False
  | some none => D.nx s h
  | some (some x) => i < n ∧ g x s h D.ex fun s' h' => lb { D with nx := P (i + 1), ct := P (i + 1), bk := D.nx } s' h'
theorem ls_for {tg iter : Expr} {body : List Stmt} {li : LTI} {g : LTG} {lb : LTS} (hp : PassesOwn (model X.prog X.w) X.A X.env X.xe) (hc : X.calm = true) (hi : LI X W tg iter li) (hg : LG X W tg g) (hb : LSs X W body lb)
    (hs : ∀ x, foldedSetIterable iter X.env x = pure x := by intro _; rfl) : LSt X W (.For tg iter body [] pos) (lFor li g lb) := psW (ps_for hp hc hi hg hb hs) fun D σ H ⟨s, h, LD, rs, rh, hl, out⟩ =>
  ⟨s, h, _, _, sit_of rs rh out.ex, hl, fun J H1 it h1 t1 r1 rit q1 => by
    obtain ⟨n, P, p0, step⟩ := q1
    refine ⟨fun i m σ' H' => ∃ s' h', TLe X.K H1 H' ∧ RS X.K H' s' σ' ∧ RH X.K H' h' ∧ P i s' h' ∧ m = n - i, ⟨n, s, h1, .refl H1, rs.mono t1, r1, p0, by omega⟩, ?_⟩
    rintro i m σ' H' ⟨s', h', t2, rs', r2, p, rfl⟩
    have q := step i s' h' p
    have z := rit i H' h' t2 r2
    split at q
    · exact q.elim
    · rename_i e
      rw [e] at z
      exact .inl ⟨z, out.nx σ' H' s' h' (t1.trans t2) rs' r2 q⟩
    · rename_i x e
      rw [e] at z
      obtain ⟨hn, q2⟩ := q
      refine .inr ⟨z.1, fun σ2 H2 => ∃ s2 h2, TLe X.K H1 H2 ∧ RS X.K H2 s2 σ2 ∧ RH X.K H2 h2 ∧ P (i + 1) s2 h2, fun σ2 H2 ⟨s2, h2, a, b, c, d⟩ => ⟨n - (i + 1), by omega, s2, h2, a, b, c, d, rfl⟩, fun v H3 y => ?_⟩
      obtain ⟨t3, r3, rv⟩ := z.2 v H3 y
      refine ⟨x, s', h', LD.ex, _, rs'.mono t3, r3, out.ex.step ((t1.trans t2).trans t3), rv, q2, fun σ4 H4 s4 h4 t4 rs4 r4 q4 => ?_⟩
      have tt : TLe X.K H1 H4 := (t2.trans t3).trans t4
      exact ⟨s4, h4, _, rs4, r4, q4, ⟨fun σ5 H5 s5 h5 t5 rs5 r5 q5 => ⟨s5, h5, tt.trans t5, rs5, r5, q5⟩, out.rt.step (t1.trans tt), out.ex.step (t1.trans tt), out.nx.step (t1.trans tt), fun σ5 H5 s5 h5 t5 rs5 r5 q5 => ⟨s5, h5, tt.trans t5, rs5, r5, q5⟩⟩⟩⟩
/-! ### what is walked -/
def itSt (xs : List LV) : LIt := fun i _ => some xs[i]?
def itL (a : Addr) : LIt := fun i h => match h a with
  | some (.lst xs) => some xs[i]?
  | _ => none
/-- a list, a tuple, a text -/
def liSeq (l : LTE) : LTI := fun s h E L => l s h E fun x h1 => match x with
  | .tup xs => L (itSt xs) h1
  | .rl xs => L (itSt xs) h1
  | .str z => L (itSt (z.cps.toList.map fun c => .str ⟨#[c]⟩)) h1
  | .ref a => (match h1 a with
    | some (.lst _) => L (itL a) h1
    | _ => False)
  | _ => False
def iSeq (K : PySem.W.Frag) (tl : TE) : TI := fun σ H R => tl σ H fun x H1 => (∃ a, x = .ref a ∧ (∃ xs, SqL K H1 a xs) ∧ R (Itl K a) H1) ∨ (∃ a, x = .ref a ∧ (∃ xs, SqT K H1 a xs) ∧ R (Itt K a) H1) ∨ ∃ z, x = .str z ∧ R (Its z) H1
theorem pi_seq {tg l : Expr} {tl : TE} (hl : PE X l tl) : PI X tg l (iSeq X.K tl) := by
  refine ⟨fun pins s σ H R I h => ?_⟩
  refine thn (hl.run pins s σ H _ I h) fun v s1 ⟨x, H1, I1, r1, q1⟩ => ?_
  rcases q1 with ⟨a, rfl, ⟨xs, hq⟩, q⟩ | ⟨a, rfl, ⟨xs, hq⟩, q⟩ | ⟨z, rfl, q⟩
  · cases r1
    obtain ⟨its, rv, p, hz⟩ := I1.list hq
    refine wpAny_pyIter_list p.isList ?_
    refine ⟨s1.heap.objs.size, [s1.heap.objs.size], _, _, H1, rfl, I1.kept (t' := s1.toks) fun b o e => Heap.get?_push_of_some _ e, turn_list a _, ⟨_, Heap.get?_push_size _ rfl, rfl, rfl⟩, fun b hb => ?_, q⟩
    have e : b = s1.heap.objs.size := by simpa using hb
    subst e
    exact I1.fpOk (Nat.le_refl _) (I1.hok.fresh (Nat.le_refl _))
  · cases r1
    obtain ⟨its, rv, p, hz⟩ := I1.tuple hq
    refine wpAny_pyIter_tuple (show s1.heap.IsTuple a its.toArray from p) ?_
    refine ⟨s1.heap.objs.size, [s1.heap.objs.size], _, _, H1, rfl, I1.kept (t' := s1.toks) fun b o e => Heap.get?_push_of_some _ e, turn_tuple a _, ⟨_, Heap.get?_push_size _ rfl, rfl, rfl⟩, fun b hb => ?_, q⟩
    have e : b = s1.heap.objs.size := by simpa using hb
    subst e
    exact I1.fpOk (Nat.le_refl _) (I1.hok.fresh (Nat.le_refl _))
  · obtain ⟨t, rfl⟩ := r1
    cases ha : z.cps.all (· < 128)
    · exact wpAny_pyIter_wide ha (pi_one (tk := s1.toks) I1 _ (turn_str _ z t "str_iterator" (.inr rfl)) ⟨_, Heap.get?_push_size _ rfl, rfl, rfl⟩ q)
    · exact wpAny_pyIter_ascii ha (pi_one (tk := s1.toks) I1 _ (turn_str _ z t "str_ascii_iterator" (.inl rfl)) ⟨_, Heap.get?_push_size _ rfl, rfl, rfl⟩ q)
theorem li_seq {tg e : Expr} {le : LTE} (he : LE X W e le) : LI X W tg e (liSeq le) := piW (pi_seq he) fun σ H R ⟨s, h, E, L, z, hl, out⟩ => ⟨s, h, E, _, z, hl, fun v H1 x h1 t1 r1 rx q1 => by
  cases rx with
  | tup ht hr =>
    rename_i a xs vs
    refine .inr (.inl ⟨a, rfl, ⟨_, ht⟩, out (Itt X.K a) H1 (itSt xs) h1 t1 r1 (fun i H2 h2 t2 r2 => ?_) q1⟩)
    have ht2 := t2.t _ _ ht
    have hr2 := hr.mono t2
    unfold itSt
    cases e : xs[i]? with
    | none => exact ⟨vs, ht2, by rw [← hr.length]; exact List.getElem?_eq_none_iff.mp e⟩
    | some x =>
      obtain ⟨w, hw, rw'⟩ := hr2.get e
      refine ⟨⟨vs, w, ht2, hw⟩, fun y H3 ⟨e3, hy⟩ => ?_⟩
      subst e3
      have e4 := hy vs ht2
      rw [hw] at e4
      cases e4
      exact ⟨.refl _, r2, rw'⟩
  | rl ht hr =>
    rename_i a xs vs
    refine .inl ⟨a, rfl, ⟨_, ht.sq⟩, out (Itl X.K a) H1 (itSt xs) h1 t1 r1 (fun i H2 h2 t2 r2 => ?_) q1⟩
    have ht2 := (t2.l _ _ ht).sq
    have hr2 := hr.mono t2
    unfold itSt
    cases e : xs[i]? with
    | none => exact ⟨vs, ht2, by rw [← hr.length]; exact List.getElem?_eq_none_iff.mp e⟩
    | some x =>
      obtain ⟨w, hw, rw'⟩ := hr2.get e
      refine ⟨⟨vs, w, ht2, hw⟩, fun y H3 ⟨e3, hy⟩ => ?_⟩
      subst e3
      have e4 := hy vs ht2
      rw [hw] at e4
      cases e4
      exact ⟨.refl _, r2, rw'⟩
  | str z =>
    refine .inr (.inr ⟨z, rfl, out (Its z) H1 _ h1 t1 r1 (fun i H2 h2 t2 r2 => ?_) q1⟩)
    unfold itSt
    rw [List.getElem?_map]
    cases e : z.cps.toList[i]? with
    | none =>
      show z.cps.size ≤ i
      have h5 := List.getElem?_eq_none_iff.mp e
      rw [Array.length_toList] at h5
      exact h5
    | some c =>
      have hi : i < z.cps.size := by
        have h5 := (List.getElem?_eq_some_iff.mp e).1
        rw [Array.length_toList] at h5
        exact h5
      refine ⟨hi, fun y H3 ⟨e3, c', hc, ey⟩ => ?_⟩
      subst e3 ey
      have hc2 : z.cps.toList[i]? = some c' := by rw [Array.getElem?_toList]; exact hc
      rw [e] at hc2
      cases hc2
      exact ⟨.refl _, r2, .str _⟩
  | ref a =>
    have q2 : (match h1 a with
      | some (.lst _) => L (itL a) h1
      | _ => False) := q1
    split at q2
    · rename_i xs ea
      obtain ⟨vs, e1, hr⟩ := r1 a _ ea
      refine .inl ⟨a, rfl, ⟨_, .of e1⟩, out (Itl X.K a) H1 (itL a) h1 t1 r1 (fun i H2 h2 t2 r2 => ?_) q2⟩
      unfold itL
      cases eb : h2 a with
      | none => trivial
      | some o =>
        cases o with
        | lst ys =>
          obtain ⟨ws, e2, hr2⟩ := r2 a _ eb
          dsimp only
          cases e : ys[i]? with
          | none => exact ⟨ws, .of e2, by rw [← hr2.length]; exact List.getElem?_eq_none_iff.mp e⟩
          | some x =>
            obtain ⟨w, hw, rw'⟩ := hr2.get e
            refine ⟨⟨ws, w, .of e2, hw⟩, fun y H3 ⟨e3, hy⟩ => ?_⟩
            subst e3
            have e4 := hy ws (.of e2)
            rw [hw] at e4
            cases e4
            exact ⟨.refl _, r2, rw'⟩
        | _ => trivial
    · exact q2.elim
  | _ => exact q1.elim⟩
/-- range -/
def itR (lo : Int) (n : Nat) : LIt := fun i _ => if i < n then some (some (.int (lo + i))) else some none
theorem rit_range {K : PySem.W.Frag} {H0 : Hp} {lo : Int} {n : Nat} : RIt K H0 (Itr lo n) (itR lo n) := fun i H h t r => by
  unfold itR
  by_cases hi : i < n
  · rw [if_pos hi]
    exact ⟨hi, fun v H' ⟨e1, e2⟩ => by subst e1 e2; exact ⟨.refl _, r, .int _⟩⟩
  · rw [if_neg hi]
    exact Nat.le_of_not_lt hi
def liRng1 (la : LTA) : LTI := fun s h E L => la s h E fun xs h1 => match xs with
  | [.int j] => -1000000 ≤ j ∧ j ≤ 1000000 ∧ L (itR 0 j.toNat) h1
  | _ => False
def liRng2 (la : LTA) : LTI := fun s h E L => la s h E fun xs h1 => match xs with
  | [.int i, .int j] => (-1000000 ≤ i ∧ i ≤ 1000000 ∧ -1000000 ≤ j ∧ j ≤ 1000000) ∧ L (itR i (j - i).toNat) h1
  | _ => False
theorem li_range1 {tg a : Expr} {lr : LTA} {p pos : Pos} (hm : X.mg "range" = none) (ha : LA X W [a] lr) (hg : Gl X "range" := by rfl) (hs : starEach [a] X.env = [(false, eval a X.env)] := by rfl) : LI X W tg (.Call (.Name "range" p) [a] [] pos) (liRng1 lr) :=
  piW (pi_range1 hg hm ha hs) fun σ H R ⟨s, h, E, L, z, hl, out⟩ => ⟨s, h, E, _, z, hl, fun v H1 x h1 t1 r1 rx q1 => by
    split at q1
    · cases rx with
      | cons r t =>
        cases t
        cases r
        exact ⟨_, rfl, by omega, by omega, out _ H1 _ h1 t1 r1 rit_range q1.2.2⟩
    · exact q1.elim⟩
theorem li_range2 {tg a b : Expr} {lr : LTA} {p pos : Pos} (hm : X.mg "range" = none) (ha : LA X W [a, b] lr) (hg : Gl X "range" := by rfl) (hs : starEach [a, b] X.env = [(false, eval a X.env), (false, eval b X.env)] := by rfl) (hs2 : starEach [b] X.env = [(false, eval b X.env)] := by rfl) :
    LI X W tg (.Call (.Name "range" p) [a, b] [] pos) (liRng2 lr) :=
  piW (pi_range2 hg hm ha hs hs2) fun σ H R ⟨s, h, E, L, z, hl, out⟩ => ⟨s, h, E, _, z, hl, fun v H1 x h1 t1 r1 rx q1 => by
    split at q1
    · cases rx with
      | cons r t =>
        cases t with
        | cons r2 t =>
          cases t
          cases r
          cases r2
          exact ⟨_, _, rfl, by omega, out _ H1 _ h1 t1 r1 rit_range q1.2⟩
    · exact q1.elim⟩
/-- reversed(range(n)) -/
def itC (lo c : Int) (n : Nat) : LIt := fun i _ => if i < n then some (some (.int (lo + (i : Nat) * c))) else some none
theorem rit_rangeC {K : PySem.W.Frag} {H0 : Hp} {lo c : Int} {n : Nat} : RIt K H0 (Itc lo c n) (itC lo c n) := fun i H h t r => by
  unfold itC
  by_cases hi : i < n
  · rw [if_pos hi]
    exact ⟨hi, fun v H' ⟨e1, e2⟩ => by subst e1 e2; exact ⟨.refl _, r, .int _⟩⟩
  · rw [if_neg hi]
    exact Nat.le_of_not_lt hi
def liRevRng1 (l : LTE) : LTI := fun s h E L => l s h E fun x h1 => match x with
  | .int j => 0 ≤ j ∧ j ≤ 1000000 ∧ L (itC (j - 1) (-1) j.toNat) h1
  | _ => False
theorem li_revRng1 {tg a : Expr} {lo : LTE} {p p2 pos pos2 : Pos} (hm : X.mg "reversed" = none) (hm2 : X.mg "range" = none) (ha : LE X W a lo) (hg : Gl X "reversed" := by rfl) (hg2 : Gl X "range" := by rfl)
    (na : starEach [a] X.env = (false, eval a X.env) :: starEach [] X.env := by rfl) (hs : starEach [.Call (.Name "range" p2) [a] [] pos2] X.env = (false, eval (.Call (.Name "range" p2) [a] [] pos2) X.env) :: starEach [] X.env := by rfl) :
    LI X W tg (.Call (.Name "reversed" p) [.Call (.Name "range" p2) [a] [] pos2] [] pos) (liRevRng1 lo) :=
  piW (pi_revR hg hm (prg_1 hg2 hm2 ha na) hs) fun σ H R ⟨s, h, E, L, z, hl, out⟩ => ⟨s, h, E, _, z, hl, fun v H1 x h1 t1 r1 rx q1 => by
    cases rx with
    | int j =>
      obtain ⟨q0, q2, q3⟩ := q1
      refine ⟨j, rfl, by omega, by omega, by omega, by omega, ?_⟩
      have e1 : ((j - 0).toNat) = j.toNat := by omega
      have e2 : (0 : Int) + (((j - 0).toNat : Nat) : Int) - 1 = j - 1 := by omega
      rw [e2, e1]
      exact out _ H1 _ h1 t1 r1 rit_rangeC q3
    | _ => exact q1.elim⟩
/-- reversed(list), reversed(tuple) -/
def itRevS (xs : List LV) : LIt := fun i _ => some xs.reverse[i]?
def itRevL (a : Addr) (n : Nat) : LIt := fun i h => match h a with
  | some (.lst xs) => if xs.length = n then some xs.reverse[i]? else none
  | _ => none
def liRev (l : LTE) : LTI := fun s h E L => l s h E fun x h1 => match x with
  | .tup xs => L (itRevS xs) h1
  | .rl xs => L (itRevS xs) h1
  | .ref a => (match h1 a with
    | some (.lst xs) => L (itRevL a xs.length) h1
    | _ => False)
  | _ => False
theorem rev_get {α : Type} {xs : List α} {i : Nat} (hi : i < xs.length) : xs.reverse[i]? = xs[xs.length - 1 - i]? := List.getElem?_reverse hi
theorem li_rev {tg a : Expr} {lo : LTE} {p pos : Pos} (hm : X.mg "reversed" = none) (ha : LE X W a lo) (hg : Gl X "reversed" := by rfl) (hs : starEach [a] X.env = (false, eval a X.env) :: starEach [] X.env := by rfl) :
    LI X W tg (.Call (.Name "reversed" p) [a] [] pos) (liRev lo) := piW (RT.pi_revA hg hm ha hs) fun σ H R ⟨s, h, E, L, z, hl, out⟩ => ⟨s, h, E, _, z, hl, fun v H1 x h1 t1 r1 rx q1 => by
  cases rx with
  | tup ht hr =>
    rename_i a xs vs
    refine ⟨a, vs, rfl, .inr ⟨ht, out _ H1 (itRevS xs) h1 t1 r1 (fun i H2 h2 t2 r2 => ?_) q1⟩⟩
    have ht2 := t2.t _ _ ht
    have hr2 := hr.mono t2
    unfold itRevS
    by_cases hi : i < xs.length
    · have hg : xs.reverse[i]? = some (xs[xs.length - 1 - i]'(by omega)) := by rw [rev_get hi, List.getElem?_eq_getElem]
      rw [hg]
      obtain ⟨w, hw, rw'⟩ := hr2.get (List.getElem?_eq_getElem (l := xs) (i := xs.length - 1 - i) (by omega))
      rw [hr.length] at hw
      refine ⟨⟨by rw [← hr.length]; exact hi, vs, w, ht2, hw⟩, fun y H3 ⟨e3, hy⟩ => ?_⟩
      subst e3
      have e4 := hy vs ht2
      rw [hw] at e4
      cases e4
      exact ⟨.refl _, r2, rw'⟩
    · have hg : xs.reverse[i]? = none := List.getElem?_eq_none_iff.mpr (by rw [List.length_reverse]; omega)
      rw [hg]
      show vs.length ≤ i
      rw [← hr.length]
      omega
  | rl ht hr =>
    rename_i a xs vs
    refine ⟨a, vs, rfl, .inl ⟨ht.sq, out _ H1 (itRevS xs) h1 t1 r1 (fun i H2 h2 t2 r2 => ?_) q1⟩⟩
    have ht2 := (t2.l _ _ ht).sq
    have hr2 := hr.mono t2
    unfold itRevS
    by_cases hi : i < xs.length
    · have hg : xs.reverse[i]? = some (xs[xs.length - 1 - i]'(by omega)) := by rw [rev_get hi, List.getElem?_eq_getElem]
      rw [hg]
      obtain ⟨w, hw, rw'⟩ := hr2.get (List.getElem?_eq_getElem (l := xs) (i := xs.length - 1 - i) (by omega))
      rw [hr.length] at hw
      refine ⟨⟨by rw [← hr.length]; exact hi, vs, w, ht2, hw⟩, fun y H3 ⟨e3, hy⟩ => ?_⟩
      subst e3
      have e4 := hy vs ht2
      rw [hw] at e4
      cases e4
      exact ⟨.refl _, r2, rw'⟩
    · have hg : xs.reverse[i]? = none := List.getElem?_eq_none_iff.mpr (by rw [List.length_reverse]; omega)
      rw [hg]
      show vs.length ≤ i
      rw [← hr.length]
      omega
  | ref a =>
    have q2 : (match h1 a with
      | some (.lst xs) => L (itRevL a xs.length) h1
      | _ => False) := q1
    split at q2
    · rename_i xs ea
      obtain ⟨vs, e1, hr⟩ := r1 a _ ea
      refine ⟨a, vs, rfl, .inl ⟨.of e1, out _ H1 (itRevL a xs.length) h1 t1 r1 (fun i H2 h2 t2 r2 => ?_) q2⟩⟩
      unfold itRevL
      cases eb : h2 a with
      | none => trivial
      | some o =>
        cases o with
        | lst ys =>
          obtain ⟨ws, e2, hr2⟩ := r2 a _ eb
          dsimp only
          by_cases hl : ys.length = xs.length
          · rw [if_pos hl]
            by_cases hi : i < ys.length
            · have hg : ys.reverse[i]? = some (ys[ys.length - 1 - i]'(by omega)) := by rw [rev_get hi, List.getElem?_eq_getElem]
              rw [hg]
              obtain ⟨w, hw, rw'⟩ := hr2.get (List.getElem?_eq_getElem (l := ys) (i := ys.length - 1 - i) (by omega))
              rw [hl, hr.length] at hw
              refine ⟨⟨by rw [← hr.length, ← hl]; exact hi, ws, w, .of e2, hw⟩, fun y H3 ⟨e3, hy⟩ => ?_⟩
              subst e3
              have e4 := hy ws (.of e2)
              rw [hw] at e4
              cases e4
              exact ⟨.refl _, r2, rw'⟩
            · have hg : ys.reverse[i]? = none := List.getElem?_eq_none_iff.mpr (by rw [List.length_reverse]; omega)
              rw [hg]
              show vs.length ≤ i
              rw [← hr.length, ← hl]
              omega
          · rw [if_neg hl]; trivial
        | _ => trivial
    · exact q2.elim
  | _ => exact q1.elim⟩
end
end VL

set_option Elab.async false
set_option linter.all false
set_option maxRecDepth 100000
set_option maxHeartbeats 2000000
namespace VL
open PySem PySem.Spec PyProof.Rows L2
/-! ### enumerate, zip -/
def pr (x y : LV) : LV := .tup [x, y]
def itEnS (xs : List LV) : LIt := fun i _ => some (xs[i]?.map fun x => .tup [.int (i : Nat), x])
def itEnL (a : Addr) : LIt := fun i h => match h a with
  | some (.lst xs) => some (xs[i]?.map fun x => .tup [.int (i : Nat), x])
  | _ => none
def liEnumL (l : LTE) : LTI := fun s h E L => l s h E fun x h1 => match x with
  | .rl xs => L (itEnS xs) h1
  | .ref a => (match h1 a with
    | some (.lst _) => L (itEnL a) h1
    | _ => False)
  | _ => False
section
variable {K : PySem.W.Frag}
theorem pair_new {H : Hp} {T : Addr} {x y : LV} {v u : V} (n : H T = none) (rx : RV K H x v) (ry : RV K H y u) : RV K (upd H T (.tup [v, u])) (.tup [x, y]) (.ref T) :=
  .tup (.of upd_same) (.cons (rx.mono (.new n)) (.cons (ry.mono (.new n)) .nil))
theorem rit_enum {H0 : Hp} {a : Addr} {xs : List LV} {vs : List V} (fz : FzL K H0 a vs) (hr : RVs K H0 xs vs) : RIt K H0 (Ite K a) (itEnS xs) := fun i H h t r => by
  have ht2 := (t.l _ _ fz).sq
  have hr2 := hr.mono t
  unfold itEnS
  cases e : xs[i]? with
  | none => exact ⟨vs, ht2, by rw [← hr.length]; exact List.getElem?_eq_none_iff.mp e⟩
  | some x =>
    obtain ⟨w, hw, rw'⟩ := hr2.get e
    refine ⟨⟨vs, w, ht2, hw⟩, fun y H3 ⟨T, x', e1, e2, e3, hy⟩ => ?_⟩
    subst e1 e3
    have e4 := hy vs ht2
    rw [hw] at e4
    cases e4
    exact ⟨.new e2, r.new e2, pair_new e2 (.int _) rw'⟩
theorem rit_enumL {H0 : Hp} {a : Addr} : RIt K H0 (Ite K a) (itEnL a) := fun i H h t r => by
  unfold itEnL
  cases eb : h a with
  | none => trivial
  | some o =>
    cases o with
    | lst ys =>
      obtain ⟨ws, e2, hr2⟩ := r a _ eb
      dsimp only
      cases e : ys[i]? with
      | none => exact ⟨ws, .of e2, by rw [← hr2.length]; exact List.getElem?_eq_none_iff.mp e⟩
      | some x =>
        obtain ⟨w, hw, rw'⟩ := hr2.get e
        refine ⟨⟨ws, w, .of e2, hw⟩, fun y H3 ⟨T, x', e1, e3, e4, hy⟩ => ?_⟩
        subst e1 e4
        have e5 := hy ws (.of e2)
        rw [hw] at e5
        cases e5
        exact ⟨.new e3, r.new e3, pair_new e3 (.int _) rw'⟩
    | _ => trivial
end
section
variable {X : Cx} {W : WX} {e e2 : Expr} {le la lb : LTE} {p pos tpos : Pos} {elts : List Expr} {kk : Nat}
theorem li_enumL (hm : X.mg "enumerate" = none) (ha : LE X W e le) (hg : Gl X "enumerate" := by rfl) (hs : starEach [e] X.env = [(false, eval e X.env)] := by rfl) :
    LI X W (.Tuple elts kk tpos) (.Call (.Name "enumerate" p) [e] [] pos) (liEnumL le) := piW (pi_enum hg hm (pa_cons ha pa_nil hs) hs) fun σ H R ⟨s, h, E, L, z, hl, out⟩ => ⟨s, h, E, _, z, hl, fun v H1 x h1 t1 r1 rx q1 => by
  cases rx with
  | rl ht hr => exact ⟨_, _, rfl, ht.sq, out _ H1 _ h1 t1 r1 (rit_enum ht hr) q1⟩
  | ref a =>
    have q2 : (match h1 a with
      | some (.lst _) => L (itEnL a) h1
      | _ => False) := q1
    split at q2
    · rename_i xs ea
      obtain ⟨vs, e1, hr⟩ := r1 a _ ea
      exact ⟨a, vs, rfl, .of e1, out _ H1 _ h1 t1 r1 rit_enumL q2⟩
    · exact q2.elim
  | _ => exact q1.elim⟩
/-- zip of two tuples, of two lists -/
def zget (xs ys : List LV) (i : Nat) : Option LV := match xs[i]?, ys[i]? with
  | some x, some y => some (.tup [x, y])
  | _, _ => none
def itZS (xs ys : List LV) : LIt := fun i _ => some (zget xs ys i)
def itZL (a b : Addr) : LIt := fun i h => match h a, h b with
  | some (.lst xs), some (.lst ys) => some (zget xs ys i)
  | _, _ => none
def liZip (la lb : LTE) : LTI := fun s h E L => la s h E fun x h1 => lb s h1 E fun y h2 => match x, y with
  | .tup xs, .tup ys => L (itZS xs ys) h2
  | .ref a, .ref b => (match h2 a, h2 b with
    | some (.lst _), some (.lst _) => L (itZL a b) h2
    | _, _ => False)
  | _, _ => False
theorem zip_rit {K : PySem.W.Frag} {H : Hp} {h : LH} {xs ys : List LV} {vs ws : List V} {i : Nat} {J : It} (r : RH K H h) (hr : RVs K H xs vs) (hq : RVs K H ys ws) (stop : vs.length ≤ i ∨ ws.length ≤ i → J.stop i H)
    (go : ∀ v w, vs[i]? = some v → ws[i]? = some w → J.go i H) (yld : ∀ u H', J.yld i H u H' → ∃ T x y, u = .ref T ∧ H T = none ∧ H' = upd H T (.tup [x, y]) ∧ vs[i]? = some x ∧ ws[i]? = some y) :
    match (some (zget xs ys i) : Option (Option LV)) with
    | none => True
    | some none => J.stop i H
    | some (some x) => J.go i H ∧ ∀ v H', J.yld i H v H' → TLe K H H' ∧ RH K H' h ∧ RV K H' x v := by
  unfold zget
  cases e1 : xs[i]? with
  | none => exact stop (.inl (by rw [← hr.length]; exact List.getElem?_eq_none_iff.mp e1))
  | some x =>
    cases e2 : ys[i]? with
    | none => exact stop (.inr (by rw [← hq.length]; exact List.getElem?_eq_none_iff.mp e2))
    | some y =>
      obtain ⟨v, hv, rv⟩ := hr.get e1
      obtain ⟨w, hw, rw'⟩ := hq.get e2
      refine ⟨go v w hv hw, fun u H' q => ?_⟩
      obtain ⟨T, a, b, rfl, n, rfl, h1, h2⟩ := yld u H' q
      rw [hv] at h1
      rw [hw] at h2
      cases h1
      cases h2
      exact ⟨.new n, r.new n, pair_new n rv rw'⟩
theorem li_zip (hm : X.mg "zip" = none) (ha : LE X W e la) (hb : LE X W e2 lb) (hg : Gl X "zip" := by rfl) (hs : starEach [e, e2] X.env = (false, eval e X.env) :: starEach [e2] X.env := by rfl) (hs2 : starEach [e2] X.env = (false, eval e2 X.env) :: starEach [] X.env := by rfl)
    (hpl : (backTo pos (starEach [e2] X.env)).any (·.1) = false := by rfl) : LI X W (.Tuple elts kk tpos) (.Call (.Name "zip" p) [e, e2] [] pos) (liZip la lb) :=
  piW (RZ.pi_zipA hg hm (pa_cons ha (pa_cons hb pa_nil hs2) hs) hs hpl) fun σ H R ⟨s, h, E, L, z, hl, out⟩ => ⟨s, h, E, _, z, hl, fun v H1 x h1 t1 r1 rx q1 => ⟨s, h1, E, _, z.step t1 r1, q1, fun u H2 y h2 t2 r2 ry q2 => by
    have rx2 := rx.mono t2
    cases rx2 with
    | tup ht hr =>
      cases ry with
      | tup ht' hr' =>
        refine ⟨_, _, _, _, rfl, .inr ⟨ht, ht', out _ H2 _ h2 (t1.trans t2) r2 (fun i H3 h3 t3 r3 => ?_) q2⟩⟩
        have a1 := t3.t _ _ ht
        have a2 := t3.t _ _ ht'
        exact zip_rit r3 (hr.mono t3) (hr'.mono t3) (fun q => ⟨_, _, a1, a2, q⟩) (fun v w hv hw => ⟨_, _, v, w, a1, a2, hv, hw⟩) fun u H' ⟨T, x, y, q1, q2, q3, q4, q5⟩ => ⟨T, x, y, q1, q2, q3, q4 _ a1, q5 _ a2⟩
      | _ => exact q2.elim
    | ref a =>
      cases ry with
      | ref b =>
        have q3 : (match h2 a, h2 b with
          | some (.lst _), some (.lst _) => L (itZL a b) h2
          | _, _ => False) := q2
        split at q3
        · rename_i xs ys ea eb
          obtain ⟨vs, e1, hr⟩ := r2 a _ ea
          obtain ⟨ws, e2, hq⟩ := r2 b _ eb
          refine ⟨_, _, _, _, rfl, .inl ⟨.of e1, .of e2, out _ H2 _ h2 (t1.trans t2) r2 (fun i H3 h3 t3 r3 => ?_) q3⟩⟩
          unfold itZL
          cases ec : h3 a with
          | none => trivial
          | some oc =>
            cases ed : h3 b with
            | none => cases oc <;> trivial
            | some od =>
              cases oc with
              | lst xs' =>
                cases od with
                | lst ys' =>
                  obtain ⟨vs', e1', hr'⟩ := r3 a _ ec
                  obtain ⟨ws', e2', hq'⟩ := r3 b _ ed
                  exact zip_rit r3 hr' hq' (fun q => ⟨_, _, .of e1', .of e2', q⟩) (fun v w hv hw => ⟨_, _, v, w, .of e1', .of e2', hv, hw⟩) fun u H' ⟨T, x, y, q1, q2, q3, q4, q5⟩ => ⟨T, x, y, q1, q2, q3, q4 _ (.of e1'), q5 _ (.of e2')⟩
                | _ => trivial
              | _ => cases od <;> trivial
        · exact q3.elim
      | _ => exact q2.elim
    | _ => exact q2.elim⟩⟩
end
/-! ### comprehensions -/
/-- a comprehension's target: a name, names in a tuple -/
inductive NT where
  | nm (i : Nat) | tp (is : List Nat)
def rGs : List Nat → TGs
  | [] => gNil
  | i :: r => gCons (gName i) (rGs r)
def rG (K : PySem.W.Frag) : NT → TG
  | .nm i => gName i
  | .tp is => gTup K is.length (rGs is)
def sets (s : LS) : List Nat → List LV → LS
  | i :: is, x :: xs => sets (s.set i (some x)) is xs
  | _, _ => s
def NT.put (t : NT) (x : LV) (s : LS) : Option LS := match t with
  | .nm i => some (s.set i (some x))
  | .tp is => (match x with
    | .tup xs => if xs.length = is.length then some (sets s is xs) else none
    | _ => none)
def NT.own (t : NT) (vs : List Nat) : Bool := match t with
  | .nm i => vs.contains i
  | .tp is => is.all fun i => vs.contains i
def lwipe (s : LS) : List Nat → LS
  | [] => s
  | v :: vs => (lwipe s vs).set v none
theorem RS.wipe {K : PySem.W.Frag} {H : Hp} {s : LS} {σ : L2.St} (r : RS K H s σ) : ∀ vs : List Nat, RS K H (lwipe s vs) (L2.wipe σ vs)
  | [] => r
  | v :: vs => (RS.wipe r vs).clear v
theorem wipe_set {σ : L2.St} {i : Nat} {v : V} : ∀ {vs : List Nat}, i ∈ vs → wipe (σ.set i (some v)) vs = wipe σ vs
  | [], h => by cases h
  | j :: vs, h => by
    show (wipe (σ.set i (some v)) vs).set j none = (wipe σ vs).set j none
    by_cases hj : i ∈ vs
    · rw [wipe_set hj]
    · have e : i = j := by
        rcases List.mem_cons.mp h with e | e
        · exact e
        · exact absurd e hj
      subst e
      have aux : ∀ ws : List Nat, i ∉ ws → wipe (σ.set i (some v)) ws = (wipe σ ws).set i (some v) := by
        intro ws
        induction ws with
        | nil => intro _; rfl
        | cons w ws ih =>
          intro hw
          show (wipe (σ.set i (some v)) ws).set w none = ((wipe σ ws).set w none).set i (some v)
          rw [ih fun q => hw (List.mem_cons_of_mem _ q), List.set_comm]
          rintro rfl
          exact hw List.mem_cons_self
      rw [aux vs hj, List.set_set]
theorem wipe_get (σ : L2.St) (j : Nat) : ∀ vs : List Nat, (wipe σ vs)[j]? = if j ∈ vs then σ[j]?.map (fun _ => none) else σ[j]?
  | [] => by simp [wipe]
  | v :: vs => by
    show ((wipe σ vs).set v none)[j]? = _
    rw [List.getElem?_set, wipe_length, wipe_get σ j vs]
    by_cases h : v = j
    · subst h
      rw [if_pos rfl, if_pos List.mem_cons_self]
      by_cases hl : v < σ.length
      · rw [if_pos hl, List.getElem?_eq_getElem hl]; rfl
      · rw [if_neg hl, List.getElem?_eq_none (by omega)]; rfl
    · rw [if_neg h]
      by_cases hj : j ∈ vs
      · rw [if_pos hj, if_pos (List.mem_cons_of_mem _ hj)]
      · rw [if_neg hj, if_neg (by
          intro q
          rcases List.mem_cons.mp q with q | q
          · exact h q.symm
          · exact hj q)]
theorem wipe_wipe (σ : L2.St) (vs : List Nat) : wipe (wipe σ vs) vs = wipe σ vs := by
  apply List.ext_getElem?
  intro j
  rw [wipe_get, wipe_get]
  split
  · cases σ[j]? <;> rfl
  · rfl
theorem rGs_ok {K : PySem.W.Frag} {H : Hp} {vs0 : List Nat} : ∀ {is : List Nat} {xs : List LV} {vs : List V} {s : LS} {σ : L2.St} {Q : L2.St → Hp → Prop}, xs.length = is.length → RVs K H xs vs → RS K H s σ → (∀ i ∈ is, i ∈ vs0) →
    (∀ σ2, RS K H (sets s is xs) σ2 → wipe σ2 vs0 = wipe σ vs0 → Q σ2 H) → rGs is vs σ H Q
  | [], xs, vs, s, σ, Q, hl, hr, rs, ho, q => by
    cases hr with
    | nil => exact ⟨rfl, q σ rs rfl⟩
    | cons a b => cases hl
  | i :: is, xs, vs, s, σ, Q, hl, hr, rs, ho, q => by
    cases hr with
    | nil => cases hl
    | cons a b =>
      refine ⟨_, _, rfl, ?_⟩
      refine rGs_ok (Nat.succ.inj hl) b (rs.set a i) (fun j hj => ho j (List.mem_cons_of_mem _ hj)) fun σ2 r2 e2 => q σ2 r2 ?_
      rw [e2, wipe_set (ho i List.mem_cons_self)]
theorem rG_ok {K : PySem.W.Frag} {H : Hp} {vs0 : List Nat} {t : NT} {x : LV} {v : V} {s s2 : LS} {σ : L2.St} {Q : L2.St → Hp → Prop} (r : RV K H x v) (rs : RS K H s σ) (ho : t.own vs0 = true) (hp : t.put x s = some s2)
    (q : ∀ σ2, RS K H s2 σ2 → wipe σ2 vs0 = wipe σ vs0 → Q σ2 H) : rG K t v σ H Q := by
  cases t with
  | nm i =>
    cases hp
    exact q _ (rs.set r i) (wipe_set (by simpa [NT.own] using ho))
  | tp is =>
    unfold NT.put at hp
    dsimp only at hp
    split at hp
    · split at hp
      · rename_i hl
        cases hp
        cases r with
        | tup ht hr => exact ⟨_, _, rfl, ht, by rw [← hr.length]; exact hl, rGs_ok hl hr rs (by simpa [NT.own] using ho) q⟩
      · cases hp
    · cases hp
abbrev W0 : WX := fun _ _ _ _ => False
def upTs (K : PySem.W.Frag) (l : LTT) : TT := upT K W0 l
abbrev LTs (X : Cx) (ifs : List Expr) (l : LTT) : Prop := PTs X ifs (upTs X.K l)
def lYes : LTT := fun _ h _ L => L true h
def lLc (li : LTI) (nt : NT) (lt : LTT) (le : LTE) (vs : List Nat) : LTE := fun s h E L => li s h E fun it h1 => ∀ D, h1 D = none → ∃ (n : Nat) (P : Nat → LH → Prop), P 0 (up h1 D (.lst [])) ∧ ∀ i h, P i h → match it i h with
  | none => False
  | some none => L (.ref D) h
  | some (some x) => i < n ∧ match nt.put x (lwipe s vs) with
    | some s2 => lt s2 h X0 fun b h3 => if b = true then le s2 h3 X0 fun y h4 => (match h4 D with
      | some (.lst acc) => acc.length < 100000 ∧ P (i + 1) (up h4 D (.lst (acc ++ [y])))
      | _ => False) else P (i + 1) h3
    | none => False
section
variable {X : Cx} {W : WX}
theorem lts_nil : LTs X [] lYes := ⟨fun pins s σ H Q I ⟨s', h, E, L, z, hl, o⟩ => pts_nil.run pins s σ H Q I (o true H h (.refl H) z.rh hl)⟩
theorem lts_one {c : Expr} {l : LTT} (h : LT X W0 c l) : LTs X [c] l := pts_one h
theorem lc_imp {li : LTI} {nt : NT} {lt : LTT} {le : LTE} {vs0 : List Nat} (ho : nt.own vs0 = true) : ∀ σ H Q, upE X.K W (lLc li nt lt le vs0) σ H Q → tLc (upI X.K W li) (rG X.K nt) (upTs X.K lt) (upE X.K W0 le) vs0 σ H Q := fun σ H Q ⟨s, h, E, L, z, hl, out⟩ => ⟨s, h, E, _, z, hl, fun J H1 it h1 t1 r1 rit q1 D hD => by
    obtain ⟨n, P, p0, step⟩ := q1 D (r1.fresh hD)
    have tD : TLe X.K H1 (upd H1 D (.lst [])) := .new hD
    refine ⟨fun i m H' => ∃ h', TLe X.K H1 H' ∧ RH X.K H' h' ∧ P i h' ∧ m = n - i, ⟨n, _, tD, r1.lay hD (.mkL upd_same .nil), p0, by omega⟩, ?_⟩
    rintro i m H' ⟨h', t2, r2, p, rfl⟩
    have q := step i h' p
    have zz := rit i H' h' t2 r2
    split at q
    · exact q.elim
    · rename_i e
      rw [e] at zz
      exact .inl ⟨zz, out _ H' (.ref D) h' (t1.trans t2) r2 (.ref D) q⟩
    · rename_i x e
      rw [e] at zz
      obtain ⟨hn, q2⟩ := q
      refine .inr ⟨zz.1, fun H2 => ∃ h2, TLe X.K H1 H2 ∧ RH X.K H2 h2 ∧ P (i + 1) h2, fun H2 ⟨h2, a, b, c⟩ => ⟨n - (i + 1), by omega, h2, a, b, c, rfl⟩, fun v H3 y => ?_⟩
      obtain ⟨t3, r3, rv⟩ := zz.2 v H3 y
      split at q2
      · rename_i s2 es
        have tt : TLe X.K H1 H3 := t2.trans t3
        refine rG_ok rv ((z.rs.mono (t1.trans tt)).wipe _) ho es fun σ2 rs2 ew => ⟨by rw [ew, wipe_wipe], s2, h', X0, _, ⟨rs2, r3, fun _ _ _ _ _ _ _ _ q => q.elim⟩, q2, fun b H4 h4 t4 r4 q4 => ?_⟩
        cases b with
        | true =>
          rw [if_pos rfl] at q4 ⊢
          refine ⟨s2, h4, X0, _, ⟨rs2.mono t4, r4, fun _ _ _ _ _ _ _ _ q => q.elim⟩, q4, fun v5 H5 y5 h5 t5 r5 ry5 q5 => ?_⟩
          split at q5
          · rename_i acc ea
            obtain ⟨vs, e1, hr⟩ := r5 D _ ea
            have t6 : TLe X.K H5 (upd H5 D (.lst (vs ++ [v5]))) := .lst e1
            exact ⟨vs, e1, by rw [← hr.length]; exact szlt q5.1, _, ((tt.trans t4).trans t5).trans t6, r5.upd t6 (.mkL upd_same ((hr.append (.cons ry5 .nil)).mono t6)), q5.2⟩
          · exact q5.elim
        | false =>
          rw [if_neg Bool.false_ne_true] at q4 ⊢
          exact ⟨h4, tt.trans t4, r4, q4⟩
      · exact q2.elim⟩
theorem le_lc {elt tg iter : Expr} {ifs : List Expr} {scope : Scope} {pos : Pos} {li : LTI} {lt : LTT} {le : LTE} (own : List (Str × Nat)) (nt : NT) (hc : X.calm = true) (hN : X.N.Nodup) (hi : LI X W tg iter li) (ok : blkC X.N X.env.scope scope own = true)
    (hg : ∀ (s : Shared) (H : Hp) (C : Addr) (cl : List (Str × Addr)) (fp : List Addr), PG (X.blk s H scope (compEnvC scope cl C X.env) fp) tg (rG X.K nt))
    (ht : ∀ (s : Shared) (H : Hp) (C : Addr) (cl : List (Str × Addr)) (fp : List Addr), LTs (X.blk s H scope (compEnvC scope cl C X.env) fp) ifs lt)
    (he : ∀ (s : Shared) (H : Hp) (C : Addr) (cl : List (Str × Addr)) (fp : List Addr), LE (X.blk s H scope (compEnvC scope cl C X.env) fp) W0 elt le)
    (ho : nt.own (own.map (·.2)) = true := by decide) (hs : ∀ x, foldedSetIterable iter X.env x = pure x := by intro _; rfl) :
    LE X W (.ListComp elt [⟨tg, iter, ifs, 0⟩] scope pos) (lLc li nt lt le (own.map (·.2))) :=
  peW (pe_lc (own := own) (tt := upTs X.K lt) (te := upE X.K W0 le) hc hN hi (blkOk_by ok) hg ht he hs) (lc_imp ho)
/-- name = [.. for ..] -/
theorem ls_setLc {y : Str} {py : Pos} {elt tg iter : Expr} {ifs : List Expr} {scope : Scope} {pos spos : Pos} {li : LTI} {lt : LTT} {le : LTE} (i : Nat) (own : List (Str × Nat)) (nt : NT) (hc : X.calm = true) (hN : X.N.Nodup) (hi' : LI X W tg iter li) (ok : blkC X.N X.env.scope scope own = true)
    (hg : ∀ (s : Shared) (H : Hp) (C : Addr) (cl : List (Str × Addr)) (fp : List Addr), PG (X.blk s H scope (compEnvC scope cl C X.env) fp) tg (rG X.K nt))
    (ht : ∀ (s : Shared) (H : Hp) (C : Addr) (cl : List (Str × Addr)) (fp : List Addr), LTs (X.blk s H scope (compEnvC scope cl C X.env) fp) ifs lt)
    (he : ∀ (s : Shared) (H : Hp) (C : Addr) (cl : List (Str × Addr)) (fp : List Addr), LE (X.blk s H scope (compEnvC scope cl C X.env) fp) W0 elt le)
    (hy : X.N[i]? = some y := by rfl) (hyl : X.env.scope.names.lookup y = some .local := by rfl) (hsw : swapsWith (.ListComp elt [⟨tg, iter, ifs, 0⟩] scope pos) (some (.Name y py)) spos.line X.env = pure true := by exact sw_true rfl rfl rfl (by decide +kernel))
    (ho : nt.own (own.map (·.2)) = true := by decide) (hs : ∀ x, foldedSetIterable iter X.env x = pure x := by intro _; rfl) :
    LSt X W (.Assign [.Name y py] (.ListComp elt [⟨tg, iter, ifs, 0⟩] scope pos) spos) (lAsg (lLc li nt lt le (own.map (·.2))) (lgName i)) :=
  psW (ps_setLc (own := own) (tt := upTs X.K lt) (te := upE X.K W0 le) hc hN hy hyl hsw hi' (blkOk_by ok) hg ht he hs) fun D σ H ⟨s, h, LD, rs, rh, hl, out⟩ => lc_imp ho σ H _
    ⟨s, h, fun c fs h' => LD.ex c fs s h', fun x h1 => LD.nx (s.set i (some x)) h1, sit_of rs rh out.ex, hl, fun v H1 x h1 t1 r1 rx q1 => out.nx _ H1 _ h1 t1 ((rs.mono t1).set rx i) r1 q1⟩
end
/-! ### a def by its body -/
/-- less may be told -/
def Dn (L : LH → Prop) (h : LH) : Prop := ∃ h0, (∀ a o, h0 a = some o → h a = some o) ∧ L h0
theorem Dn.mk {L : LH → Prop} {h : LH} (q : L h) : Dn L h := ⟨h, fun _ _ e => e, q⟩
/-- the ends of a def -/
def fnE (E : LX) (L : LK) : LEnds := { nx := fun _ h' => Dn (L .non) h', rt := fun x h' => Dn (L x) h', ex := fun c fs _ h' => Dn (E c fs) h' }
def lstart (n : Nat) (xs : List LV) : LS := xs.map some ++ List.replicate (n - xs.length) none
section
variable {P : Program} {w : World} {K : PySem.W.Frag} {mg : Str → Option Value} {base : Heap} {x qual : Str} {params : Arguments} {body : List Stmt} {scope : Scope} {f : Addr} {fd : FuncData}
theorem fn_body {N ps : List Str} {k : Nat} {ls : LSp} {l : LTS} (F : FunD K x qual params body scope [] [] f fd) (S : FnScope N ps scope) (rd : ∀ xs h E L, ls xs h E L → xs.length = ps.length ∧ l (fnE E L) (lstart N.length xs) h)
    (hb : ∀ (cdv : Value) (A : Around) (outer : List Env) (s : Shared) (H : Hp) (E : XK), Room k (A.deeper (envOfC qual scope s.heap.objs.size f cdv)) →
      LSs (cxOf (L2.CX P w) P w K mg base N qual scope f cdv A outer s H E) (fun cls d _ H' => E cls d H') body l) : LFn P w K mg base (k + 1) f fd ps ls := by
  refine F.ok S (fun vs H Q E h => ?_) fun cdv A outer s H vs Q E hr h => ?_
  · obtain ⟨xs, hh, LE, L, rxs, rh, q, _⟩ := h
    rw [← rxs.length]
    exact (rd xs hh LE L q).1
  · obtain ⟨xs, hh, LE, L, rxs, rh, q, ov, ox⟩ := h
    refine ⟨_, hb cdv A outer s H E hr, _, hh, _, ?_, rh, (rd xs hh LE L q).2, ⟨fun σ' H' s' h' t r1 r2 ⟨h0, sb, q2⟩ => ov .non H' .non h0 t (r2.sub sb) .non q2, fun v H' x h' t r2 rv ⟨h0, sb, q2⟩ => ov v H' x h0 t (r2.sub sb) rv q2, fun c fs d σ' H' s' h' t r1 r2 rd ⟨h0, sb, q2⟩ => ox c fs d H' h0 t (r2.sub sb) rd q2, fun _ _ _ _ _ _ _ q2 => q2.elim, fun _ _ _ _ _ _ _ q2 => q2.elim⟩⟩
    unfold lstart L2.start
    rw [rxs.length]
    exact RS.append (RS.args (N := N) rxs) (RS.nones _)
/-- nothing is let out -/
theorem LFn.still {k : Nat} {ps : List Str} {ls : LSp} (F : LFn P w K mg base k f fd ps ls) : FnOk P w K mg base CX0 k f fd ps (fun vs H Q _ => upSp K ls vs H Q fun _ _ _ => False) :=
  ⟨fun vs H Q E h => F.len vs H Q _ h, fun A outer s H args us vs Q E hr he hb hv hs => codeAny_mono (F.run A outer s H args us vs Q _ hr he hb hv hs) fun r s' q => by
    cases r with
    | ok fl => cases fl <;> exact q
    | error e =>
      obtain ⟨_, _, _, _, _, _, _, _, _, _, _, _, z⟩ := q
      exact z.elim⟩
/-- the law's own promise -/
def lspLaw : LSp := fun xs h E L => ∃ ns : List Int, xs = [.rl (ns.map .int)] ∧ ns.length ≤ 63 ∧ (∀ a, h a = none) ∧ ∀ h', L (.bl true) h'
theorem law_start {H : Hp} {a : Addr} {ns : List Int} (hl : ns.length ≤ 63) (ho : Only H) (hs : SqL K H a (ns.map V.int)) : (fun vs H Q (_ : XK) => upSp K lspLaw vs H Q fun _ _ _ => False) [.ref a] H (fun v _ => v = .bl true) fun _ _ _ => False := by
  have fz : FzL K H a (ns.map V.int) := by
    rcases hs with (hs | hs) | hs
    · rcases ho a with e | ⟨o, xs, e⟩
      · rw [e] at hs; cases hs
      · rw [e] at hs; cases hs
    · exact .inl hs
    · exact .inr hs
  refine ⟨[.rl (ns.map .int)], fun _ => none, X0, fun x _ => x = .bl true, .cons (.rl fz (.ints ns)) .nil, fun _ _ e => (by cases e), ⟨ns, rfl, hl, fun _ => rfl, fun _ => rfl⟩, fun v H' x h' t r rx q => ?_, fun _ _ _ _ _ _ _ _ q => q.elim⟩
  subst q
  cases rx
  rfl
end
end VL

set_option Elab.async false
set_option linter.all false
set_option maxRecDepth 100000
set_option maxHeartbeats 2000000
namespace VL
open PySem PySem.Spec PyProof.Rows L2
/-! ### defs of the text by their place -/
section
variable {P : Program} {w : World} {K : PySem.W.Frag} {mg : Str → Option Value} {base : Heap}
/-- the def at a place of the module keeps its promise -/
def LOk (P : Program) (w : World) (K : PySem.W.Frag) (mg : Str → Option Value) (base : Heap) (k : Nat) (at_ : Str × Option Str) (ps : List Str) (ls : LSp) : Prop :=
  ∃ fd, LFn P w K mg base k (He.fAd K at_) fd ps ls ∧ Binds K fd ps [] ∧ PySem.W.keepIn K (.ref (He.fAd K at_)) = true ∧ ∃ oc od osl, K.lookup (He.fAd K at_) = some ⟨oc, od, .func fd, osl⟩
theorem fn_bodyO {x qual : Str} {params : Arguments} {body : List Stmt} {scope : Scope} {at_ : Str × Option Str} {N ps : List Str} {k : Nat} {ls : LSp} {l : LTS}
    (d : ∃ fd, FunD K x qual params body scope [] [] (He.fAd K at_) fd) (S : FnScope N ps scope) (rd : ∀ xs h E L, ls xs h E L → xs.length = ps.length ∧ l (fnE E L) (lstart N.length xs) h)
    (bd : ∀ (kV doc pm : Value) (an : Option Addr) (cdv ct : Value) (us : List Value), us.length = ps.length → bindArgs (PySem.W.fnOf x qual params body scope .none kV doc pm an cdv ct) ⟨us, []⟩ = pure (ps.zip us))
    (hb : ∀ (cdv : Value) (A : Around) (outer : List Env) (s : Shared) (H : Hp) (E : XK), Room k (A.deeper (envOfC qual scope s.heap.objs.size (He.fAd K at_) cdv)) →
      LSs (cxOf (L2.CX P w) P w K mg base N qual scope (He.fAd K at_) cdv A outer s H E) (fun cls d _ H' => E cls d H') body l) : LOk P w K mg base (k + 1) at_ ps ls := by
  obtain ⟨fd, F⟩ := d
  obtain ⟨oc, od, dV, kV, doc, pm, an, cdv, ct, osl, hfd, lk, _⟩ := F.ex
  exact ⟨fd, fn_body F S rd hb, F.bindsN bd, F.kp, oc, od, osl, lk⟩
theorem takes_of_body {N : List Str} {qual : Str} {scope : Scope} {f : Addr} {cd : Value} {A : Around} {outer : List Env} {s : Shared} {H : Hp} {E : XK} :
    Takes (cxOf (L2.CX P w) P w K mg base N qual scope f cd A outer s H E) (fun cls d _ H' => E cls d H') := takes_of rfl rfl rfl rfl
theorem passes_body {N : List Str} {qual : Str} {scope : Scope} {f : Addr} {cd : Value} {A : Around} {outer : List Env} {s : Shared} {H : Hp} {E : XK} :
    PassesOwn (model (cxOf (L2.CX P w) P w K mg base N qual scope f cd A outer s H E).prog (cxOf (L2.CX P w) P w K mg base N qual scope f cd A outer s H E).w) (cxOf (L2.CX P w) P w K mg base N qual scope f cd A outer s H E).A (cxOf (L2.CX P w) P w K mg base N qual scope f cd A outer s H E).env (cxOf (L2.CX P w) P w K mg base N qual scope f cd A outer s H E).xe := passes_of rfl
theorem hu65_of {k : Nat} {A : Around} (r : Room k A) : A.units + 65 < cLine := by have := r.un; omega
theorem hu_of {k : Nat} {A : Around} (r : Room k A) : A.units + 1 < cLine := by have := r.un; omega
end
section
variable {X : Cx} {W : WX} {o e : Expr} {es : List Expr} {lo : LTE} {lr : LTA} {x m : Str} {p pos apos : Pos} {k : Nat} {at_ : Str × Option Str} {ps : List Str} {ls : LSp} {c : Cn}
theorem le_callO (F : LOk X.prog X.w X.K X.mg X.base k at_ ps ls) (hm : X.mg x = some (.ref (He.fAd X.K at_))) (hr : Room k X.A) (tk : Takes X W) (ha : LA X W (e :: es) lr) (hg : Gl X x := by rfl)
    (hdb : (x == ("__debug__" : Str)) = false := by decide) (he : starEach (e :: es) X.env = (false, eval e X.env) :: starEach es X.env := by rfl) (hpl : (backTo pos (starEach es X.env)).any (·.1) = false := by rfl) :
    LE X W (.Call (.Name x p) (e :: es) [] pos) (lCall ls lr) := by
  obtain ⟨fd, F1, hb, hk, _⟩ := F
  exact le_call F1 hm hk hb hr tk ha hg hdb he hpl
theorem le_methO {pl : Sem Bool} (ho : LE X W o lo) (cl : Cls X.K (c.ad X.K)) (hm : Meth X.K (c.ad X.K) m (He.fAd X.K at_)) (F : LOk X.prog X.w X.K X.mg X.base k at_ ps ls) (hr : Room k X.A) (tk : Takes X W) (ha : LA X W (e :: es) lr) (hnf : ∀ f : Fd, f.nm ≠ m := by intro f; cases f <;> decide +kernel)
    (hst : starEach (e :: es) X.env = (false, eval e X.env) :: starEach es X.env := by rfl) (hpl : (backTo pos (starEach es X.env)).any (·.1) = false := by rfl)
    (ht : eval (.Call (.Attribute o m apos) (e :: es) [] pos) X.env = (do
      let ov ← eval o X.env
      standAt apos.atName
      let (f, first) ← holding [ov] (getMethod ov m pl)
      callWith pos f first (backTo pos (starEach (e :: es) X.env)) (backToKw pos (keywordEach [] X.env))) := by rfl) :
    LE X W (.Call (.Attribute o m apos) (e :: es) [] pos) (lMeth c ls lo lr) := by
  obtain ⟨fd, F1, hb, hk, _⟩ := F
  exact le_meth (pl := pl) ho cl hm F1 hr hb tk ha hnf hst hpl ht
theorem le_methO0 {pl : Sem Bool} (ho : LE X W o lo) (cl : Cls X.K (c.ad X.K)) (hm : Meth X.K (c.ad X.K) m (He.fAd X.K at_)) (F : LOk X.prog X.w X.K X.mg X.base k at_ ps ls) (hr : Room k X.A) (tk : Takes X W) (hnf : ∀ f : Fd, f.nm ≠ m := by intro f; cases f <;> decide +kernel)
    (ht : eval (.Call (.Attribute o m apos) [] [] pos) X.env = (do
      let ov ← eval o X.env
      standAt apos.atName
      let (f, first) ← holding [ov] (getMethod ov m pl)
      callWith pos f first (backTo pos (starEach [] X.env)) (backToKw pos (keywordEach [] X.env))) := by rfl) :
    LE X W (.Call (.Attribute o m apos) [] [] pos) (lMeth c ls lo lNil) := by
  obtain ⟨fd, F1, hb, hk, _⟩ := F
  exact le_meth0 (pl := pl) ho cl hm F1 hr hb tk hnf ht
theorem le_makeO (M : Mk X.K (c.ad X.K) (He.fAd X.K at_)) (F : LOk X.prog X.w X.K X.mg X.base k at_ ps ls) (hm : X.mg x = some (.ref (c.ad X.K))) (hr : Room (k + 1) X.A) (ha : LA X W (e :: es) lr) (hg : Gl X x := by rfl)
    (hdb : (x == ("__debug__" : Str)) = false := by decide) (he : starEach (e :: es) X.env = (false, eval e X.env) :: starEach es X.env := by rfl) (hpl : (backTo pos (starEach es X.env)).any (·.1) = false := by rfl) :
    LE X W (.Call (.Name x p) (e :: es) [] pos) (lMake c ls lr) := by
  obtain ⟨fd, F1, hb, hk, _⟩ := F
  exact le_make M F1 hm hb hr ha hg hdb he hpl
end
/-- the end of a row -/
theorem law_end {P : Program} {w : World} {K : PySem.W.Frag} {mg : Str → Option Value} {h : Heap} {fa : Addr} {k n : Nat} {x qual y : Str} {params : Arguments} {body : List Stmt} {scope : Scope} (X : K.In h) (G : h.Ns mainGlobals mg) (hm : mg "law" = some (.ref fa)) (hn : n ≤ 63)
    (g : (He.Fa.glo "law").ok K = true)
    (d : ∃ fd, FunD K x qual params body scope [] [] (He.fAd K ("law", none)) fd)
    (bd : ∀ (kV doc pm : Value) (an : Option Addr) (cdv ct : Value) (us : List Value), us.length = 1 → bindArgs (PySem.W.fnOf x qual params body scope .none kV doc pm an cdv ct) ⟨us, []⟩ = pure ([y].zip us))
    (hF : ∀ base : Heap, K.In base → base.Ns mainGlobals mg → LOk P w K mg base k ("law", none) [y] lspLaw) :
    ∃ (K : PySem.W.Frag) (fd : FuncData) (sp : Sp), K.In h ∧ (∀ (s : Shared) (u : Value), BindsTo s fd ⟨[u], []⟩ [(y, u)]) ∧
        (∀ (H : Hp) (a : Addr) (ns : List Int), ns.length ≤ n → Only H → SqL K H a (ns.map V.int) → sp [.ref a] H (fun v _ => v = .bl true) fun _ _ _ => False) ∧
        ∀ base : Heap, K.In base → base.Ns mainGlobals mg → FnOk P w K mg base L2.CX0 k fa fd [y] sp := by
  obtain ⟨fd, F⟩ := d
  have e : fa = He.fAd K ("law", none) := by
    have e2 := He.glo_ok X G g
    rw [hm] at e2
    cases e2
    rfl
  subst e
  have b := F.bindsA (ps := [y]) (fun kV doc pm an cdv ct us hl => bd kV doc pm an cdv ct us hl)
  refine ⟨K, fd, fun vs H Q _ => upSp K lspLaw vs H Q fun _ _ _ => False, X, fun s u => b s [u] rfl, fun H a ns hl ho hs => law_start (Nat.le_trans hl hn) ho hs, fun base hk hb => ?_⟩
  obtain ⟨fd2, F2, _, _, oc, od, osl, lk⟩ := hF base hk hb
  obtain ⟨oc1, od1, _, _, _, _, _, _, _, osl1, _, lk1, _⟩ := F.ex
  rw [lk] at lk1
  cases lk1
  exact F2.still
end VL

set_option Elab.async false
set_option linter.all false
set_option maxRecDepth 100000
set_option maxHeartbeats 2000000
namespace VL
open PySem PySem.Spec PyProof.Rows L2
/-! ### heaps: what lies where -/
abbrev Sub (h0 h : LH) : Prop := ∀ a o, h0 a = some o → h a = some o
section
variable {h h0 h1 : LH} {a b p : Addr} {o u : LO} {L : LH → Prop}
theorem up_old (n : h p = none) (e : h a = some o) : up h p u a = some o := by rw [up_ne (ne_fr e n)]; exact e
theorem fr_up (n : up h p u a = none) : h a = none := by
  unfold up at n
  split at n
  · cases n
  · exact n
theorem up_neq (n : a ≠ b) (e : h a = some o) : up h b u a = some o := by rw [up_ne n]; exact e
theorem Sub.refl (h : LH) : Sub h h := fun _ _ e => e
theorem Sub.fresh (n : h p = none) (s : Sub h0 h) : Sub h0 (up h p u) := fun a o e => up_old n (s a o e)
theorem Sub.up (s : Sub h0 h) : Sub (VL.up h0 b u) (VL.up h b u) := fun a o e => by
  unfold VL.up at e ⊢
  split <;> rename_i q
  · rw [if_pos q] at e; exact e
  · rw [if_neg q] at e; exact s a o e
theorem Dn.sub (s : Sub h0 h) (q : L h0) : Dn L h := ⟨h0, s, q⟩
theorem Dn.fresh (n : h p = none) (q : Dn L h) : Dn L (VL.up h p u) := by
  obtain ⟨h0, s, q⟩ := q
  exact ⟨h0, Sub.fresh n s, q⟩
/-- all but b stays -/
def Keep (b : Addr) (h h1 : LH) : Prop := ∀ a o, a ≠ b → h a = some o → h1 a = some o
theorem Keep.get (k : Keep b h h1) (n : a ≠ b) (e : h a = some o) : h1 a = some o := k a o n e
theorem Keep.refl : Keep b h h := fun _ _ _ e => e
theorem Keep.up (k : Keep b h h1) : Keep b h (VL.up h1 b u) := fun a o n e => up_neq n (k a o n e)
theorem Keep.fresh (k : Keep b h h1) (n : h1 p = none) : Keep b h (VL.up h1 p u) := fun a o q e => up_old n (k a o q e)
theorem Keep.trans {h2 : LH} (k : Keep b h h1) (j : Keep b h1 h2) : Keep b h h2 := fun a o n e => j a o n (k a o n e)
theorem Keep.non (k : Keep b h h1) (n : p ≠ b) (e : h1 p = Option.none) : h p = Option.none := by
  cases q : h p with
  | none => rfl
  | some o => rw [k p o n q] at e; cases e
theorem Keep.own (n : h p = none) (k : Keep b h h1) : Keep b h (VL.up h1 p u) := fun a o q e => up_neq (ne_fr e n) (k a o q e)
theorem Keep.tell (k : Keep b h h1) (n : h b = none) : Sub h h1 := fun a o e => k a o (ne_fr e n) e
theorem Sub.keep (s : Sub h h1) : Keep b h h1 := fun a o _ e => s a o e
end
/-! ### head rules -/
def gChn (x : LV) (A B : Prop) : Prop := match x with
  | .bl true => A
  | .bl false => B
  | _ => False
def gFld (c : Cn) (f : Fd) : LV → LH → LK → Prop := fun x h1 L => match x with
  | .ref a => (match h1 a with
    | some (.ins c' fs) => c' = c ∧ (match fget fs f with
      | some v => L v h1
      | none => False)
    | _ => False)
  | _ => False
def gFldS (c : Cn) (f : Fd) (x : LV) : LV → LH → (LH → Prop) → Prop := fun o h2 L => match o with
  | .ref a => (match h2 a with
    | some (.ins c' fs) => c' = c ∧ fs.length < 100 ∧ L (up h2 a (.ins c (fput f x fs)))
    | _ => False)
  | _ => False
def gMth (c : Cn) : LV → LH → Prop → Prop := fun x h1 Q => match x with
  | .ref a => (match h1 a with
    | some (.ins c' _) => c' = c ∧ Q
    | _ => False)
  | _ => False
def gLi : LV → LH → (LIt → LH → Prop) → Prop := fun x h1 KI => match x with
  | .tup xs => KI (itSt xs) h1
  | .rl xs => KI (itSt xs) h1
  | .str z => KI (itSt (z.cps.toList.map fun c => .str ⟨#[c]⟩)) h1
  | .ref a => (match h1 a with
    | some (.lst _) => KI (itL a) h1
    | _ => False)
  | _ => False
section
variable {nx bk ct : LS → LH → Prop} {rt : LK} {ex : SX} {s s' : LS} {h : LH} {E : LX} {L : LK} {LA : List LV → LH → Prop} {LB : Bool → LH → Prop} {LO1 : Option Int → LH → Prop} {D : LEnds} {la lb lc le lo li : LTE} {lr : LTA} {lt lu : LTT} {ll lh : LTO} {t u : LTS} {i j : Int} {n k : Nat} {x y v : LV} {xs ys zs : List LV} {z w : Str} {a b : Addr} {kvs : List (Key × LV)} {fs : List (Fd × LV)} {g : LTG} {gs : LTGs} {G : LR2} {C : LCR} {GM : LMR} {SE : SX} {LN : LS → LH → Prop} {LP : LH → Prop} {c : Cn} {f : Fd}
theorem i_seq (q : t ⟨fun s' h' => u ⟨nx, rt, ex, bk, ct⟩ s' h', rt, ex, bk, ct⟩ s h) : lSeq t u ⟨nx, rt, ex, bk, ct⟩ s h := q
theorem seq_cut (M : LS → LH → Prop) (hu : ∀ s' h', M s' h' → u ⟨nx, rt, ex, bk, ct⟩ s' h') (ht : ∀ N : LS → LH → Prop, (∀ s' h', M s' h' → N s' h') → t ⟨N, rt, ex, bk, ct⟩ s h) : lSeq t u ⟨nx, rt, ex, bk, ct⟩ s h := ht _ hu
theorem i_asg (q : le s h (fun c fs h' => ex c fs s h') fun x h1 => g x s h1 ex nx) : lAsg le g ⟨nx, rt, ex, bk, ct⟩ s h := q
theorem i_ret (q : le s h (fun c fs h' => ex c fs s h') rt) : lRet le ⟨nx, rt, ex, bk, ct⟩ s h := q
theorem i_retN (q : rt .non h) : lRetN ⟨nx, rt, ex, bk, ct⟩ s h := q
theorem i_drop (q : le s h (fun c fs h' => ex c fs s h') fun _ h1 => nx s h1) : lDrop le ⟨nx, rt, ex, bk, ct⟩ s h := q
theorem i_nx (q : nx s h) : lNx ⟨nx, rt, ex, bk, ct⟩ s h := q
theorem i_brk (q : bk s h) : lBrk ⟨nx, rt, ex, bk, ct⟩ s h := q
theorem i_cnt (q : ct s h) : lCnt ⟨nx, rt, ex, bk, ct⟩ s h := q
theorem i_ifS (q : lt s h (fun c fs h' => ex c fs s h') fun b h1 => if b = true then t ⟨nx, rt, ex, bk, ct⟩ s h1 else u ⟨nx, rt, ex, bk, ct⟩ s h1) : lIfS lt t u ⟨nx, rt, ex, bk, ct⟩ s h := q
theorem fn_go (q : t ⟨(fnE E L).nx, (fnE E L).rt, (fnE E L).ex, (fnE E L).bk, (fnE E L).ct⟩ s h) : t (fnE E L) s h := q
theorem i_name {i : Nat} (e : s.set i (some x) = s') (q : LN s' h) : lgName i x s h SE LN := by subst e; exact q
theorem i_gtup (e : xs.length = n) (q : gs xs s h SE LN) : lgTup n gs (.tup xs) s h SE LN := ⟨e, q⟩
theorem i_gcons (q : g x s h SE fun s' h' => gs xs s' h' SE LN) : lgCons g gs (x :: xs) s h SE LN := q
theorem i_gnil (q : LN s h) : lgNil [] s h SE LN := ⟨rfl, q⟩
theorem i_gsub (q : lo s h (fun c fs h' => SE c fs s h') fun o h1 => li s h1 (fun c fs h' => SE c fs s h') fun i h2 => gSet o i x h2 fun h3 => LN s h3) : lgSub lo li x s h SE LN := q
theorem i_setL {m : Int} (e : h a = some (.lst xs)) (ej : ixN xs.length m = some k) (q : LP (up h a (.lst (xs.set k x)))) : gSet (.ref a) (.int m) x h LP := by
  show (match h a with
    | some (.lst xs) => _
    | some (.dic kvs) => _
    | _ => False)
  rw [e]
  show (match ixN xs.length m with
    | some j => LP (up h a (.lst (xs.set j x)))
    | none => False)
  rw [ej]
  exact q
theorem i_setD {m : Key} (e : h a = some (.dic kvs)) (ej : keyOf v = some m) (hz : kvs.length < 100000) (q : LP (up h a (.dic (dput kvs m x)))) : gSet (.ref a) v x h LP := by
  show (match h a with
    | some (.lst xs) => _
    | some (.dic kvs) => _
    | _ => False)
  rw [e]
  show (match keyOf v with
    | some k => kvs.length < 100000 ∧ LP (up h a (.dic (dput kvs k x)))
    | none => False)
  rw [ej]
  exact ⟨hz, q⟩
def gPar (i j : Nat) (s : LS) (nx : LS → LH → Prop) : List LV → LH → Prop := fun xs h1 => match xs with
  | [x, y] => nx ((s.set i (some x)).set j (some y)) h1
  | _ => False
theorem i_par {i j : Nat} (q : lr s h (fun c fs h' => ex c fs s h') fun xs h1 => gPar i j s nx xs h1) : lPar i j lr ⟨nx, rt, ex, bk, ct⟩ s h := q
theorem i_parG {i j : Nat} {s2 : LS} (e : (s.set i (some x)).set j (some y) = s2) (q : nx s2 h) : gPar i j s nx [x, y] h := by subst e; exact q
theorem i_var {i : Nat} (e : s[i]? = some (some v)) (q : L v h) : lVar i s h E L := by
  unfold lVar
  rw [e]
  exact q
theorem i_c (q : L v h) : lC v s h E L := q
theorem i_op (q : la s h E fun x h1 => lb s h1 E fun y h2 => G x y h2 L) : lOp G la lb s h E L := q
theorem i_test (q : la s h E fun x h1 => match x with
  | .bl k => LB k h1
  | _ => False) : lTest la s h E LB := q
theorem i_un {g1 : LV → LH → LK → Prop} (q : la s h E fun x h1 => g1 x h1 L) : lUn g1 la s h E L := q
theorem i_neg (q : L (.int (-i)) h) : gNeg (.int i) h L := q
theorem i_chain {g g' : LR2} (q : la s h E fun x h1 => lb s h1 E fun y h2 => g x y h2 fun z h3 => gChn z (lc s h3 E fun w h4 => g' y w h4 L) (L (.bl false) h3)) : lChain g g' la lb lc s h E L := by
  refine cast (congrArg (fun K => la s h E K) (funext fun x => funext fun h1 => congrArg (fun K => lb s h1 E K) (funext fun y => funext fun h2 => congrArg (fun K => g x y h2 K) (funext fun z => funext fun h3 => ?_)))) q
  unfold gChn
  cases z <;> first | rfl | (rename_i b; cases b <;> rfl)
theorem i_chnT {A B : Prop} (q : A) : gChn (.bl true) A B := q
theorem i_chnF {A B : Prop} (q : B) : gChn (.bl false) A B := q
theorem i_chnD {p A B : Prop} [Decidable p] (h1 : p → A) (h2 : ¬p → B) : gChn (.bl (decide p)) A B := by
  by_cases hp : p
  · rw [decide_eq_true hp]; exact h1 hp
  · rw [decide_eq_false hp]; exact h2 hp
theorem i_chnN {p A B : Prop} [Decidable p] (h1 : ¬p → A) (h2 : p → B) : gChn (.bl (!decide p)) A B := by
  by_cases hp : p
  · rw [decide_eq_true hp]; exact h2 hp
  · rw [decide_eq_false hp]; exact h1 hp
theorem i_chnNF {A B : Prop} (q : A) : gChn (.bl (!false)) A B := q
theorem i_chnNT {A B : Prop} (q : B) : gChn (.bl (!true)) A B := q
theorem i_chnA {b : Bool} {A B : Prop} (h1 : b = true → A) (h2 : b = false → B) : gChn (.bl b) A B := by
  cases b
  · exact h2 rfl
  · exact h1 rfl
theorem i_and (q : lt s h E fun c h1 => if c = true then lu s h1 E LB else LB false h1) : lAnd lt lu s h E LB := q
theorem i_or (q : lt s h E fun c h1 => if c = true then LB true h1 else lu s h1 E LB) : lOr lt lu s h E LB := q
theorem i_not (q : lt s h E fun c h1 => LB (!c) h1) : lNot lt s h E LB := q
theorem i_andV (q : la s h E fun x h1 => gChn x (lb s h1 E L) (L (.bl false) h1)) : lAndV la lb s h E L := by
  refine cast (congrArg (fun K => la s h E K) (funext fun x => funext fun h1 => ?_)) q
  unfold gChn
  cases x <;> first | rfl | (rename_i b; cases b <;> rfl)
theorem i_orV (q : la s h E fun x h1 => gChn x (L (.bl true) h1) (lb s h1 E L)) : lOrV la lb s h E L := by
  refine cast (congrArg (fun K => la s h E K) (funext fun x => funext fun h1 => ?_)) q
  unfold gChn
  cases x <;> first | rfl | (rename_i b; cases b <;> rfl)
theorem i_notV (q : la s h E fun x h1 => match x with
  | .bl k => L (.bl (!k)) h1
  | _ => False) : lNotV la s h E L := q
theorem i_if (q : lt s h E fun c h1 => if c = true then la s h1 E L else lb s h1 E L) : lIf lt la lb s h E L := q
theorem i_tru (q : la s h E fun x h1 => gTru x h1 LB) : lTru la s h E LB := q
theorem i_tru_non (q : LB false h) : gTru .non h LB := q
theorem i_tru_bl {b : Bool} (q : LB b h) : gTru (.bl b) h LB := q
theorem i_tru_int (q : LB (i != 0) h) : gTru (.int i) h LB := q
theorem i_tru_str (e : z.length ≤ sizeLine) (q : LB ((z.length : Int) != 0) h) : gTru (.str z) h LB := ⟨e, q⟩
theorem i_tru_tup (q : LB (!xs.isEmpty) h) : gTru (.tup xs) h LB := q
theorem i_tru_rl (q : LB (!xs.isEmpty) h) : gTru (.rl xs) h LB := q
theorem i_tru_lst (e : h a = some (.lst xs)) (q : LB (!xs.isEmpty) h) : gTru (.ref a) h LB := by
  show (match h a with
    | some (.lst xs) => LB (!xs.isEmpty) h
    | some (.dic xs) => LB (!xs.isEmpty) h
    | _ => False)
  rw [e]; exact q
theorem i_tru_dic (e : h a = some (.dic kvs)) (q : LB (!kvs.isEmpty) h) : gTru (.ref a) h LB := by
  show (match h a with
    | some (.lst xs) => LB (!xs.isEmpty) h
    | some (.dic xs) => LB (!xs.isEmpty) h
    | _ => False)
  rw [e]; exact q
theorem i_nil (q : LA [] h) : lNil s h E LA := q
theorem i_cons (q : le s h E fun x h1 => lr s h1 E fun xs h2 => LA (x :: xs) h2) : lCons le lr s h E LA := q
theorem i_tup (q : lr s h E fun xs h1 => xs.length ≤ 100000 ∧ L (.tup xs) h1) : lTup lr s h E L := q
theorem i_lst (q : lr s h E fun xs h1 => xs.length ≤ 100000 ∧ ∀ p, h1 p = none → L (.ref p) (up h1 p (.lst xs))) : lLst lr s h E L := q
/-- arithmetic -/
theorem i_int {F : Int → Int → Int} (q : L (.int (F i j)) h) : gInt F (.int i) (.int j) h L := q
theorem i_intC {P : Int → Int → Prop} {F : Int → Int → Int} (e : P i j) (q : L (.int (F i j)) h) : gIntC P F (.int i) (.int j) h L := ⟨e, q⟩
theorem i_cmp {F : Int → Int → Bool} (q : L (.bl (F i j)) h) : gCmp F (.int i) (.int j) h L := q
theorem i_add (q : L (.int (i + j)) h) : gAdd (.int i) (.int j) h L := q
theorem i_add_str (e : z.length + w.length ≤ sizeLine) (q : L (.str (z ++ w)) h) : gAdd (.str z) (.str w) h L := ⟨e, q⟩
theorem i_add_tup (e : xs.length + ys.length ≤ 100000) (q : L (.tup (xs ++ ys)) h) : gAdd (.tup xs) (.tup ys) h L := ⟨e, q⟩
theorem i_add_lst (ea : h a = some (.lst xs)) (eb : h b = some (.lst ys)) (e : xs.length + ys.length ≤ 100000) (q : ∀ p, h p = none → L (.ref p) (up h p (.lst (xs ++ ys)))) : gAdd (.ref a) (.ref b) h L := by
  show (match h a, h b with
    | some (.lst xs), some (.lst ys) => xs.length + ys.length ≤ 100000 ∧ ∀ p, h p = none → L (.ref p) (up h p (.lst (xs ++ ys)))
    | _, _ => False)
  rw [ea, eb]; exact ⟨e, q⟩
theorem i_mul (e : (-(2 ^ 64) < i ∧ i < 2 ^ 64) ∨ (-(2 ^ 64) < j ∧ j < 2 ^ 64)) (q : L (.int (i * j)) h) : gMul (.int i) (.int j) h L := ⟨e, q⟩
theorem i_rep (ea : h a = some (.lst xs)) (e : -(2 ^ 62) ≤ j ∧ j < 2 ^ 62 ∧ xs.length * j.toNat ≤ 100000) (q : ∀ p, h p = none → L (.ref p) (up h p (.lst (List.replicate j.toNat xs).flatten))) : gMul (.ref a) (.int j) h L := by
  show (match h a with
    | some (.lst xs) => -(2 ^ 62) ≤ j ∧ j < 2 ^ 62 ∧ xs.length * j.toNat ≤ 100000 ∧ ∀ p, h p = none → L (.ref p) (up h p (.lst (List.replicate j.toNat xs).flatten))
    | _ => False)
  rw [ea]; exact ⟨e.1, e.2.1, e.2.2, q⟩
theorem i_eq_int (q : L (.bl (decide (i = j))) h) : gEqW id (.int i) (.int j) h L := q
theorem i_eq_str (q : L (.bl (decide (z = w))) h) : gEqW id (.str z) (.str w) h L := q
theorem i_eq_bl {z w : Bool} (q : L (.bl (decide (z = w))) h) : gEqW id (.bl z) (.bl w) h L := q
theorem i_ne_int (q : L (.bl (!decide (i = j))) h) : gEqW (!·) (.int i) (.int j) h L := q
theorem i_ne_str (q : L (.bl (!decide (z = w))) h) : gEqW (!·) (.str z) (.str w) h L := q
theorem i_ne_bl {z w : Bool} (q : L (.bl (!decide (z = w))) h) : gEqW (!·) (.bl z) (.bl w) h L := q
/-- == on the rest, by data -/
theorem i_eqD {F : Bool → Bool} {d e : PyData} (hx : toD h 8 x = some d) (hy : toD h 8 y = some e) (sd : SeqAt.shaped d = true) (se : SeqAt.shaped e = true) (q : L (.bl (F (PyData.eqv d e))) h)
    (hn : (match x, y with
      | .int _, .int _ => false
      | .str _, .str _ => false
      | .bl _, .bl _ => false
      | .non, .non => false
      | _, _ => true) = true := by rfl) : gEqW F x y h L := by
  unfold gEqW
  split <;> first | (cases hn; done) | skip
  rw [hx, hy]
  exact ⟨sd, se, q⟩
theorem i_is_nn {F : Bool → Bool} (q : L (.bl (F true)) h) : gIs F .non .non h L := q
theorem i_is_n {F : Bool → Bool} (q : L (.bl (F false)) h) (hn : (match x with
      | .non => false
      | _ => true) = true := by rfl) : gIs F x .non h L := by
  unfold gIs
  cases x <;> first | (cases hn; done) | exact q
theorem i_is_bl {F : Bool → Bool} {z w : Bool} (q : L (.bl (F (decide (z = w)))) h) : gIs F (.bl z) (.bl w) h L := q
theorem i_is_blI {z w : Bool} (q : L (.bl (decide (z = w))) h) : gIs id (.bl z) (.bl w) h L := q
theorem i_is_blN {z w : Bool} (q : L (.bl (!decide (z = w))) h) : gIs (!·) (.bl z) (.bl w) h L := q
theorem i_is_nnI (q : L (.bl true) h) : gIs id .non .non h L := q
theorem i_is_nnN (q : L (.bl false) h) : gIs (!·) .non .non h L := q
theorem i_is_nI (q : L (.bl false) h) (hn : (match x with
      | .non => false
      | _ => true) = true := by rfl) : gIs id x .non h L := i_is_n q hn
theorem i_is_nN (q : L (.bl true) h) (hn : (match x with
      | .non => false
      | _ => true) = true := by rfl) : gIs (!·) x .non h L := i_is_n q hn
/-- subscripts -/
theorem i_ix_tup (e : atI xs i = some v) (q : L v h) : gIx (.tup xs) (.int i) h L := by
  show (match atI xs i with
      | some v => L v h
      | none => False)
  rw [e]; exact q
theorem i_ix_rl (e : atI xs i = some v) (q : L v h) : gIx (.rl xs) (.int i) h L := by
  show (match atI xs i with
      | some v => L v h
      | none => False)
  rw [e]; exact q
theorem i_ix_lst (ea : h a = some (.lst xs)) (e : atI xs i = some v) (q : L v h) : gIx (.ref a) (.int i) h L := by
  unfold gIx
  dsimp only
  rw [ea]
  show (match atI xs i with
      | some v => L v h
      | none => False)
  rw [e]; exact q
theorem i_ix_dic {m : Key} (ea : h a = some (.dic kvs)) (ek : keyOf y = some m) (e : dget kvs m = some v) (q : L v h) : gIx (.ref a) y h L := by
  unfold gIx
  dsimp only
  rw [ea]
  dsimp only
  rw [ek]
  dsimp only
  rw [e]; exact q
theorem i_ix_fdi {m : Key} (ea : h a = some (.fdi kvs)) (ek : keyOf y = some m) (e : dget kvs m = some v) (q : L v h) : gIx (.ref a) y h L := by
  unfold gIx
  dsimp only
  rw [ea]
  dsimp only
  rw [ek]
  dsimp only
  rw [e]; exact q
theorem i_ix_str {ch : Nat} (e : atI z.cps.toList i = some ch) (hz : z.length ≤ sizeLine) (q : L (.str ⟨#[ch]⟩) h) : gIx (.str z) (.int i) h L := by
  show (match atI z.cps.toList i with
      | some c => z.length ≤ sizeLine ∧ L (.str ⟨#[c]⟩) h
      | none => False)
  rw [e]; exact ⟨hz, q⟩
theorem atI_nat {α : Type} {xs : List α} {i : Int} (h0 : 0 ≤ i) (h1 : i < xs.length) : atI xs i = xs[i.toNat]? := by
  unfold atI ixN
  rw [if_pos h0, if_pos (by omega)]
  rfl
theorem atI_lit {α : Type} {xs : List α} {n : Nat} {v : α} (e : xs[n]? = some v) : atI xs (@OfNat.ofNat Int n (@instOfNat n)) = some v := by
  have hl := (List.getElem?_eq_some_iff.mp e).1
  have e2 : (@OfNat.ofNat Int n (@instOfNat n)) = (n : Int) := rfl
  rw [e2, atI_nat (by omega) (by omega)]
  exact e
theorem i_ix_tupN {n : Nat} (e : xs[n]? = some v) (q : L v h) : gIx (.tup xs) (.int (@OfNat.ofNat Int n (@instOfNat n))) h L := i_ix_tup (atI_lit e) q
theorem i_ix_rlN {n : Nat} (e : xs[n]? = some v) (q : L v h) : gIx (.rl xs) (.int (@OfNat.ofNat Int n (@instOfNat n))) h L := i_ix_rl (atI_lit e) q
theorem i_ix_lstN {n : Nat} (ea : h a = some (.lst xs)) (e : xs[n]? = some v) (q : L v h) : gIx (.ref a) (.int (@OfNat.ofNat Int n (@instOfNat n))) h L := i_ix_lst ea (atI_lit e) q
theorem i_ix_tupM {n : Nat} (e : atI xs (-(@OfNat.ofNat Int n (@instOfNat n))) = some v) (q : L v h) : gIx (.tup xs) (.int (-(@OfNat.ofNat Int n (@instOfNat n)))) h L := i_ix_tup e q
theorem i_ix_lstM {n : Nat} (ea : h a = some (.lst xs)) (e : atI xs (-(@OfNat.ofNat Int n (@instOfNat n))) = some v) (q : L v h) : gIx (.ref a) (.int (-(@OfNat.ofNat Int n (@instOfNat n)))) h L := i_ix_lst ea e q
theorem i_setLN {n : Nat} (e : h a = some (.lst xs)) (ej : n < xs.length) (q : LP (up h a (.lst (xs.set n x)))) : gSet (.ref a) (.int (@OfNat.ofNat Int n (@instOfNat n))) x h LP := by
  refine i_setL e (k := n) ?_ q
  have e2 : (@OfNat.ofNat Int n (@instOfNat n)) = (n : Int) := rfl
  rw [e2]
  unfold ixN
  rw [if_pos (by omega), if_pos (by omega)]
  rfl
/-- whichever item it is -/
theorem i_ix_any (M : LV → Prop) (ea : h a = some (.lst xs)) (h0 : 0 ≤ i) (h1 : i < xs.length) (hM : ∀ x ∈ xs, M x) (q : ∀ x, M x → L x h) : gIx (.ref a) (.int i) h L := by
  have hl : i.toNat < xs.length := by omega
  exact i_ix_lst ea (v := xs[i.toNat]) (by rw [atI_nat h0 h1]; exact List.getElem?_eq_getElem hl) (q _ (hM _ (List.getElem_mem hl)))
theorem i_ix_anyT (M : LV → Prop) (h0 : 0 ≤ i) (h1 : i < xs.length) (hM : ∀ x ∈ xs, M x) (q : ∀ x, M x → L x h) : gIx (.tup xs) (.int i) h L := by
  have hl : i.toNat < xs.length := by omega
  exact i_ix_tup (v := xs[i.toNat]) (by rw [atI_nat h0 h1]; exact List.getElem?_eq_getElem hl) (q _ (hM _ (List.getElem_mem hl)))
/-- slices -/
theorem i_sl (q : le s h E fun x h1 => ll s h1 E fun lo h2 => lh s h2 E fun hi h3 => gSl x lo hi h3 L) : lSl le ll lh s h E L := q
theorem i_nop (q : LO1 none h) : lNoP s h E LO1 := q
theorem i_part (q : le s h E fun x h1 => match x with
  | .int i => LO1 (some i) h1
  | _ => False) : lPart le s h E LO1 := q
theorem i_sl_tup {p1 p2 : Option Int} (q : L (.tup (cutL xs p1 p2)) h) : gSl (.tup xs) p1 p2 h L := q
theorem i_sl_rl {p1 p2 : Option Int} (q : ∀ p, h p = none → L (.ref p) (up h p (.lst (cutL xs p1 p2)))) : gSl (.rl xs) p1 p2 h L := q
theorem i_sl_str {p1 p2 : Option Int} (e : z.length ≤ sizeLine) (q : L (.str (cutS z p1 p2)) h) : gSl (.str z) p1 p2 h L := ⟨e, q⟩
theorem i_sl_lst {p1 p2 : Option Int} (e : h a = some (.lst xs)) (q : ∀ p, h p = none → L (.ref p) (up h p (.lst (cutL xs p1 p2)))) : gSl (.ref a) p1 p2 h L := by
  show (match h a with
    | some (.lst xs) => ∀ p, h p = none → L (.ref p) (up h p (.lst (cutL xs p1 p2)))
    | _ => False)
  rw [e]; exact q
/-- calls -/
theorem i_cb (q : lr s h E fun xs h1 => C xs h1 L) : lCB C lr s h E L := q
theorem i_call {ls : LSp} (q : lr s h E fun xs h1 => ls xs h1 E L) : lCall ls lr s h E L := q
theorem i_len_tup (q : L (.int xs.length) h) : gLen [.tup xs] h L := q
theorem i_len_rl (q : L (.int xs.length) h) : gLen [.rl xs] h L := q
theorem i_len_str (e : z.length ≤ sizeLine) (q : L (.int z.length) h) : gLen [.str z] h L := ⟨e, q⟩
theorem i_len_lst (e : h a = some (.lst xs)) (q : L (.int xs.length) h) : gLen [.ref a] h L := by
  show (match h a with
    | some (.lst ys) => L (.int ys.length) h
    | some (.dic ys) => L (.int ys.length) h
    | _ => False)
  rw [e]; exact q
theorem i_len_dic (e : h a = some (.dic kvs)) (q : L (.int kvs.length) h) : gLen [.ref a] h L := by
  show (match h a with
    | some (.lst ys) => L (.int ys.length) h
    | some (.dic ys) => L (.int ys.length) h
    | _ => False)
  rw [e]; exact q
theorem i_abs (q : L (.int (if i < 0 then -i else i)) h) : gAbs [.int i] h L := q
theorem i_II {F : Int → Int → Int} (q : L (.int (F i j)) h) : gII F [.int i, .int j] h L := q
theorem i_int1 (q : L (.int i) h) : gInt1 [.int i] h L := q
theorem i_int1b {b : Bool} (q : L (.int (if b then 1 else 0)) h) : gInt1 [.bl b] h L := q
theorem i_list_tup (q : ∀ p, h p = none → L (.ref p) (up h p (.lst xs))) : gList [.tup xs] h L := q
theorem i_list_rl (q : ∀ p, h p = none → L (.ref p) (up h p (.lst xs))) : gList [.rl xs] h L := q
theorem i_list_lst (e : h a = some (.lst xs)) (q : ∀ p, h p = none → L (.ref p) (up h p (.lst xs))) : gList [.ref a] h L := by
  show (match h a with
    | some (.lst ys) => ∀ p, h p = none → L (.ref p) (up h p (.lst ys))
    | _ => False)
  rw [e]; exact q
theorem i_tuple_tup (q : L (.tup xs) h) : gTuple [.tup xs] h L := q
theorem i_tuple_rl (q : L (.tup xs) h) : gTuple [.rl xs] h L := q
theorem i_tuple_lst (e : h a = some (.lst xs)) (q : L (.tup xs) h) : gTuple [.ref a] h L := by
  show (match h a with
    | some (.lst ys) => L (.tup ys) h
    | _ => False)
  rw [e]; exact q
theorem lstOf_lst (e : h a = some (.lst xs)) : lstOf h (.ref a) = some xs := by unfold lstOf; dsimp only; rw [e]
theorem seqOf_lst (e : h a = some (.lst xs)) : seqOf h (.ref a) = some xs := by unfold seqOf; dsimp only; rw [e]
theorem i_sum {ns : List Int} (e : lstOf h x = some (ns.map .int)) (q : L (.int ns.sum) h) : gSum [x] h L := by
  show (match lstOf h x with
    | some ys => (match intsOf ys with
      | some ns => L (.int ns.sum) h
      | none => False)
    | none => False)
  rw [e]
  dsimp only
  rw [intsOf_map]
  exact q
theorem i_bls {F : List Bool → Bool} {bs : List Bool} (e : lstOf h x = some (bs.map .bl)) (q : L (.bl (F bs)) h) : gBls F [x] h L := by
  show (match lstOf h x with
    | some ys => (match blsOf ys with
      | some ns => L (.bl (F ns)) h
      | none => False)
    | none => False)
  rw [e]
  dsimp only
  rw [blsOf_map]
  exact q
theorem i_maxL {le1 : Int → Int → Prop} {ns : List Int} (e : lstOf h x = some (ns.map .int)) (hp : 0 < ns.length) (q : ∀ m, m ∈ ns → (∀ y, y ∈ ns → le1 y m) → L (.int m) h) : gMaxL le1 [x] h L := by
  show (match lstOf h x with
    | some ys => (match intsOf ys with
      | some ns => 0 < ns.length ∧ ∀ m, m ∈ ns → (∀ y, y ∈ ns → le1 y m) → L (.int m) h
      | none => False)
    | none => False)
  rw [e]
  dsimp only
  rw [intsOf_map]
  exact ⟨hp, q⟩
theorem i_divmod (e : CDiv i j) (q : L (.tup [.int (i / j), .int (i % j)]) h) : gDivmod [.int i, .int j] h L := ⟨e, q⟩
theorem i_isi1 {A B : String} (e : lty h x = some A) (hb : B ∈ tyNames ∧ B ≠ "NoneType") (q : L (.bl (isiT A B)) h) : gIsi [x, .ty B] h L := by
  show (match lty h x with
    | some a => B ∈ tyNames ∧ B ≠ "NoneType" ∧ L (.bl (isiT a B)) h
    | none => False)
  rw [e]; exact ⟨hb.1, hb.2, q⟩
theorem i_isiN {A : String} {Bs : List String} (e : lty h x = some A) (et : tysOf xs = some Bs) (hb : ∀ b ∈ Bs, b ∈ tyNames ∧ b ≠ "NoneType") (q : L (.bl (Bs.any (isiT A))) h) : gIsi [x, .tup xs] h L := by
  show (match lty h x, tysOf xs with
    | some a, some bs => (∀ b ∈ bs, b ∈ tyNames ∧ b ≠ "NoneType") ∧ L (.bl (bs.any (isiT a))) h
    | _, _ => False)
  rw [e, et]; exact ⟨hb, q⟩
/-- methods of lists, texts -/
theorem i_bm {T : String} (q : lo s h E fun x h1 => lTy T x h1 ∧ lr s h1 E fun xs h2 => GM x xs h2 L) : lBM T GM lo lr s h E L := q
theorem i_ty_lst (e : h a = some (.lst xs)) : lTy "list" (.ref a) h := by unfold lTy; dsimp only; rw [e]
theorem i_ty_dic (e : h a = some (.dic kvs)) : lTy "dict" (.ref a) h := by unfold lTy; dsimp only; rw [e]
theorem i_lm {F : List LV → List LV → Option (List LV × LV)} (e : h a = some (.lst ys)) (ef : F ys xs = some (zs, v)) (q : L v (up h a (.lst zs))) : gLm F (.ref a) xs h L := by
  unfold gLm
  dsimp only
  rw [e]
  dsimp only
  rw [ef]
  exact q
theorem i_append (e : h a = some (.lst ys)) (hz : ys.length < 100000) (q : L .non (up h a (.lst (ys ++ [x])))) : gAppend (.ref a) [x] h L := i_lm e (by dsimp only; rw [if_pos hz]) q
theorem i_reverse (e : h a = some (.lst ys)) (q : L .non (up h a (.lst ys.reverse))) : gReverse (.ref a) [] h L := i_lm e rfl q
theorem i_clear (e : h a = some (.lst ys)) (q : L .non (up h a (.lst []))) : gClear (.ref a) [] h L := i_lm e rfl q
theorem i_pop0 (e : h a = some (.lst ys)) (ey : ys[ys.length - 1]? = some y) (q : L y (up h a (.lst ys.dropLast))) : gPop0 (.ref a) [] h L := i_lm e (by dsimp only; rw [ey]) q
theorem i_pop1 (e : h a = some (.lst ys)) (hi : 0 ≤ i ∧ i < 100000) (ey : ys[i.toNat]? = some y) (q : L y (up h a (.lst (ys.eraseIdx i.toNat)))) : gPop1 (.ref a) [.int i] h L := i_lm e (by dsimp only; rw [if_pos hi, ey]) q
theorem i_insert (e : h a = some (.lst ys)) (hi : 0 ≤ i ∧ i < 100000 ∧ ys.length < 100000) (q : L .non (up h a (.lst (ys.take i.toNat ++ [y] ++ ys.drop i.toNat)))) : gInsert (.ref a) [.int i, y] h L := i_lm e (by dsimp only; rw [if_pos hi]) q
theorem i_extend (e : h a = some (.lst ys)) (e2 : h b = some (.lst zs)) (hz : ys.length + zs.length ≤ 100000) (q : L .non (up h a (.lst (ys ++ zs)))) : gExtend (.ref a) [.ref b] h L := by
  unfold gExtend
  dsimp only
  rw [e, e2]
  exact ⟨hz, q⟩
/-- own objects -/
theorem i_fld (q : lo s h E fun x h1 => gFld c f x h1 L) : lFld c f lo s h E L := q
theorem i_fldG (e : h a = some (.ins c fs)) (ef : fget fs f = some v) (q : L v h) : gFld c f (.ref a) h L := by
  unfold gFld
  dsimp only
  rw [e]
  dsimp only
  rw [ef]
  exact ⟨rfl, q⟩
theorem i_fldS (q : lb s h (fun c fs h' => ex c fs s h') fun x h1 => lo s h1 (fun c fs h' => ex c fs s h') fun o h2 => gFldS c f x o h2 fun h3 => nx s h3) : lFldS c f lo lb ⟨nx, rt, ex, bk, ct⟩ s h := q
theorem i_fldP (e : h a = some (.ins c fs)) (hz : fs.length < 100) (q : LP (up h a (.ins c (fput f x fs)))) : gFldS c f x (.ref a) h LP := by
  unfold gFldS
  dsimp only
  rw [e]
  exact ⟨rfl, hz, q⟩
theorem i_meth {ls : LSp} (q : lo s h E fun x h1 => gMth c x h1 (lr s h1 E fun xs h2 => ls (x :: xs) h2 E L)) : lMeth c ls lo lr s h E L := by
  refine cast (congrArg (fun K => lo s h E K) (funext fun x => funext fun h1 => ?_)) q
  unfold gMth
  cases x <;> rfl
theorem i_methG {Q : Prop} (e : h a = some (.ins c fs)) (q : Q) : gMth c (.ref a) h Q := by
  unfold gMth
  dsimp only
  rw [e]
  exact ⟨rfl, q⟩
theorem i_make {ls : LSp} (q : lr s h E fun xs h1 => ∀ x, h1 x = none → ls (.ref x :: xs) (up h1 x (.ins c [])) X0 fun v h2 => v = .non ∧ L (.ref x) h2) : lMake c ls lr s h E L := q
/-- tests -/
theorem k_true {P Q : Prop} (q : P) : if true = true then P else Q := q
theorem k_false {P Q : Prop} (q : Q) : if false = true then P else Q := by rw [if_neg Bool.false_ne_true]; exact q
theorem k_dec {p P Q : Prop} [Decidable p] (h1 : p → P) (h2 : ¬p → Q) : if decide p = true then P else Q := by
  split
  · rename_i e; exact h1 (of_decide_eq_true e)
  · rename_i e; exact h2 fun q => e (decide_eq_true q)
theorem k_ndec {p P Q : Prop} [Decidable p] (h1 : ¬p → P) (h2 : p → Q) : if (!decide p) = true then P else Q := by
  by_cases hp : p
  · rw [decide_eq_true hp]; exact h2 hp
  · rw [decide_eq_false hp]; exact h1 hp
theorem k_nnd {p P Q : Prop} [Decidable p] (h1 : p → P) (h2 : ¬p → Q) : if (!(!decide p)) = true then P else Q := by
  by_cases hp : p
  · rw [decide_eq_true hp]; exact h1 hp
  · rw [decide_eq_false hp]; exact h2 hp
theorem k_nT {P Q : Prop} (q : Q) : if (!true) = true then P else Q := q
theorem k_nF {P Q : Prop} (q : P) : if (!false) = true then P else Q := q
theorem k_any {b : Bool} {P Q : Prop} (h1 : b = true → P) (h2 : b = false → Q) : if b = true then P else Q := by
  cases b
  · rw [if_neg Bool.false_ne_true]; exact h2 rfl
  · exact h1 rfl
/-- a bool is known by its cases -/
theorem k_bl {b : Bool} {P : Bool → Prop} (h1 : b = true → P true) (h2 : b = false → P false) : P b := by
  cases b
  · exact h2 rfl
  · exact h1 rfl
/-- the ends of a def -/
theorem i_rt (q : Dn (L x) h) : (fnE E L).rt x h := q
theorem i_nxE (q : Dn (L .non) h) : (fnE E L).nx s h := q
theorem i_exE (q : Dn (E c fs) h) : (fnE E L).ex c fs s h := q
/-! ### loops -/
def kFor (nx : LS → LH → Prop) (rt : LK) (ex : SX) (g : LTG) (lb : LTS) (s : LS) (it : LIt) (h1 : LH) : Prop := ∃ (n : Nat) (P : Nat → LS → LH → Prop), P 0 s h1 ∧ ∀ i s h, P i s h → match it i h with
  | none => False
  | some none => nx s h
  | some (some x) => i < n ∧ g x s h ex fun s' h' => lb ⟨P (i + 1), rt, ex, nx, P (i + 1)⟩ s' h'
variable {l3 : LTI} {lbody : LTS} {KI : LIt → LH → Prop}
theorem i_for (q : l3 s h (fun c fs h' => ex c fs s h') fun it h1 => kFor nx rt ex g lbody s it h1) : lFor l3 g lbody ⟨nx, rt, ex, bk, ct⟩ s h := q
theorem i_rng1 (q : lr s h E fun xs h1 => match xs with
  | [.int j] => -1000000 ≤ j ∧ j ≤ 1000000 ∧ KI (itR 0 j.toNat) h1
  | _ => False) : liRng1 lr s h E KI := q
theorem i_rng2 (q : lr s h E fun xs h1 => match xs with
  | [.int i, .int j] => (-1000000 ≤ i ∧ i ≤ 1000000 ∧ -1000000 ≤ j ∧ j ≤ 1000000) ∧ KI (itR i (j - i).toNat) h1
  | _ => False) : liRng2 lr s h E KI := q
theorem i_liSeq (q : le s h E fun x h1 => gLi x h1 KI) : liSeq le s h E KI := q
theorem i_liL (e : h a = some (.lst xs)) (q : KI (itL a) h) : gLi (.ref a) h KI := by
  unfold gLi
  dsimp only
  rw [e]; exact q
theorem i_liT (q : KI (itSt xs) h) : gLi (.tup xs) h KI := q
theorem i_liR (q : KI (itSt xs) h) : gLi (.rl xs) h KI := q
theorem i_liStr (q : KI (itSt (z.cps.toList.map fun c => .str ⟨#[c]⟩)) h) : gLi (.str z) h KI := q
theorem for_rng {lo : Int} {m : Nat} {h1 : LH} (P : Nat → LS → LH → Prop) (p0 : P 0 s h1) (stop : ∀ s' h', P m s' h' → nx s' h')
    (step : ∀ i s' h', i < m → P i s' h' → g (.int (lo + i)) s' h' ex fun s2 h2 => lbody ⟨P (i + 1), rt, ex, nx, P (i + 1)⟩ s2 h2) : kFor nx rt ex g lbody s (itR lo m) h1 := by
  refine ⟨m, fun i s h => i ≤ m ∧ P i s h, ⟨Nat.zero_le _, p0⟩, fun i s' h' hp => ?_⟩
  unfold itR
  by_cases hi : i < m
  · rw [if_pos hi]
    refine ⟨hi, ?_⟩
    have q := step i s' h' hi hp.2
    have e : (fun s h => i + 1 ≤ m ∧ P (i + 1) s h) = P (i + 1) := by
      funext s h
      exact propext ⟨fun z => z.2, fun z => ⟨hi, z⟩⟩
    rw [← e] at q
    exact q
  · rw [if_neg hi]
    have e : i = m := by omega
    subst e
    exact stop s' h' hp.2
theorem for_st {h1 : LH} (P : Nat → LS → LH → Prop) (p0 : P 0 s h1) (stop : ∀ s' h', P xs.length s' h' → nx s' h')
    (step : ∀ i x s' h', xs[i]? = some x → P i s' h' → g x s' h' ex fun s2 h2 => lbody ⟨P (i + 1), rt, ex, nx, P (i + 1)⟩ s2 h2) : kFor nx rt ex g lbody s (itSt xs) h1 := by
  refine ⟨xs.length, fun i s h => i ≤ xs.length ∧ P i s h, ⟨Nat.zero_le _, p0⟩, fun i s' h' hp => ?_⟩
  unfold itSt
  cases eq : xs[i]? with
  | some x =>
    have hi : i < xs.length := (List.getElem?_eq_some_iff.mp eq).1
    refine ⟨hi, ?_⟩
    have q := step i x s' h' eq hp.2
    have e : (fun s h => i + 1 ≤ xs.length ∧ P (i + 1) s h) = P (i + 1) := by
      funext s h
      exact propext ⟨fun z => z.2, fun z => ⟨hi, z⟩⟩
    rw [← e] at q
    exact q
  | none =>
    have e : i = xs.length := by
      have := List.getElem?_eq_none_iff.mp eq
      have := hp.1
      omega
    subst e
    exact stop s' h' hp.2
/-- over a list in the heap that stays as it is -/
theorem for_lst {h1 : LH} (e0 : h1 a = some (.lst xs)) (P : Nat → LS → LH → Prop) (p0 : P 0 s h1) (stop : ∀ s' h', h' a = some (.lst xs) → P xs.length s' h' → nx s' h')
    (step : ∀ i x s' h', h' a = some (.lst xs) → xs[i]? = some x → P i s' h' → g x s' h' ex fun s2 h2 => lbody ⟨fun s3 h3 => h3 a = some (.lst xs) ∧ P (i + 1) s3 h3, rt, ex, nx, fun s3 h3 => h3 a = some (.lst xs) ∧ P (i + 1) s3 h3⟩ s2 h2) : kFor nx rt ex g lbody s (itL a) h1 := by
  refine ⟨xs.length, fun i s h => i ≤ xs.length ∧ h a = some (.lst xs) ∧ P i s h, ⟨Nat.zero_le _, e0, p0⟩, fun i s' h' hp => ?_⟩
  unfold itL
  rw [hp.2.1]
  dsimp only
  cases eq : xs[i]? with
  | some x =>
    have hi : i < xs.length := (List.getElem?_eq_some_iff.mp eq).1
    refine ⟨hi, ?_⟩
    have q := step i x s' h' hp.2.1 eq hp.2.2
    have e : (fun s h => i + 1 ≤ xs.length ∧ h a = some (.lst xs) ∧ P (i + 1) s h) = fun s3 h3 => h3 a = some (.lst xs) ∧ P (i + 1) s3 h3 := by
      funext s h
      exact propext ⟨fun z => z.2, fun z => ⟨hi, z⟩⟩
    rw [← e] at q
    exact q
  | none =>
    have e : i = xs.length := by
      have := List.getElem?_eq_none_iff.mp eq
      have := hp.1
      omega
    subst e
    exact stop s' h' hp.2.1 hp.2.2
theorem i_leN {n m : Nat} {Q : Prop} (e : n ≤ m) (q : Q) : n ≤ m ∧ Q := ⟨e, q⟩
theorem i_leI {i j : Int} {Q : Prop} (e : i ≤ j) (q : Q) : i ≤ j ∧ Q := ⟨e, q⟩
theorem i_leI4 {i j k l m n o p : Int} {Q : Prop} (e : i ≤ j ∧ k ≤ l ∧ m ≤ n ∧ o ≤ p) (q : Q) : (i ≤ j ∧ k ≤ l ∧ m ≤ n ∧ o ≤ p) ∧ Q := ⟨e, q⟩
theorem i_bmG {T : String} {Q : Prop} (e : lTy T x h) (q : Q) : lTy T x h ∧ Q := ⟨e, q⟩
/-! ### the box of digits -/
def BoxN (h : LH) (b : Addr) (n : Int) : Prop := ∃ x y c : Int, h b = some (.lst [.int x, .int y, .int c]) ∧ 0 ≤ x ∧ 0 ≤ y ∧ y < 2305843009213693951 ∧ 0 ≤ c ∧ c ≤ n
theorem BoxN.fresh {h : LH} {b p : Addr} {n : Int} {o : LO} (e : h p = none) (q : BoxN h b n) : BoxN (up h p o) b n := by
  obtain ⟨x, y, c, q, r⟩ := q
  exact ⟨x, y, c, up_old e q, r⟩
theorem BoxN.other {h : LH} {b p : Addr} {n : Int} {o : LO} (e : b ≠ p) (q : BoxN h b n) : BoxN (up h p o) b n := by
  obtain ⟨x, y, c, q, r⟩ := q
  exact ⟨x, y, c, up_neq e q, r⟩
theorem BoxN.keep {h h1 : LH} {b p : Addr} {n : Int} (k : Keep p h h1) (e : b ≠ p) (q : BoxN h b n) : BoxN h1 b n := by
  obtain ⟨x, y, c, q, r⟩ := q
  exact ⟨x, y, c, k _ _ e q, r⟩
theorem BoxN.mono {h : LH} {b : Addr} {n m : Int} (e : n ≤ m) (q : BoxN h b n) : BoxN h b m := by
  obtain ⟨x, y, c, q, r⟩ := q
  exact ⟨x, y, c, q, by omega⟩
theorem BoxN.ne {h : LH} {b p : Addr} {n : Int} (e : h p = none) (q : BoxN h b n) : p ≠ b := by
  obtain ⟨x, y, c, q, r⟩ := q
  exact Ne.symm (ne_fr q e)
/-- a box without a bound of its counter -/
def BoxU (h : LH) (b : Addr) : Prop := ∃ x y c : Int, h b = some (.lst [.int x, .int y, .int c]) ∧ 0 ≤ x
theorem BoxU.fresh {h : LH} {b p : Addr} {o : LO} (e : h p = none) (q : BoxU h b) : BoxU (up h p o) b := by
  obtain ⟨x, y, c, q, r⟩ := q
  exact ⟨x, y, c, up_old e q, r⟩
theorem BoxU.other {h : LH} {b p : Addr} {o : LO} (e : b ≠ p) (q : BoxU h b) : BoxU (up h p o) b := by
  obtain ⟨x, y, c, q, r⟩ := q
  exact ⟨x, y, c, up_neq e q, r⟩
theorem BoxU.keep {h h1 : LH} {b p : Addr} (k : Keep p h h1) (e : b ≠ p) (q : BoxU h b) : BoxU h1 b := by
  obtain ⟨x, y, c, q, r⟩ := q
  exact ⟨x, y, c, k _ _ e q, r⟩
theorem BoxU.ne {h : LH} {b p : Addr} (e : h p = none) (q : BoxU h b) : p ≠ b := by
  obtain ⟨x, y, c, q, r⟩ := q
  exact Ne.symm (ne_fr q e)
theorem BoxU.sub {h h1 : LH} {b : Addr} (k : Sub h h1) (q : BoxU h b) : BoxU h1 b := by
  obtain ⟨x, y, c, q, r⟩ := q
  exact ⟨x, y, c, k _ _ q, r⟩
end
end VL

set_option Elab.async false
set_option linter.all false
set_option maxRecDepth 100000
set_option maxHeartbeats 2000000
namespace VL
open PySem PySem.Spec PyProof.Rows L2
section
variable {nx bk ct : LS → LH → Prop} {rt : LK} {ex : SX} {s s1 s' : LS} {h : LH} {E : LX} {L : LK} {D : LEnds} {la lb lc le lo li : LTE} {lr : LTA} {lt lu : LTT} {x y v : LV} {xs ys zs : List LV} {a b : Addr} {kvs : List (Key × LV)}
theorem lty_lst (e : h a = some (.lst xs)) : lty h (.ref a) = some "list" := by unfold lty; dsimp only; rw [e]
theorem lty_dic (e : h a = some (.dic kvs)) : lty h (.ref a) = some "dict" := by unfold lty; dsimp only; rw [e]
theorem i_isiK {A B : String} {c : Bool} (e : lty h x = some A) (hb : B ∈ tyNames ∧ B ≠ "NoneType") (hc : isiT A B = c) (q : L (.bl c) h) : gIsi [x, .ty B] h L := i_isi1 e hb (by rw [hc]; exact q)
theorem i_isiNK {A : String} {Bs : List String} {c : Bool} (e : lty h x = some A) (et : tysOf xs = some Bs) (hb : ∀ b ∈ Bs, b ∈ tyNames ∧ b ≠ "NoneType") (hc : Bs.any (isiT A) = c) (q : L (.bl c) h) : gIsi [x, .tup xs] h L := i_isiN e et hb (by rw [hc]; exact q)
/-! ### comprehensions -/
def kLc (nt : NT) (lt : LTT) (le : LTE) (vs : List Nat) (s : LS) (it : LIt) (h1 : LH) (L : LK) : Prop := ∀ D, h1 D = none → ∃ (n : Nat) (P : Nat → LH → Prop), P 0 (up h1 D (.lst [])) ∧ ∀ i h, P i h → match it i h with
  | none => False
  | some none => L (.ref D) h
  | some (some x) => i < n ∧ match nt.put x (lwipe s vs) with
    | some s2 => lt s2 h X0 fun b h3 => if b = true then le s2 h3 X0 fun y h4 => (match h4 D with
      | some (.lst acc) => acc.length < 100000 ∧ P (i + 1) (up h4 D (.lst (acc ++ [y])))
      | _ => False) else P (i + 1) h3
    | none => False
variable {l3 : LTI} {nt : NT} {vs : List Nat}
theorem i_lc (q : l3 s h E fun it h1 => kLc nt lt le vs s it h1 L) : lLc l3 nt lt le vs s h E L := q
/-- each item by a law of its own; the list grows at the end -/
def cAppP (m : Nat) (D : Addr) (Q : Addr → Nat → List LV → LH → Prop) (i : Nat) (h' : LH) : Prop := i ≤ m ∧ ∃ acc, acc.length = i ∧ h' D = some (.lst acc) ∧ Q D i acc h'
def cApp (m : Nat) (D : Addr) (Q : Addr → Nat → List LV → LH → Prop) (i : Nat) (y : LV) (h4 : LH) : Prop := match h4 D with
  | some (.lst acc) => acc.length < 100000 ∧ cAppP m D Q (i + 1) (up h4 D (.lst (acc ++ [y])))
  | _ => False
theorem cApp.mk {m : Nat} {D : Addr} {Q : Addr → Nat → List LV → LH → Prop} {i : Nat} {y : LV} {h4 : LH} {acc : List LV} (hl : acc.length = i) (hi : i < m) (hz : m ≤ 100000) (e : h4 D = some (.lst acc)) (q : Q D (i + 1) (acc ++ [y]) (up h4 D (.lst (acc ++ [y])))) : cApp m D Q i y h4 := by
  unfold cApp
  rw [e]
  exact ⟨by omega, hi, acc ++ [y], by rw [List.length_append, hl]; rfl, up_same, q⟩
theorem lc_gen {it : LIt} {m : Nat} {item : Nat → LV} {f : LV → LS} (Q : Addr → Nat → List LV → LH → Prop) (hit : ∀ i h, it i h = if i < m then some (some (item i)) else some none) (ef : ∀ x, nt.put x (lwipe s vs) = some (f x))
    (q0 : ∀ D, h D = none → Q D 0 [] (up h D (.lst [])))
    (step : ∀ D i acc h', h D = none → i < m → acc.length = i → h' D = some (.lst acc) → Q D i acc h' → le (f (item i)) h' X0 (cApp m D Q i))
    (stop : ∀ D acc h', h D = none → acc.length = m → h' D = some (.lst acc) → Q D m acc h' → L (.ref D) h') : kLc nt lYes le vs s it h L := by
  intro D hD
  refine ⟨m, cAppP m D Q, ⟨Nat.zero_le _, [], rfl, up_same, q0 D hD⟩, fun i h' ⟨hi, acc, hl, ha, hq⟩ => ?_⟩
  rw [hit]
  by_cases hlt : i < m
  · rw [if_pos hlt]
    refine ⟨hlt, ?_⟩
    rw [ef]
    exact step D i acc h' hD hlt hl ha hq
  · rw [if_neg hlt]
    have e : i = m := by omega
    subst e
    exact stop D acc h' hD hl ha hq
theorem lc_rng {lo : Int} {m : Nat} {f : LV → LS} (Q : Addr → Nat → List LV → LH → Prop) (ef : ∀ x, nt.put x (lwipe s vs) = some (f x))
    (q0 : ∀ D, h D = none → Q D 0 [] (up h D (.lst [])))
    (step : ∀ D i acc h', h D = none → i < m → acc.length = i → h' D = some (.lst acc) → Q D i acc h' → le (f (.int (lo + i))) h' X0 (cApp m D Q i))
    (stop : ∀ D acc h', h D = none → acc.length = m → h' D = some (.lst acc) → Q D m acc h' → L (.ref D) h') : kLc nt lYes le vs s (itR lo m) h L :=
  lc_gen (item := fun i => .int (lo + i)) Q (fun i h => rfl) ef q0 step stop
/-- a pure law, item by item -/
theorem lc_mapS {f : LV → LS} (g : LV → LV) (ef : ∀ x, nt.put x (lwipe s vs) = some (f x)) (hz : xs.length ≤ 100000)
    (pure : ∀ x h' K, x ∈ xs → Sub h h' → K (g x) h' → le (f x) h' X0 K) (q : ∀ D, h D = none → L (.ref D) (up h D (.lst (xs.map g)))) : kLc nt lYes le vs s (itSt xs) h L := by
  refine lc_gen (m := xs.length) (item := fun i => xs.getD i .non) (fun D i acc h' => h' = up h D (.lst ((xs.take i).map g)) ∧ acc = (xs.take i).map g) (fun i h => ?_) ef (fun D hD => ⟨rfl, rfl⟩) (fun D i acc h' hD hi hl ha hq => ?_) (fun D acc h' hD hl ha hq => ?_)
  · unfold itSt
    by_cases hi : i < xs.length
    · rw [if_pos hi, List.getElem?_eq_getElem hi, List.getD_eq_getElem?_getD, List.getElem?_eq_getElem hi]
      rfl
    · rw [if_neg hi, List.getElem?_eq_none (by omega)]
  · obtain ⟨rfl, rfl⟩ := hq
    have eg : xs.getD i .non = xs[i] := by rw [List.getD_eq_getElem?_getD, List.getElem?_eq_getElem hi]; rfl
    rw [eg]
    refine pure _ _ _ (List.getElem_mem hi) (Sub.fresh hD (Sub.refl h)) ?_
    refine cApp.mk hl hi hz ha ?_
    rw [List.take_succ_eq_append_getElem hi, List.map_append]
    exact ⟨up_up, rfl⟩
  · rw [hq.1, List.take_length]
    exact q D hD

variable {g : LTG} {lbody : LTS} {KI : LIt → LH → Prop}
def gEn : LV → LH → (LIt → LH → Prop) → Prop := fun x h1 KI => match x with
  | .rl xs => KI (itEnS xs) h1
  | .ref a => (match h1 a with
    | some (.lst _) => KI (itEnL a) h1
    | _ => False)
  | _ => False
theorem i_enum (q : le s h E fun x h1 => gEn x h1 KI) : liEnumL le s h E KI := q
theorem i_enR (q : KI (itEnS xs) h) : gEn (.rl xs) h KI := q
theorem i_enL (e : h a = some (.lst xs)) (q : KI (itEnL a) h) : gEn (.ref a) h KI := by
  unfold gEn
  dsimp only
  rw [e]; exact q
theorem for_enL {h1 : LH} (e0 : h1 a = some (.lst xs)) (P : Nat → LS → LH → Prop) (p0 : P 0 s h1) (stop : ∀ s' h', h' a = some (.lst xs) → P xs.length s' h' → nx s' h')
    (step : ∀ (i : Nat) x s' h', h' a = some (.lst xs) → xs[i]? = some x → P i s' h' → g (.tup [.int i, x]) s' h' ex fun s2 h2 => lbody ⟨fun s3 h3 => h3 a = some (.lst xs) ∧ P (i + 1) s3 h3, rt, ex, nx, fun s3 h3 => h3 a = some (.lst xs) ∧ P (i + 1) s3 h3⟩ s2 h2) : kFor nx rt ex g lbody s (itEnL a) h1 := by
  refine ⟨xs.length, fun i s h => i ≤ xs.length ∧ h a = some (.lst xs) ∧ P i s h, ⟨Nat.zero_le _, e0, p0⟩, fun i s' h' hp => ?_⟩
  unfold itEnL
  rw [hp.2.1]
  dsimp only
  cases eq : xs[i]? with
  | some x =>
    have hi : i < xs.length := (List.getElem?_eq_some_iff.mp eq).1
    refine ⟨hi, ?_⟩
    have q := step i x s' h' hp.2.1 eq hp.2.2
    have e : (fun s h => i + 1 ≤ xs.length ∧ h a = some (.lst xs) ∧ P (i + 1) s h) = fun s3 h3 => h3 a = some (.lst xs) ∧ P (i + 1) s3 h3 := by
      funext s h
      exact propext ⟨fun z => z.2, fun z => ⟨hi, z⟩⟩
    rw [← e] at q
    exact q
  | none =>
    have e : i = xs.length := by
      have := List.getElem?_eq_none_iff.mp eq
      have := hp.1
      omega
    subst e
    exact stop s' h' hp.2.1 hp.2.2
end
end VL

set_option Elab.async false
set_option linter.all false
set_option maxRecDepth 100000
set_option maxHeartbeats 2000000
namespace VL
open PySem PySem.Spec PyProof.Rows L2
/-! plain words of the laws -/
def isDig : LV → Bool
  | .int i => decide (0 ≤ i) && decide (i < 16)
  | _ => false
/-- its kind can be told -/
def Told (h : LH) (x : LV) : Prop := ∃ t, lty h x = some t
theorem Told.split {h : LH} {x : LV} (t : Told h x) : x = .non ∨ (∃ b, x = .bl b) ∨ (∃ i, x = .int i) ∨ (∃ z, x = .str z) ∨ (∃ xs, x = .tup xs) ∨ (∃ xs, x = .rl xs) ∨ (∃ a xs, x = .ref a ∧ h a = some (.lst xs)) ∨ ∃ a xs, x = .ref a ∧ h a = some (.dic xs) := by
  obtain ⟨t, e⟩ := t
  cases x with
  | non => exact .inl rfl
  | bl b => exact .inr (.inl ⟨b, rfl⟩)
  | int b => exact .inr (.inr (.inl ⟨b, rfl⟩))
  | str b => exact .inr (.inr (.inr (.inl ⟨b, rfl⟩)))
  | tup b => exact .inr (.inr (.inr (.inr (.inl ⟨b, rfl⟩))))
  | rl b => exact .inr (.inr (.inr (.inr (.inr (.inl ⟨b, rfl⟩)))))
  | ty n => cases e
  | ref a =>
    unfold lty at e
    dsimp only at e
    split at e
    · rename_i xs q; exact .inr (.inr (.inr (.inr (.inr (.inr (.inl ⟨a, xs, rfl, q⟩))))))
    · rename_i xs q; exact .inr (.inr (.inr (.inr (.inr (.inr (.inr ⟨a, xs, rfl, q⟩))))))
    · cases e
/-- what is_key is asked of -/
def Thing (h : LH) (x : LV) : Prop := Told h x ∧ ∀ xs, x = .tup xs → xs.length ≤ 100000 ∧ ∀ y ∈ xs, Told h y
def isKey : LV → Bool
  | .tup xs => decide (1 ≤ xs.length) && (decide (xs.length ≤ 8) && xs.all isDig)
  | _ => false
theorem Told.sub {h h' : LH} {x : LV} (s : Sub h h') (t : Told h x) : Told h' x := by
  rcases t.split with rfl | ⟨b, rfl⟩ | ⟨i, rfl⟩ | ⟨z, rfl⟩ | ⟨z, rfl⟩ | ⟨z, rfl⟩ | ⟨a, z, rfl, e⟩ | ⟨a, z, rfl, e⟩
  · exact ⟨_, rfl⟩
  · exact ⟨_, rfl⟩
  · exact ⟨_, rfl⟩
  · exact ⟨_, rfl⟩
  · exact ⟨_, rfl⟩
  · exact ⟨_, rfl⟩
  · exact ⟨_, lty_lst (s _ _ e)⟩
  · exact ⟨_, lty_dic (s _ _ e)⟩
theorem Told.box {h h' : LH} {b : Addr} {x : LV} (k : Keep b h h') (hb : BoxU h' b) (t : Told h x) : Told h' x := by
  rcases t.split with rfl | ⟨_, rfl⟩ | ⟨i, rfl⟩ | ⟨z, rfl⟩ | ⟨z, rfl⟩ | ⟨z, rfl⟩ | ⟨a, z, rfl, e⟩ | ⟨a, z, rfl, e⟩
  · exact ⟨_, rfl⟩
  · exact ⟨_, rfl⟩
  · exact ⟨_, rfl⟩
  · exact ⟨_, rfl⟩
  · exact ⟨_, rfl⟩
  · exact ⟨_, rfl⟩
  · by_cases hab : a = b
    · subst hab
      obtain ⟨_, _, _, e2, _⟩ := hb
      exact ⟨_, lty_lst e2⟩
    · exact ⟨_, lty_lst (k _ _ hab e)⟩
  · by_cases hab : a = b
    · subst hab
      obtain ⟨_, _, _, e2, _⟩ := hb
      exact ⟨_, lty_lst e2⟩
    · exact ⟨_, lty_dic (k _ _ hab e)⟩
theorem Told.up {h : LH} {D : Addr} {ys : List LV} {x : LV} (t : Told h x) : Told (VL.up h D (.lst ys)) x := by
  rcases t.split with rfl | ⟨_, rfl⟩ | ⟨i, rfl⟩ | ⟨z, rfl⟩ | ⟨z, rfl⟩ | ⟨z, rfl⟩ | ⟨a, z, rfl, e⟩ | ⟨a, z, rfl, e⟩
  · exact ⟨_, rfl⟩
  · exact ⟨_, rfl⟩
  · exact ⟨_, rfl⟩
  · exact ⟨_, rfl⟩
  · exact ⟨_, rfl⟩
  · exact ⟨_, rfl⟩
  · by_cases hab : a = D
    · subst hab
      exact ⟨_, lty_lst up_same⟩
    · exact ⟨_, lty_lst (up_neq hab e)⟩
  · by_cases hab : a = D
    · subst hab
      exact ⟨_, lty_lst up_same⟩
    · exact ⟨_, lty_dic (up_neq hab e)⟩
theorem told_set {h : LH} {xs : List LV} {k : Nat} {y : LV} (hy : Told h y) (hx : ∀ x ∈ xs, Told h x) : ∀ x ∈ xs.set k y, Told h x := fun x hm => by
  rcases List.mem_or_eq_of_mem_set hm with e | e
  · exact hx x e
  · rw [e]; exact hy
theorem cutL_ints2 (ns : List Int) (a b : Option Int) : ∃ ms : List Int, cutL (ns.map LV.int) a b = ms.map LV.int ∧ ms.length = HT.sIx ns.length ns.length b - HT.sIx ns.length 0 a := by
  refine ⟨(ns.drop (HT.sIx ns.length 0 a)).take (HT.sIx ns.length ns.length b - HT.sIx ns.length 0 a), ?_, ?_⟩
  · unfold cutL
    rw [List.length_map, List.map_take, List.map_drop]
  · rw [List.length_take, List.length_drop]
    have := HT.sIx_le ns.length ns.length (Nat.le_refl _) b
    omega
theorem ixN_of {n : Nat} {i : Int} (h0 : 0 ≤ i) (h1 : i < n) : ixN n i = some i.toNat := by
  unfold ixN
  rw [if_pos h0, if_pos h1]
theorem set_ints (ns : List Int) (k : Nat) (z : Int) : (ns.map LV.int).set k (.int z) = (ns.set k z).map .int := List.map_set.symm
theorem ints_get {ns : List Int} {k : Int} (h0 : 0 ≤ k) (h1 : k < ns.length) : ∃ z, atI (ns.map LV.int) k = some (.int z) := by
  have hz : k.toNat < ns.length := by omega
  refine ⟨ns[k.toNat], ?_⟩
  rw [atI_nat h0 (by rw [List.length_map]; exact h1), List.getElem?_map, List.getElem?_eq_getElem hz]
  rfl
theorem cutL_ints (ns : List Int) (a b : Option Int) : ∃ ms : List Int, cutL (ns.map LV.int) a b = ms.map LV.int ∧ ms.length ≤ ns.length := by
  refine ⟨(ns.drop (HT.sIx ns.length 0 a)).take (HT.sIx ns.length ns.length b - HT.sIx ns.length 0 a), ?_, ?_⟩
  · unfold cutL
    rw [List.length_map, List.map_take, List.map_drop]
  · rw [List.length_take, List.length_drop]
    omega
def wordOf (c l n f : Int) : Str := if c ≤ l then "old" else if c ≤ l + n then "near" else if c ≤ l + f then "far" else "beyond"
end VL

set_option Elab.async false
set_option linter.all false
set_option maxRecDepth 100000
set_option maxHeartbeats 4000000
namespace VL
open PySem PySem.Spec PyProof.Rows L2
local macro_rules | `(tactic| walk_at "hk") => `(tactic| first
  | with_reducible assumption
  | exact up_same
  | (refine up_old (by with_reducible assumption) ?_; walk_at "hk")
  | (refine up_neq (by walk_at "ne") ?_; walk_at "hk")
  | (refine Keep.get (by with_reducible assumption) (by walk_at "ne") ?_; walk_at "hk"))
local macro_rules | `(tactic| walk_at "bx") => `(tactic| first
  | with_reducible assumption
  | (with_reducible apply BoxN.fresh; (focus with_reducible assumption); walk_at "bx")
  | (with_reducible apply BoxN.other; (focus walk_at "ne"); walk_at "bx")
  | (with_reducible apply BoxN.keep; (focus with_reducible assumption); (focus walk_at "ne"); walk_at "bx")
  | (with_reducible apply BoxU.fresh; (focus with_reducible assumption); walk_at "bx")
  | (with_reducible apply BoxU.other; (focus walk_at "ne"); walk_at "bx")
  | (with_reducible apply BoxU.keep; (focus with_reducible assumption); (focus walk_at "ne"); walk_at "bx"))
local macro_rules | `(tactic| walk_at "hk0") => `(tactic| first
  | with_reducible assumption
  | exact up_same
  | (refine up_old (by with_reducible assumption) ?_; walk_at "hk0"))
local macro_rules | `(tactic| walk_at "bx0") => `(tactic| first
  | with_reducible assumption
  | (with_reducible apply BoxN.fresh; (focus with_reducible assumption); walk_at "bx0")
  | (with_reducible apply BoxU.fresh; (focus with_reducible assumption); walk_at "bx0"))
local macro_rules | `(tactic| walk_at "ne") => `(tactic| first
  | with_reducible assumption
  | (apply Ne.symm; with_reducible assumption)
  | (with_reducible apply BoxN.ne; (focus with_reducible assumption); walk_at "bx0")
  | (with_reducible apply BoxU.ne; (focus with_reducible assumption); walk_at "bx0")
  | (with_reducible apply Ne.symm; with_reducible apply BoxN.ne; (focus with_reducible assumption); walk_at "bx0")
  | (with_reducible apply Ne.symm; with_reducible apply BoxU.ne; (focus with_reducible assumption); walk_at "bx0")
  | (with_reducible apply ne_fr; rotate_left; (focus with_reducible assumption); walk_at "hk0")
  | (with_reducible apply Ne.symm; with_reducible apply ne_fr; rotate_left; (focus with_reducible assumption); walk_at "hk0"))
local macro_rules | `(tactic| walk_at "kp") => `(tactic| first
  | with_reducible assumption
  | exact Keep.refl
  | (with_reducible apply Keep.up; walk_at "kp")
  | (with_reducible apply Keep.fresh; rotate_left; (focus with_reducible assumption); walk_at "kp")
  | (with_reducible apply Keep.own; (focus with_reducible assumption); walk_at "kp")
  | (refine Keep.trans ?_ (by with_reducible assumption); walk_at "kp"))
local macro_rules | `(tactic| walk_at "sd") => `(tactic| first
  | omega
  | with_reducible assumption
  | decide
  | (unfold CDiv; omega)
  | (unfold CPow; omega)
  | (split <;> omega)
  | (simp only [List.length_map]; first | omega | (split <;> omega))
  | (simp only [List.length_cons, List.length_nil, List.length_append, List.length_set]; omega))
local macro_rules | `(tactic| walk_at "slot") => `(tactic| first | (simp only [List.set_cons_zero, List.set_cons_succ]; done) | (simp only [List.set_cons_zero, List.set_cons_succ]; exact rfl) | exact rfl)
set_option hygiene false in
local macro_rules | `(tactic| walk_at "vv") => `(tactic| first
  | with_reducible refine i_asg ?_
  | with_reducible refine i_cons ?_
  | with_reducible refine i_nil ?_
  | with_reducible refine i_op ?_
  | ((with_reducible apply i_var); (focus exact rfl))
  | with_reducible refine i_c ?_
  | ((with_reducible apply i_name); (focus walk_at "slot"))
  | with_reducible refine i_call ?_
  | with_reducible refine i_cb ?_
  | with_reducible refine i_int ?_
  | with_reducible refine i_cmp ?_
  | with_reducible refine i_add ?_
  | ((with_reducible apply i_intC); (focus walk_at "sd"))
  | ((with_reducible apply i_mul); (focus walk_at "sd"))
  | with_reducible refine i_test ?_
  | with_reducible refine i_ifS ?_
  | with_reducible refine i_nx ?_
  | with_reducible refine i_ret ?_
  | with_reducible refine i_retN ?_
  | with_reducible refine i_drop ?_
  | with_reducible refine i_cnt ?_
  | with_reducible refine i_brk ?_
  | with_reducible refine i_tup ?_
  | with_reducible refine i_lst ?_
  | with_reducible refine i_if ?_
  | with_reducible refine i_and ?_
  | with_reducible refine i_or ?_
  | with_reducible refine i_not ?_
  | with_reducible refine i_notV ?_
  | with_reducible refine i_andV ?_
  | with_reducible refine i_orV ?_
  | with_reducible refine i_chain ?_
  | with_reducible refine i_chnD (fun hc => ?_) (fun hc => ?_)
  | with_reducible refine i_chnT ?_
  | with_reducible refine i_chnNF ?_
  | with_reducible refine i_chnNT ?_
  | with_reducible refine i_chnF ?_
  | with_reducible refine i_chnN (fun hc => ?_) (fun hc => ?_)
  | with_reducible refine k_true ?_
  | with_reducible refine k_false ?_
  | with_reducible refine k_dec (fun hc => ?_) (fun hc => ?_)
  | with_reducible refine k_nT ?_
  | with_reducible refine k_nF ?_
  | with_reducible refine k_nnd (fun hc => ?_) (fun hc => ?_)
  | with_reducible refine k_ndec (fun hc => ?_) (fun hc => ?_)
  | with_reducible refine i_eq_int ?_
  | with_reducible refine i_eq_str ?_
  | with_reducible refine i_eq_bl ?_
  | with_reducible refine i_ne_int ?_
  | with_reducible refine i_ne_str ?_
  | with_reducible refine i_ne_bl ?_
  | ((with_reducible apply i_gtup); (focus exact rfl))
  | with_reducible refine i_gcons ?_
  | with_reducible refine i_gnil ?_
  | with_reducible refine i_gsub ?_
  | ((with_reducible apply i_setLN); (focus walk_at "hk"); (focus walk_at "sd"))
  | ((with_reducible apply i_ix_tupN); (focus exact rfl))
  | ((with_reducible apply i_ix_lstN); (focus walk_at "hk"); (focus exact rfl))
  | ((with_reducible apply i_ix_rlN); (focus exact rfl))
  | ((with_reducible apply i_ix_tupM); (focus exact rfl))
  | ((with_reducible apply i_ix_lstM); (focus walk_at "hk"); (focus exact rfl))
  | with_reducible refine i_sl ?_
  | with_reducible refine i_nop ?_
  | with_reducible refine i_part ?_
  | with_reducible refine i_sl_tup ?_
  | with_reducible refine i_sl_rl ?_
  | ((with_reducible apply i_sl_lst); (focus walk_at "hk"))
  | with_reducible refine i_len_tup ?_
  | with_reducible refine i_len_rl ?_
  | ((with_reducible apply i_len_lst); (focus walk_at "hk"))
  | with_reducible refine i_abs ?_
  | with_reducible refine i_II ?_
  | with_reducible refine i_int1 ?_
  | with_reducible refine i_int1b ?_
  | ((with_reducible apply i_add_lst); (focus walk_at "hk"); (focus walk_at "hk"); (focus walk_at "sd"))
  | with_reducible refine i_un ?_
  | with_reducible refine i_neg ?_
  | with_reducible refine i_rt ?_
  | with_reducible refine i_nxE ?_
  | with_reducible refine i_for ?_
  | with_reducible refine i_par ?_
  | ((with_reducible apply i_parG); (focus walk_at "slot"))
  | with_reducible refine i_rng1 ?_
  | with_reducible refine i_enum ?_
  | with_reducible refine i_enR ?_
  | ((with_reducible apply i_enL); (focus walk_at "hk"))
  | with_reducible refine i_lc ?_
  | ((with_reducible apply i_divmod); (focus walk_at "sd"))
  | ((with_reducible apply i_isiK); (focus first | exact rfl | (exact lty_lst (by walk_at "hk")) | (exact lty_dic (by walk_at "hk"))); (focus decide); (focus first | (show _ = true; decide) | (show _ = false; decide)))
  | ((with_reducible apply i_isiNK); (focus first | exact rfl | (exact lty_lst (by walk_at "hk")) | (exact lty_dic (by walk_at "hk"))); (focus exact rfl); (focus decide); (focus first | (show _ = true; decide) | (show _ = false; decide)))
  | with_reducible refine i_tru ?_
  | with_reducible refine i_tru_bl ?_
  | with_reducible refine i_tru_non ?_
  | with_reducible refine i_tru_int ?_
  | with_reducible refine i_list_tup ?_
  | with_reducible refine i_list_rl ?_
  | ((with_reducible apply i_list_lst); (focus walk_at "hk"))
  | with_reducible refine i_tuple_tup ?_
  | with_reducible refine i_tuple_rl ?_
  | ((with_reducible apply i_tuple_lst); (focus walk_at "hk"))
  | with_reducible refine i_is_nnI ?_
  | with_reducible refine i_is_nnN ?_
  | with_reducible refine i_is_blI ?_
  | with_reducible refine i_is_blN ?_
  | ((with_reducible apply i_is_nI); rotate_left; (focus exact rfl))
  | ((with_reducible apply i_is_nN); rotate_left; (focus exact rfl))
  | with_reducible refine i_rng2 ?_
  | ((with_reducible apply i_leN); (focus walk_at "sd"))
  | ((with_reducible apply i_leI); (focus walk_at "sd"))
  | ((with_reducible apply i_leI4); (focus walk_at "sd"))
  | with_reducible refine i_liT ?_
  | with_reducible refine i_liR ?_
  | with_reducible refine i_liStr ?_
  | with_reducible refine i_fld ?_
  | ((with_reducible apply i_fldG); (focus walk_at "hk"); (focus exact rfl))
  | with_reducible refine i_fldS ?_
  | ((with_reducible apply i_fldP); (focus walk_at "hk"); (focus walk_at "sd"))
  | with_reducible refine i_meth ?_
  | ((with_reducible apply i_methG); (focus walk_at "hk"))
  | with_reducible refine i_make ?_
  | with_reducible refine i_bm ?_
  | with_reducible refine i_liSeq ?_
  | ((with_reducible apply i_liL); (focus walk_at "hk"))
  | (with_reducible intro (p : Addr) hp))
local macro_rules | `(tactic| walk_at "dn") => `(tactic| first
  | (refine Dn.mk ?_; assumption)
  | (refine Dn.fresh (by with_reducible assumption) ?_; walk_at "dn")
  | refine Dn.mk ?_)
local macro_rules | `(tactic| walk_at "vx") => `(tactic| first | with_reducible refine i_seq ?_ | walk_at "vv")
local macro_rules | `(tactic| walk_at "go") => `(tactic| repeat' walk_at "vx")
local macro_rules | `(tactic| walk_at "st") => `(tactic| ((repeat' walk_at "vv"); (try with_reducible refine i_seq ?_); repeat' walk_at "vv"))
def t_l_folded_2 : LTS :=
  (lSeq (lAsg (lCB gList (lCons (lSl (lVar 0) lNoP (lPart (lVar 1))) lNil)) (lgName 2))
  (lSeq (lFor (liEnumL (lSl (lVar 0) (lPart (lVar 1)) (lPart (lC (.int 63))))) (lgTup 2 (lgCons (lgName 3) (lgCons (lgName 4) lgNil))) (lAsg (lOp gAdd (lOp gIx (lVar 2) (lOp gMod (lVar 3) (lVar 1))) (lOp gMul (lVar 4) (lOp gAdd (lVar 3) (lC (.int 2))))) (lgSub (lVar 2) (lOp gMod (lVar 3) (lVar 1)))))
  (lRet (lVar 2))))
def sp_l_folded_2 : LSp := fun xs h _ L => ∃ (ns : List Int) (m : Nat), xs = [.rl (ns.map .int), .int m] ∧ 1 ≤ m ∧ m ≤ 63 ∧ ns.length ≤ 63 ∧ ∀ (a : Addr) (ms : List Int) (h' : LH), h a = none → h' a = some (.lst (ms.map LV.int)) → ms.length ≤ m → Sub h h' → L (.ref a) h'
theorem rd_l_folded_2 : ∀ xs h E L, sp_l_folded_2 xs h E L → xs.length = 2 ∧ t_l_folded_2 (fnE E L) (lstart 5 xs) h := by
  rintro xs h E L ⟨ns, m, rfl, hm, hm2, hl, q⟩
  refine ⟨rfl, ?_⟩
  show t_l_folded_2 (fnE E L) [some (.rl (ns.map .int)), some (.int m), none, none, none] h
  refine fn_go ?_
  unfold t_l_folded_2
  obtain ⟨m1, e1, l1⟩ := cutL_ints2 ns none (some (m : Int))
  obtain ⟨m2, e2, l2⟩ := cutL_ints2 ns (some (m : Int)) (some 63)
  have s63 : HT.sIx ns.length ns.length (some 63) = min 63 ns.length := HT.sIx_nat _ _ 63
  rw [HT.sIx_nat, HT.sIx_none] at l1
  rw [HT.sIx_nat, s63] at l2
  walk_at "go"
  rename_i p1 hp1 p2 hp2
  simp only [e1] at *
  simp only [e2] at *
  refine for_enL up_same (fun i s' h' => (∃ w1 w2, s' = [some (.rl (ns.map .int)), some (.int m), some (.ref p2), w1, w2]) ∧ Sub h h' ∧ ∃ ms : List Int, h' p2 = some (.lst (ms.map .int)) ∧ ms.length = m1.length) ⟨⟨_, _, rfl⟩, Sub.fresh hp (Sub.fresh hp2 (Sub.fresh hp1 (Sub.refl h))), m1, by walk_at "hk", rfl⟩ ?_ ?_
  · rintro s' h' _ ⟨⟨w1, w2, rfl⟩, hs, ms, hms, hml⟩
    walk_at "go"
    exact .mk (q p2 ms h' (fr_up hp2) hms (by omega) hs)
  · rintro i x s' h' hpe hx ⟨⟨w1, w2, rfl⟩, hs, ms, hms, hml⟩
    rw [List.getElem?_map] at hx
    cases em : m2[i]? with
    | none => rw [em] at hx; cases hx
    | some z =>
      rw [em] at hx
      cases hx
      have hi2 : i < m2.length := (List.getElem?_eq_some_iff.mp em).1
      have hmn : m < ns.length := by omega
      have k0 : (0 : Int) ≤ (i : Int) % (m : Int) := Int.emod_nonneg _ (by omega)
      have k1 : (i : Int) % (m : Int) < (ms.length : Int) := by
        have := Int.emod_lt_of_pos (i : Int) (b := (m : Int)) (by omega)
        omega
      have hne : p ≠ p2 := by
        intro e
        rw [e, up_same] at hp
        cases hp
      walk_at "go"
      obtain ⟨y, hy⟩ := ints_get k0 k1
      refine i_ix_lst hms hy ?_
      walk_at "go"
      refine i_setL hms (ixN_of k0 (by rw [List.length_map]; exact k1)) ?_
      refine ⟨up_neq hne hpe, ⟨_, _, rfl⟩, fun a o e => ?_, ms.set ((i : Int) % (m : Int)).toNat (y + z * ((i : Int) + 2)), ?_, ?_⟩
      · exact up_neq (ne_fr e (fr_up hp2)) (hs a o e)
      · rw [set_ints]; exact up_same
      · rw [List.length_set]; exact hml
theorem i_folded_2 {ns : List Int} {h : LH} {E : LX} {L : LK} (hl : ns.length ≤ 63) (q : ∀ (a : Addr) (ms : List Int) (h' : LH), h a = none → h' a = some (.lst (ms.map LV.int)) → ms.length ≤ 8 → Sub h h' → L (.ref a) h') : sp_l_folded_2 [.rl (ns.map .int), .int 8] h E L := ⟨ns, 8, rfl, by omega, by omega, hl, q⟩
set_option hygiene false in
local macro_rules | `(tactic| walk_at "vv") => `(tactic| ((with_reducible apply i_folded_2); (focus walk_at "sd"); intro a ms h' hna hams hmsl hsub))
def t_l_box_2 : LTS :=
  (lSeq (lAsg (lC (.int 0)) (lgName 2))
  (lSeq (lIfS (lTest (lOp gLt (lVar 1) (lCB gLen (lCons (lVar 0) lNil)))) (lAsg (lOp gIx (lVar 0) (lVar 1)) (lgName 2)) lNx)
  (lRet (lLst (lCons (lOp gMul (lCB gAbs (lCons (lVar 2) lNil)) (lCB gInt1 (lCons (lOp gGe (lCB gAbs (lCons (lVar 2) lNil)) (lOp gPow (lC (.int 10)) (lC (.int 18)))) lNil))) (lCons (lOp gMod (lOp gAdd (lVar 2) (lOp gMul (lC (.int 7919)) (lVar 1))) (lC (.int 2147483647))) (lCons (lC (.int 0)) lNil)))))))
def sp_l_box_2 : LSp := fun xs h _ L => ∃ (a : Addr) (ns : List Int) (k : Int), xs = [.ref a, .int k] ∧ h a = some (.lst (ns.map .int)) ∧ 0 ≤ k ∧ ∀ b h', h b = none → BoxU h' b → Keep b h h' → L (.ref b) h'
theorem rd_l_box_2 : ∀ xs h E L, sp_l_box_2 xs h E L → xs.length = 2 ∧ t_l_box_2 (fnE E L) (lstart 3 xs) h := by
  rintro xs h E L ⟨a, ns, k, rfl, ha, hk0, q⟩
  refine ⟨rfl, ?_⟩
  show t_l_box_2 (fnE E L) [some (.ref a), some (.int k), none] h
  refine fn_go ?_
  unfold t_l_box_2
  walk_at "st"
  refine seq_cut (fun s' h' => h' = h ∧ ∃ cell : Int, s' = [some (.ref a), some (.int k), some (.int cell)]) ?_ ?_
  · rintro s' h' ⟨rfl, cell, rfl⟩
    walk_at "go"
    refine .mk (q p _ hp ⟨_, _, 0, up_same, ?_⟩ (Keep.up Keep.refl))
    refine Int.mul_nonneg ?_ ?_ <;> split <;> omega
  · intro N hN
    walk_at "go"
    · rw [List.length_map] at hc
      obtain ⟨z, hz⟩ := ints_get hk0 hc
      refine i_ix_lst ha hz ?_
      walk_at "go"
      exact hN _ _ ⟨rfl, _, rfl⟩
    · exact hN _ _ ⟨rfl, _, rfl⟩
theorem i_box_2 {a : Addr} {ns : List Int} {k : Int} {h : LH} {E : LX} {L : LK} (ha : h a = some (.lst (ns.map .int))) (hk : 0 ≤ k) (q : ∀ b h', h b = none → BoxU h' b → Keep b h h' → L (.ref b) h') : sp_l_box_2 [.ref a, .int k] h E L := ⟨a, ns, k, rfl, ha, hk, q⟩
set_option hygiene false in
local macro_rules | `(tactic| walk_at "vv") => `(tactic| ((with_reducible apply i_box_2); (focus walk_at "hk"); (focus walk_at "sd"); intro b h' hnb hb hkp))
def t_l_take_2 : LTS :=
  (lSeq (lIfS (lTest (lOp gGt (lOp gIx (lVar 0) (lC (.int 0))) (lC (.int 0)))) (lSeq (lAsg (lCB gDivmod (lCons (lOp gIx (lVar 0) (lC (.int 0))) (lCons (lVar 1) lNil))) (lgTup 2 (lgCons (lgSub (lVar 0) (lC (.int 0))) (lgCons (lgName 2) lgNil))))
  (lRet (lVar 2))) lNx)
  (lSeq (lAsg (lOp gAdd (lOp gIx (lVar 0) (lC (.int 2))) (lC (.int 1))) (lgSub (lVar 0) (lC (.int 2))))
  (lSeq (lAsg (lOp gMod (lOp gMul (lOp gAdd (lOp gIx (lVar 0) (lC (.int 1))) (lOp gMul (lC (.int 39373)) (lOp gIx (lVar 0) (lC (.int 2))))) (lC (.int 48271))) (lC (.int 2147483647))) (lgName 3))
  (lRet (lOp gMod (lOp gFdiv (lOp gMod (lOp gMul (lVar 3) (lOp gAdd (lVar 3) (lC (.int 39373)))) (lC (.int 2147483629))) (lC (.int 64))) (lVar 1))))))
def sp_l_take_2 : LSp := fun xs h _ L => ∃ (b : Addr) (m : Int), xs = [.ref b, .int m] ∧ 1 ≤ m ∧ m < 1073741824 ∧ BoxU h b ∧ ∀ v h', 0 ≤ v → v < m → BoxU h' b → Keep b h h' → L (.int v) h'
theorem rd_l_take_2 : ∀ xs h E L, sp_l_take_2 xs h E L → xs.length = 2 ∧ t_l_take_2 (fnE E L) (lstart 4 xs) h := by
  rintro xs h E L ⟨b, m, rfl, hm, hm2, ⟨x, y, c, hb, hx⟩, q⟩
  refine ⟨rfl, ?_⟩
  show t_l_take_2 (fnE E L) [some (.ref b), some (.int m), none, none] h
  refine fn_go ?_
  unfold t_l_take_2
  walk_at "go"
  · exact .mk (q _ _ (Int.emod_nonneg _ (by omega)) (Int.emod_lt_of_pos _ (by omega)) ⟨x / m, y, c, up_same, Int.ediv_nonneg hx (by omega)⟩ Keep.refl.up)
  · exact .mk (q _ _ (Int.emod_nonneg _ (by omega)) (Int.emod_lt_of_pos _ (by omega)) ⟨x, y, c + 1, up_same, hx⟩ Keep.refl.up)
theorem i_take_2 {b : Addr} {m : Int} {h : LH} {E : LX} {L : LK} (hb : BoxU h b) (hm : 1 ≤ m ∧ m < 1073741824) (q : ∀ v h', 0 ≤ v → v < m → BoxU h' b → Keep b h h' → L (.int v) h') : sp_l_take_2 [.ref b, .int m] h E L := ⟨b, m, rfl, hm.1, hm.2, hb, q⟩
set_option hygiene false in
local macro_rules | `(tactic| walk_at "vv") => `(tactic| ((with_reducible apply i_take_2); (focus walk_at "bx"); (focus walk_at "sd"); intro v h' hv0 hv1 hb hkp))
def t_l_odd_1 (c0 : LSp) : LTS :=
  (lSeq (lAsg (lLst (lCons (lC .non) (lCons (lC (.bl true)) (lCons (lC (.bl false)) (lCons (lUn gNeg (lC (.int 1))) (lCons (lC (.int 16)) (lCons (lC (.int 1000)) (lCons (lC (.str "a")) (lCons (lC (.str "")) (lCons (lTup lNil) (lCons (lLst lNil) (lCons (lTup (lCons (lC (.int 0)) lNil)) (lCons (lLst (lCons (lC (.int 1)) lNil)) (lCons (lC (.int 7)) (lCons (lC (.str "0123")) (lCons (lOp gPow (lC (.int 10)) (lC (.int 20))) (lCons (lTup (lCons (lC (.bl true)) lNil)) lNil))))))))))))))))) (lgName 1))
  (lRet (lOp gIx (lVar 1) (lCall c0 (lCons (lVar 0) (lCons (lC (.int 16)) lNil))))))
def sp_l_odd_1 : LSp := fun xs h _ L => ∃ (b : Addr), xs = [.ref b] ∧ BoxU h b ∧ ∀ x h', BoxU h' b → Thing h' x → Keep b h h' → L x h'
theorem rd_l_odd_1 : ∀ xs h E L, sp_l_odd_1 xs h E L → xs.length = 1 ∧ t_l_odd_1 sp_l_take_2 (fnE E L) (lstart 2 xs) h := by
  rintro xs h E L ⟨b, rfl, hb, q⟩
  refine ⟨rfl, ?_⟩
  show t_l_odd_1 _ (fnE E L) [some (.ref b), none] h
  refine fn_go ?_
  unfold t_l_odd_1
  walk_at "go"
  apply i_ix_any (fun x => Thing h' x)
  · walk_at "hk"
  · walk_at "sd"
  · walk_at "sd"
  · intro x hx
    simp only [List.mem_cons, List.not_mem_nil, or_false] at hx
    have pl : ∀ x : LV, Told h' x → (∀ xs, x ≠ .tup xs) → Thing h' x := fun x t n => ⟨t, fun xs e => absurd e (n xs)⟩
    have tp : ∀ xs : List LV, xs.length ≤ 100000 → (∀ y ∈ xs, Told h' y) → Thing h' (.tup xs) := fun xs hl ht => ⟨⟨_, rfl⟩, fun ys e => by cases e; exact ⟨hl, ht⟩⟩
    rcases hx with rfl | rfl | rfl | rfl | rfl | rfl | rfl | rfl | rfl | rfl | rfl | rfl | rfl | rfl | rfl | rfl
    all_goals first
      | exact pl _ ⟨_, rfl⟩ (fun _ e => LV.noConfusion e)
      | exact pl _ ⟨_, lty_lst (by walk_at "hk")⟩ (fun _ e => LV.noConfusion e)
      | exact tp _ (by decide) (fun y hy => absurd hy (List.not_mem_nil))
      | exact tp _ (by decide) (fun y hy => by rw [List.mem_singleton.mp hy]; exact ⟨_, rfl⟩)
  · intro x hx
    exact .mk (q _ _ hb hx (by walk_at "kp"))
theorem i_odd_1 {b : Addr} {h : LH} {E : LX} {L : LK} (hb : BoxU h b) (q : ∀ x h', BoxU h' b → Thing h' x → Keep b h h' → L x h') : sp_l_odd_1 [.ref b] h E L := ⟨b, rfl, hb, q⟩
set_option hygiene false in
local macro_rules | `(tactic| walk_at "vv") => `(tactic| ((with_reducible apply i_odd_1); (focus walk_at "bx"); intro x h' hb hth hkp))
def t_l_thing_1 (c0 c1 : LSp) : LTS :=
  (lSeq (lAsg (lOp gIx (lLst (lCons (lC (.int 0)) (lCons (lC (.int 1)) (lCons (lC (.int 2)) (lCons (lC (.int 4)) (lCons (lC (.int 7)) (lCons (lC (.int 8)) (lCons (lC (.int 9)) (lCons (lC (.int 10)) lNil))))))))) (lCall c0 (lCons (lVar 0) (lCons (lC (.int 8)) lNil)))) (lgName 1))
  (lSeq (lAsg (lLc (liRng1 (lCons (lVar 1) lNil)) (.nm 4) lYes (lOp gIx (lLst (lCons (lC (.int 0)) (lCons (lC (.int 15)) (lCons (lCall c0 (lCons (lVar 0) (lCons (lC (.int 16)) lNil))) (lCons (lCall c0 (lCons (lVar 0) (lCons (lC (.int 16)) lNil))) lNil))))) (lCall c0 (lCons (lVar 0) (lCons (lC (.int 4)) lNil)))) [4]) (lgName 2))
  (lSeq (lAsg (lCall c0 (lCons (lVar 0) (lCons (lC (.int 6)) lNil))) (lgName 3))
  (lSeq (lIfS (lTest (lOp gEq (lVar 3) (lC (.int 0)))) (lRet (lVar 2)) lNx)
  (lSeq (lIfS (lAnd (lTest (lOp gEq (lVar 3) (lC (.int 1)))) (lTest (lOp gGt (lVar 1) (lC (.int 0))))) (lAsg (lCall c1 (lCons (lVar 0) lNil)) (lgSub (lVar 2) (lCall c0 (lCons (lVar 0) (lCons (lVar 1) lNil))))) lNx)
  (lSeq (lIfS (lAnd (lTest (lOp gEq (lVar 3) (lC (.int 2)))) (lTest (lOp gGt (lVar 1) (lC (.int 0))))) (lAsg (lOp gIx (lLst (lCons (lUn gNeg (lC (.int 1))) (lCons (lC (.int 16)) (lCons (lC (.int 17)) (lCons (lUn gNeg (lC (.int 16))) lNil))))) (lCall c0 (lCons (lVar 0) (lCons (lC (.int 4)) lNil)))) (lgSub (lVar 2) (lCall c0 (lCons (lVar 0) (lCons (lVar 1) lNil))))) lNx)
  (lRet (lCB gTuple (lCons (lVar 2) lNil)))))))))
def sp_l_thing_1 : LSp := fun xs h _ L => ∃ (b : Addr), xs = [.ref b] ∧ BoxU h b ∧ ∀ x h', BoxU h' b → Thing h' x → Keep b h h' → L x h'
theorem rd_l_thing_1 : ∀ xs h E L, sp_l_thing_1 xs h E L → xs.length = 1 ∧ t_l_thing_1 sp_l_take_2 sp_l_odd_1 (fnE E L) (lstart 5 xs) h := by
  rintro xs h E L ⟨b, rfl, hb0, q⟩
  refine ⟨rfl, ?_⟩
  show t_l_thing_1 _ _ (fnE E L) [some (.ref b), none, none, none, none] h
  refine fn_go ?_
  unfold t_l_thing_1
  walk_at "st"
  apply i_ix_any (fun x => ∃ z : Int, x = .int z ∧ 0 ≤ z ∧ z ≤ 10)
  · walk_at "hk"
  · walk_at "sd"
  · walk_at "sd"
  · intro x hx
    simp only [List.mem_cons, List.not_mem_nil, or_false] at hx
    rcases hx with rfl | rfl | rfl | rfl | rfl | rfl | rfl | rfl <;> exact ⟨_, rfl, by omega, by omega⟩
  rintro _ ⟨many, rfl, hm0, hm1⟩
  have hk1 : Keep b h h' := by walk_at "kp"
  clear hkp
  walk_at "st"
  apply lc_rng (f := fun x => [some (.ref b), some (.int many), none, none, some x]) (fun D i acc h2 => BoxU h2 b ∧ Keep b h h2 ∧ D ≠ b ∧ ∀ x ∈ acc, ∃ z : Int, x = .int z)
  · exact fun x => rfl
  · intro D hD
    exact ⟨by walk_at "bx", by walk_at "kp", by walk_at "ne", fun x hx => absurd hx (List.not_mem_nil)⟩
  · rintro D i acc h2 hD hi hl ha ⟨hb2, hk2, hne, hacc⟩
    have hDn := Keep.non hk1 hne hD
    walk_at "go"
    apply i_ix_any (fun x => ∃ z : Int, x = .int z)
    · walk_at "hk"
    · walk_at "sd"
    · walk_at "sd"
    · intro x hx
      simp only [List.mem_cons, List.not_mem_nil, or_false] at hx
      rcases hx with rfl | rfl | rfl | rfl <;> exact ⟨_, rfl⟩
    · rintro _ ⟨z, rfl⟩
      apply cApp.mk hl hi (by omega)
      · walk_at "hk"
      · refine ⟨by walk_at "bx", by walk_at "kp", hne, fun x hx => ?_⟩
        rcases List.mem_append.mp hx with e | e
        · exact hacc x e
        · exact ⟨z, List.mem_singleton.mp e⟩
  · rintro D acc h2 hD hl ha ⟨hb2, hk2, hne, hacc⟩
    have hDn := Keep.non hk1 hne hD
    walk_at "st"
    walk_at "st"
    · exact .mk (q _ _ hb ⟨⟨_, lty_lst (by walk_at "hk")⟩, fun _ e => LV.noConfusion e⟩ (by walk_at "kp"))
    · have hacc2 : ∀ x ∈ acc, Told h' x := fun x hx => by
        obtain ⟨z, rfl⟩ := hacc x hx
        exact ⟨_, rfl⟩
      refine seq_cut (fun s2 h3 => (∃ w, s2 = [some (.ref b), some (.int many), some (.ref D), some (.int v), w]) ∧ BoxU h3 b ∧ Keep b h h3 ∧ ∃ acc : List LV, h3 D = some (.lst acc) ∧ acc.length = many.toNat ∧ ∀ x ∈ acc, Told h3 x) ?_ ?_
      · rintro s2 h3 ⟨⟨w, rfl⟩, hb3, hk3, acc, ha, hl, hacc⟩
        refine seq_cut (fun s2 h3 => (∃ w, s2 = [some (.ref b), some (.int many), some (.ref D), some (.int v), w]) ∧ BoxU h3 b ∧ Keep b h h3 ∧ ∃ acc : List LV, h3 D = some (.lst acc) ∧ acc.length = many.toNat ∧ ∀ x ∈ acc, Told h3 x) ?_ ?_
        · rintro s2 h3 ⟨⟨w, rfl⟩, hb3, hk3, acc, ha, hl, hacc⟩
          walk_at "go"
          exact .mk (q _ _ hb3 ⟨⟨_, rfl⟩, fun ys e => by cases e; exact ⟨by omega, hacc⟩⟩ hk3)
        · intro N hN
          walk_at "go"
          any_goals exact hN _ _ ⟨⟨_, rfl⟩, hb3, hk3, acc, ha, hl, hacc⟩
          apply i_ix_any (fun x => ∃ z : Int, x = .int z)
          · walk_at "hk"
          · walk_at "sd"
          · walk_at "sd"
          · intro x hx
            simp only [List.mem_cons, List.not_mem_nil, or_false] at hx
            rcases hx with rfl | rfl | rfl | rfl <;> exact ⟨_, rfl⟩
          rintro _ ⟨z, rfl⟩
          have hkA : Keep b h3 h' := by walk_at "kp"
          have haA : h' D = some (.lst acc) := hkA _ _ hne ha
          walk_at "go"
          apply i_setL
          · walk_at "hk"
          · exact ixN_of hv0 (by omega)
          · have hkB := hkA.trans hkp
            exact hN _ _ ⟨⟨_, rfl⟩, by walk_at "bx", by walk_at "kp", _, up_same, by rw [List.length_set]; exact hl, told_set ⟨_, rfl⟩ fun x hx => Told.up (Told.box hkB hb (hacc x hx))⟩
      · intro N hN
        walk_at "go"
        any_goals exact hN _ _ ⟨⟨_, rfl⟩, hb, by walk_at "kp", acc, by walk_at "hk", hl, hacc2⟩
        rename_i h4 hb4 hk4
        have hkA := Keep.trans hk4 hkp
        apply i_setL
        · walk_at "hk"
        · exact ixN_of hv0 (by omega)
        · exact hN _ _ ⟨⟨_, rfl⟩, by walk_at "bx", by walk_at "kp", _, up_same, by rw [List.length_set]; exact hl, told_set (Told.up (Told.box hkp hb hth.1)) fun x hx => Told.up (Told.box hkA hb (hacc2 x hx))⟩
theorem i_thing_1 {b : Addr} {h : LH} {E : LX} {L : LK} (hb : BoxU h b) (q : ∀ x h', BoxU h' b → Thing h' x → Keep b h h' → L x h') : sp_l_thing_1 [.ref b] h E L := ⟨b, rfl, hb, q⟩
set_option hygiene false in
local macro_rules | `(tactic| walk_at "vv") => `(tactic| ((with_reducible apply i_thing_1); (focus walk_at "bx"); intro x h' hb hth hkp))
def t_is_digit_1 : LTS :=
  (lRet (lAndV (lCB gIsi (lCons (lVar 0) (lCons (lC (.ty "int")) lNil))) (lAndV (lNotV (lCB gIsi (lCons (lVar 0) (lCons (lC (.ty "bool")) lNil)))) (lChain gLe gLt (lC (.int 0)) (lVar 0) (lC (.int 16))))))
def sp_is_digit_1 : LSp := fun xs h _ L => ∃ x, xs = [x] ∧ Told h x ∧ L (.bl (isDig x)) h
theorem rd_is_digit_1 : ∀ xs h E L, sp_is_digit_1 xs h E L → xs.length = 1 ∧ t_is_digit_1 (fnE E L) (lstart 1 xs) h := by
  rintro xs h E L ⟨x, rfl, hx, q⟩
  refine ⟨rfl, ?_⟩
  show t_is_digit_1 (fnE E L) [some x] h
  refine fn_go ?_
  unfold t_is_digit_1
  rcases hx.split with rfl | ⟨b, rfl⟩ | ⟨i, rfl⟩ | ⟨z, rfl⟩ | ⟨z, rfl⟩ | ⟨z, rfl⟩ | ⟨a, z, rfl, ha⟩ | ⟨a, z, rfl, ha⟩
  · walk_at "go"; exact .mk q
  · walk_at "go"; exact .mk q
  · unfold isDig at q
    dsimp only at q
    walk_at "go"
    all_goals first
      | (rw [decide_eq_true (p := 0 ≤ i) (by omega)] at q; exact .mk q)
      | (rw [decide_eq_false (p := 0 ≤ i) (by omega)] at q; exact .mk q)
  · walk_at "go"; exact .mk q
  · walk_at "go"; exact .mk q
  · walk_at "go"; exact .mk q
  · walk_at "go"; exact .mk q
  · walk_at "go"; exact .mk q
theorem i_is_digit_1 {x : LV} {h : LH} {E : LX} {L : LK} (hx : Told h x) (q : L (.bl (isDig x)) h) : sp_is_digit_1 [x] h E L := ⟨x, rfl, hx, q⟩
local macro_rules | `(tactic| walk_at "vv") => `(tactic| ((with_reducible apply i_is_digit_1); (focus with_reducible assumption)))
def t_is_key_1 (c0 : LSp) : LTS :=
  (lSeq (lIfS (lOr (lNot (lTru (lCB gIsi (lCons (lVar 0) (lCons (lC (.ty "tuple")) lNil))))) (lNot (lTest (lChain gLe gLe (lC (.int 1)) (lCB gLen (lCons (lVar 0) lNil)) (lC (.int 8)))))) (lRet (lC (.bl false))) lNx)
  (lRet (lCB gAll (lCons (lLc (liSeq (lVar 0)) (.nm 1) lYes (lCall c0 (lCons (lVar 1) lNil)) [1]) lNil))))
def sp_is_key_1 : LSp := fun xs h _ L => ∃ x, xs = [x] ∧ Thing h x ∧ L (.bl (isKey x)) h
theorem rd_is_key_1 : ∀ xs h E L, sp_is_key_1 xs h E L → xs.length = 1 ∧ t_is_key_1 sp_is_digit_1 (fnE E L) (lstart 2 xs) h := by
  rintro xs h E L ⟨x, rfl, ⟨hx, hy⟩, q⟩
  refine ⟨rfl, ?_⟩
  show t_is_key_1 _ (fnE E L) [some x, none] h
  refine fn_go ?_
  unfold t_is_key_1
  rcases hx.split with rfl | ⟨b, rfl⟩ | ⟨i, rfl⟩ | ⟨z, rfl⟩ | ⟨ys, rfl⟩ | ⟨z, rfl⟩ | ⟨a, z, rfl, ha⟩ | ⟨a, z, rfl, ha⟩
  · walk_at "go"; exact .mk q
  · walk_at "go"; exact .mk q
  · walk_at "go"; exact .mk q
  · walk_at "go"; exact .mk q
  · obtain ⟨hl, hy⟩ := hy ys rfl
    unfold isKey at q
    dsimp only at q
    have fin : ∀ c : Bool, c = (decide (1 ≤ ys.length) && (decide (ys.length ≤ 8) && ys.all isDig)) → Dn (L (.bl c)) h := fun c e => .mk (by rw [e]; exact q)
    walk_at "go"
    all_goals first
      | (refine fin _ ?_
         first
           | (rw [decide_eq_false (p := ys.length ≤ 8) (by omega), Bool.false_and, Bool.and_false]; done)
           | (rw [decide_eq_false (p := 1 ≤ ys.length) (by omega), Bool.false_and]; done))
      | (apply lc_mapS (fun x => .bl (isDig x))
         · exact fun x => rfl
         · exact hl
         · intro x h' K hm hs k
           have ht := (hy x hm).sub hs
           simp only [lwipe, List.set_cons_zero, List.set_cons_succ]
           walk_at "go"
           exact k
         · intro D hD
           walk_at "go"
           refine i_bls (bs := ys.map isDig) ?_ ?_
           · rw [List.map_map]
             exact lstOf_lst up_same
           · refine Dn.fresh hD (fin _ ?_)
             rw [decide_eq_true (p := 1 ≤ ys.length) (by omega), decide_eq_true (p := ys.length ≤ 8) (by omega), List.all_map]
             rfl)
  · walk_at "go"; exact .mk q
  · walk_at "go"; exact .mk q
  · walk_at "go"; exact .mk q
theorem i_is_key_1 {x : LV} {h : LH} {E : LX} {L : LK} (hx : Thing h x) (q : L (.bl (isKey x)) h) : sp_is_key_1 [x] h E L := ⟨x, rfl, hx, q⟩
local macro_rules | `(tactic| walk_at "vv") => `(tactic| ((with_reducible apply i_is_key_1); (focus with_reducible assumption)))
def t_l_due_3 : LTS :=
  (lSeq (lIfS (lOr (lNot (lTru (lCB gIsi (lCons (lVar 0) (lCons (lC (.ty "tuple")) lNil))))) (lOr (lTest (lOp gLt (lCB gLen (lCons (lVar 0) lNil)) (lC (.int 1)))) (lTest (lOp gGt (lCB gLen (lCons (lVar 0) lNil)) (lC (.int 8)))))) (lRet (lC (.bl false))) lNx)
  (lSeq (lFor (liSeq (lVar 0)) (lgName 1) (lIfS (lOr (lTru (lCB gIsi (lCons (lVar 1) (lCons (lC (.ty "bool")) lNil)))) (lOr (lNot (lTru (lCB gIsi (lCons (lVar 1) (lCons (lC (.ty "int")) lNil))))) (lOr (lTest (lOp gLt (lVar 1) (lC (.int 0)))) (lTest (lOp gGt (lVar 1) (lC (.int 15))))))) (lRet (lC (.bl false))) lNx))
  (lRet (lC (.bl true)))))
def sp_l_due_3 : LSp := fun xs h _ L => ∃ x, xs = [x] ∧ Thing h x ∧ L (.bl (isKey x)) h
theorem rd_l_due_3 : ∀ xs h E L, sp_l_due_3 xs h E L → xs.length = 1 ∧ t_l_due_3 (fnE E L) (lstart 2 xs) h := by
  rintro xs h E L ⟨x, rfl, ⟨hx, hy⟩, q⟩
  refine ⟨rfl, ?_⟩
  show t_l_due_3 (fnE E L) [some x, none] h
  refine fn_go ?_
  unfold t_l_due_3
  rcases hx.split with rfl | ⟨b, rfl⟩ | ⟨i, rfl⟩ | ⟨z, rfl⟩ | ⟨ys, rfl⟩ | ⟨z, rfl⟩ | ⟨a, z, rfl, ha⟩ | ⟨a, z, rfl, ha⟩
  · walk_at "go"; exact .mk q
  · walk_at "go"; exact .mk q
  · walk_at "go"; exact .mk q
  · walk_at "go"; exact .mk q
  · obtain ⟨hl, hy⟩ := hy ys rfl
    unfold isKey at q
    dsimp only at q
    have fin : ∀ c : Bool, c = (decide (1 ≤ ys.length) && (decide (ys.length ≤ 8) && ys.all isDig)) → Dn (L (.bl c)) h := fun c e => .mk (by rw [e]; exact q)
    walk_at "go"
    all_goals first
      | (refine fin _ ?_
         first
           | (rw [decide_eq_false (p := ys.length ≤ 8) (by omega), Bool.false_and, Bool.and_false]; done)
           | (rw [decide_eq_false (p := 1 ≤ ys.length) (by omega), Bool.false_and]; done))
      | skip
    refine for_st (fun i s' h' => h' = h ∧ (∃ w, s' = [some (.tup ys), w]) ∧ (ys.take i).all isDig = true) ⟨rfl, ⟨_, rfl⟩, rfl⟩ ?_ ?_
    · rintro s' h' ⟨rfl, ⟨w, rfl⟩, ht⟩
      walk_at "go"
      refine fin _ ?_
      rw [List.take_length] at ht
      rw [decide_eq_true (p := 1 ≤ ys.length) (by omega), decide_eq_true (p := ys.length ≤ 8) (by omega), ht]
      rfl
    · rintro i x s' h' hi ⟨rfl, ⟨w, rfl⟩, ht⟩
      have hm := List.mem_of_getElem? hi
      have htx := hy x hm
      have no : isDig x = false → Dn (L (.bl false)) h' := fun e => fin _ (by
        have ha : ys.all isDig = false := by
          rw [Bool.eq_false_iff]
          intro h
          have := List.all_eq_true.mp h x hm
          rw [e] at this
          cases this
        rw [ha, Bool.and_false, Bool.and_false])
      have yes : isDig x = true → (ys.take (i + 1)).all isDig = true := fun e => by
        have hlt := (List.getElem?_eq_some_iff.mp hi)
        obtain ⟨hlt, ex⟩ := hlt
        rw [List.take_succ_eq_append_getElem hlt, List.all_append, ht, ex]
        simp [e]
      rcases htx.split with rfl | ⟨b, rfl⟩ | ⟨j, rfl⟩ | ⟨z, rfl⟩ | ⟨z, rfl⟩ | ⟨z, rfl⟩ | ⟨a, z, rfl, ha⟩ | ⟨a, z, rfl, ha⟩ <;> walk_at "go"
      all_goals first
        | exact no rfl
        | (refine no ?_
           show (decide (0 ≤ j) && decide (j < 16)) = false
           first
             | (rw [decide_eq_false (p := 0 ≤ j) (by omega)]; rfl)
             | (rw [decide_eq_false (p := j < 16) (by omega), Bool.and_false]))
        | (refine ⟨rfl, ⟨_, rfl⟩, yes ?_⟩
           show (decide (0 ≤ j) && decide (j < 16)) = true
           rw [decide_eq_true (p := 0 ≤ j) (by omega), decide_eq_true (p := j < 16) (by omega)]
           rfl)
  · walk_at "go"; exact .mk q
  · walk_at "go"; exact .mk q
  · walk_at "go"; exact .mk q
theorem i_due_3 {x : LV} {h : LH} {E : LX} {L : LK} (hx : Thing h x) (q : L (.bl (isKey x)) h) : sp_l_due_3 [x] h E L := ⟨x, rfl, hx, q⟩
local macro_rules | `(tactic| walk_at "vv") => `(tactic| ((with_reducible apply i_due_3); (focus with_reducible assumption)))
def t_law_3 (c0 c1 c2 c3 c4 c5 : LSp) : LTS :=
  (lSeq (lAsg (lCall c0 (lCons (lVar 0) (lCons (lC (.int 8)) lNil))) (lgName 1))
  (lSeq (lFor (liRng1 (lCons (lCB gMax2 (lCons (lC (.int 2)) (lCons (lCB gLen (lCons (lVar 1) lNil)) lNil))) lNil)) (lgName 2) (lSeq (lAsg (lCall c1 (lCons (lVar 1) (lCons (lVar 2) lNil))) (lgName 3))
  (lFor (liRng1 (lCons (lC (.int 10)) lNil)) (lgName 4) (lSeq (lAsg (lIf (lTest (lOp gEq (lVar 4) (lC (.int 9)))) (lCall c2 (lCons (lVar 3) lNil)) (lCall c3 (lCons (lVar 3) lNil))) (lgName 5))
  (lSeq (lAsg (lCall c4 (lCons (lVar 5) lNil)) (lgName 6))
  (lIfS (lOr (lNot (lTru (lCB gIsi (lCons (lVar 6) (lCons (lC (.ty "bool")) lNil))))) (lTest (lOp gNe (lVar 6) (lCall c5 (lCons (lVar 5) lNil))))) (lRet (lC (.bl false))) lNx))))))
  (lRet (lAndV (lOp (gIs id) (lCall c4 (lCons (lTup (lCons (lC (.int 0)) lNil)) lNil)) (lC (.bl true))) (lOp (gIs id) (lCall c4 (lCons (lTup lNil) lNil)) (lC (.bl false)))))))
theorem rd_law_3 : ∀ xs h E L, lspLaw xs h E L → xs.length = 1 ∧ t_law_3 sp_l_folded_2 sp_l_box_2 sp_l_odd_1 sp_l_thing_1 sp_is_key_1 sp_l_due_3 (fnE E L) (lstart 7 xs) h := by
  rintro xs h E L ⟨ns, rfl, hl, hh, q⟩
  refine ⟨rfl, ?_⟩
  show t_law_3 _ _ _ _ _ _ (fnE E L) [some (.rl (ns.map .int)), none, none, none, none, none, none] h
  refine fn_go ?_
  unfold t_law_3
  walk_at "st"
  walk_at "st"
  refine for_rng (fun _ s' h' => h' a = some (.lst (ms.map .int)) ∧ ∃ a2 a3 a4 a5 a6, s' = [some (.rl (ns.map .int)), some (.ref a), a2, a3, a4, a5, a6]) ⟨hams, _, _, _, _, _, rfl⟩ ?_ ?_
  · rintro s' h' ⟨_, a2, a3, a4, a5, a6, rfl⟩
    have t1 : Thing h' (.tup [.int 0]) := ⟨⟨_, rfl⟩, fun ys e => by cases e; exact ⟨by decide, fun y hy => by rw [List.mem_singleton.mp hy]; exact ⟨_, rfl⟩⟩⟩
    have t2 : Thing h' (.tup []) := ⟨⟨_, rfl⟩, fun ys e => by cases e; exact ⟨by decide, fun y hy => absurd hy List.not_mem_nil⟩⟩
    walk_at "go"
    · have e : decide (isKey (.tup []) = false) = true := by decide
      rw [e]
      exact .mk (q _)
    · exact absurd (by decide) hc
  · rintro i s' h' hi ⟨hams, a2, a3, a4, a5, a6, rfl⟩
    walk_at "st"
    walk_at "st"
    have hab : a ≠ b := ne_fr hams hnb
    refine for_rng (fun _ s' h' => BoxU h' b ∧ h' a = some (.lst (ms.map .int)) ∧ ∃ a4 a5 a6, s' = [some (.rl (ns.map .int)), some (.ref a), some (.int (0 + i)), some (.ref b), a4, a5, a6]) ⟨hb, hkp _ _ hab hams, _, _, _, rfl⟩ ?_ ?_
    · rintro s' h' ⟨_, hams, a4, a5, a6, rfl⟩
      exact ⟨hams, _, _, _, _, _, rfl⟩
    · rintro j s' h' hj ⟨hb, hams, a4, a5, a6, rfl⟩
      walk_at "go"
      all_goals first
        | exact absurd rfl hc
        | exact ⟨hb, hkp _ _ hab hams, _, _, _, rfl⟩
end VL


set_option Elab.async false
set_option linter.all false
set_option maxRecDepth 100000
set_option maxHeartbeats 4000000
namespace VL.Ok02
open PySem PySem.Spec PyProof.Rows L2 VL

def top (i : Nat) : Stmt := PySem.Challenge.pw_rollcode_k02_what_is_a_key.main.body.getD i (.Pass ⟨0, 0, 0, 0⟩)
abbrev s_l_folded : Stmt := top 8
theorem sc_l_folded : FnScope ["_law_script", "_law_many", "_law_cells", "_law_k", "_law_cell"] ["_law_script", "_law_many"] (defScope s_l_folded) := ⟨rfl, rfl, rfl, by decide +kernel, rfl, by decide +kernel, by decide +kernel⟩
abbrev s_l_box : Stmt := top 6
theorem sc_l_box : FnScope ["_law_script", "_law_k", "_law_cell"] ["_law_script", "_law_k"] (defScope s_l_box) := ⟨rfl, rfl, rfl, by decide +kernel, rfl, by decide +kernel, by decide +kernel⟩
abbrev s_l_take : Stmt := top 7
theorem sc_l_take : FnScope ["_law_box_here", "_law_many", "_law_found", "_law_once"] ["_law_box_here", "_law_many"] (defScope s_l_take) := ⟨rfl, rfl, rfl, by decide +kernel, rfl, by decide +kernel, by decide +kernel⟩
abbrev s_l_odd : Stmt := top 9
theorem sc_l_odd : FnScope ["_law_box_here", "_law_some"] ["_law_box_here"] (defScope s_l_odd) := ⟨rfl, rfl, rfl, by decide +kernel, rfl, by decide +kernel, by decide +kernel⟩
abbrev s_l_thing : Stmt := top 11
theorem sc_l_thing : FnScope ["_law_box_here", "_law_many", "_law_made", "_law_way", "_law_place"] ["_law_box_here"] (defScope s_l_thing) := ⟨rfl, rfl, rfl, by decide +kernel, rfl, by decide +kernel, by decide +kernel⟩
abbrev s_is_digit : Stmt := top 3
theorem sc_is_digit : FnScope ["thing"] ["thing"] (defScope s_is_digit) := ⟨rfl, rfl, rfl, by decide +kernel, rfl, by decide +kernel, by decide +kernel⟩
abbrev s_is_key : Stmt := top 4
theorem sc_is_key : FnScope ["thing", "digit"] ["thing"] (defScope s_is_key) := ⟨rfl, rfl, rfl, by decide +kernel, rfl, by decide +kernel, by decide +kernel⟩
abbrev s_l_due : Stmt := top 10
theorem sc_l_due : FnScope ["_law_thing_here", "_law_digit"] ["_law_thing_here"] (defScope s_l_due) := ⟨rfl, rfl, rfl, by decide +kernel, rfl, by decide +kernel, by decide +kernel⟩
abbrev s_law : Stmt := top 12
theorem sc_law : FnScope ["_law_script", "_law_cells", "_law_k", "_law_box_here", "_law_turn", "_law_thing_here", "_law_found"] ["_law_script"] (defScope s_law) := ⟨rfl, rfl, rfl, by decide +kernel, rfl, by decide +kernel, by decide +kernel⟩
/-- what the top has left -/
structure Tx (K : PySem.W.Frag) (mg : Str → Option Value) : Prop where
  f_abs : mg "abs" = none
  f_all : mg "all" = none
  f_bool : mg "bool" = none
  f_divmod : mg "divmod" = none
  f_enumerate : mg "enumerate" = none
  f_int : mg "int" = none
  f_isinstance : mg "isinstance" = none
  f_len : mg "len" = none
  f_list : mg "list" = none
  f_max : mg "max" = none
  f_range : mg "range" = none
  f_tuple : mg "tuple" = none
  g__law_box : mg "_law_box" = some (.ref (He.ga K "_law_box"))
  g__law_due : mg "_law_due" = some (.ref (He.ga K "_law_due"))
  g__law_folded : mg "_law_folded" = some (.ref (He.ga K "_law_folded"))
  g__law_odd : mg "_law_odd" = some (.ref (He.ga K "_law_odd"))
  g__law_take : mg "_law_take" = some (.ref (He.ga K "_law_take"))
  g__law_thing : mg "_law_thing" = some (.ref (He.ga K "_law_thing"))
  g_is_digit : mg "is_digit" = some (.ref (He.ga K "is_digit"))
  g_is_key : mg "is_key" = some (.ref (He.ga K "is_key"))
  g_law : mg "law" = some (.ref (He.ga K "law"))
  i_DIGITS : ∃ t, mg "DIGITS" = some (.int 16 t)
  i_LONGEST_KEY : ∃ t, mg "LONGEST_KEY" = some (.int 8 t)
  d_l_folded : ∃ fd, FunD K "_law_folded" "_law_folded" (defArgs s_l_folded) (defBody s_l_folded) (defScope s_l_folded) [] [] (He.fAd K ("_law_folded", none)) fd
  d_l_box : ∃ fd, FunD K "_law_box" "_law_box" (defArgs s_l_box) (defBody s_l_box) (defScope s_l_box) [] [] (He.fAd K ("_law_box", none)) fd
  d_l_take : ∃ fd, FunD K "_law_take" "_law_take" (defArgs s_l_take) (defBody s_l_take) (defScope s_l_take) [] [] (He.fAd K ("_law_take", none)) fd
  d_l_odd : ∃ fd, FunD K "_law_odd" "_law_odd" (defArgs s_l_odd) (defBody s_l_odd) (defScope s_l_odd) [] [] (He.fAd K ("_law_odd", none)) fd
  d_l_thing : ∃ fd, FunD K "_law_thing" "_law_thing" (defArgs s_l_thing) (defBody s_l_thing) (defScope s_l_thing) [] [] (He.fAd K ("_law_thing", none)) fd
  d_is_digit : ∃ fd, FunD K "is_digit" "is_digit" (defArgs s_is_digit) (defBody s_is_digit) (defScope s_is_digit) [] [] (He.fAd K ("is_digit", none)) fd
  d_is_key : ∃ fd, FunD K "is_key" "is_key" (defArgs s_is_key) (defBody s_is_key) (defScope s_is_key) [] [] (He.fAd K ("is_key", none)) fd
  d_l_due : ∃ fd, FunD K "_law_due" "_law_due" (defArgs s_l_due) (defBody s_l_due) (defScope s_l_due) [] [] (He.fAd K ("_law_due", none)) fd
  d_law : ∃ fd, FunD K "law" "law" (defArgs s_law) (defBody s_law) (defScope s_law) [] [] (He.fAd K ("law", none)) fd
section
variable {P : Program} {w : World} {K : PySem.W.Frag} {mg : Str → Option Value} {base : Heap}
theorem ok_l_folded (T : Tx K mg) : LOk P w K mg base 1 ("_law_folded", none) ["_law_script", "_law_many"] sp_l_folded_2 := by
  refine fn_bodyO T.d_l_folded sc_l_folded (l := t_l_folded_2) rd_l_folded_2 (fun _ _ _ _ _ _ us hl => match us, hl with | [_, _], _ => rfl) fun cdv A outer s H E hr => ?_
  have tk := takes_of_body (P := P) (w := w) (K := K) (mg := mg) (base := base) (N := ["_law_script", "_law_many", "_law_cells", "_law_k", "_law_cell"]) (qual := "_law_folded") (scope := defScope s_l_folded) (f := He.fAd K ("_law_folded", none)) (cd := cdv) (A := A) (outer := outer) (s := s) (H := H) (E := E)
  have hp := passes_body (P := P) (w := w) (K := K) (mg := mg) (base := base) (N := ["_law_script", "_law_many", "_law_cells", "_law_k", "_law_cell"]) (qual := "_law_folded") (scope := defScope s_l_folded) (f := He.fAd K ("_law_folded", none)) (cd := cdv) (A := A) (outer := outer) (s := s) (H := H) (E := E)
  have hu64 := hr.units
  have hu65 := hu65_of hr
  have hu1 := hu_of hr
  have nd := (sc_l_folded).nd
  exact (lss_cons (ls_set 2 nd (le_callT call_list_of src_list (by decide +kernel) T.f_list (la_cons (le_slice (le_v 0) lo_none (lo_some (le_v 1))) la_nil)))
  (lss_cons (ls_for hp rfl (li_enumL T.f_enumerate (le_slice (le_v 0) (lo_some (le_v 1)) (lo_some le_int))) (lg_tup rfl (lgs_cons (lg_name 3 nd) (lgs_cons (lg_name 4 nd) lgs_nil))) (lss_one (ls_asg (le_add (le_ix hu1 (le_v 2) (le_mod (le_v 3) (le_v 1))) (le_mul (le_v 4) (le_add (le_v 3) le_int))) (lg_sub hu1 (le_v 2) (le_mod (le_v 3) (le_v 1))))))
  (lss_one (ls_ret (le_v 2)))))
theorem ok_l_box (T : Tx K mg) : LOk P w K mg base 1 ("_law_box", none) ["_law_script", "_law_k"] sp_l_box_2 := by
  refine fn_bodyO T.d_l_box sc_l_box (l := t_l_box_2) rd_l_box_2 (fun _ _ _ _ _ _ us hl => match us, hl with | [_, _], _ => rfl) fun cdv A outer s H E hr => ?_
  have tk := takes_of_body (P := P) (w := w) (K := K) (mg := mg) (base := base) (N := ["_law_script", "_law_k", "_law_cell"]) (qual := "_law_box") (scope := defScope s_l_box) (f := He.fAd K ("_law_box", none)) (cd := cdv) (A := A) (outer := outer) (s := s) (H := H) (E := E)
  have hp := passes_body (P := P) (w := w) (K := K) (mg := mg) (base := base) (N := ["_law_script", "_law_k", "_law_cell"]) (qual := "_law_box") (scope := defScope s_l_box) (f := He.fAd K ("_law_box", none)) (cd := cdv) (A := A) (outer := outer) (s := s) (H := H) (E := E)
  have hu64 := hr.units
  have hu65 := hu65_of hr
  have hu1 := hu_of hr
  have nd := (sc_l_box).nd
  exact (lss_cons (ls_set 2 nd le_int)
  (lss_cons (ls_if (lt_lt  (le_v 1) (le_callB call_len4 src_len (by decide +kernel) T.f_len (la_cons (le_v 0) la_nil))) (lss_one (ls_set 2 nd (le_ix hu1 (le_v 0) (le_v 1)))) lss_nil)
  (lss_one (ls_ret (le_lst (la_cons (le_mul (le_callB call_abs src_abs (by decide +kernel) T.f_abs (la_cons (le_v 2) la_nil)) (le_callT call_int1 src_int1 (by decide +kernel) T.f_int (la_cons (le_ge  (le_callB call_abs src_abs (by decide +kernel) T.f_abs (la_cons (le_v 2) la_nil)) (le_pow le_int le_int)) la_nil))) (la_cons (le_mod (le_add (le_v 2) (le_mul le_int (le_v 1))) le_int) (la_cons le_int la_nil))))))))
theorem ok_l_take (T : Tx K mg) : LOk P w K mg base 1 ("_law_take", none) ["_law_box_here", "_law_many"] sp_l_take_2 := by
  refine fn_bodyO T.d_l_take sc_l_take (l := t_l_take_2) rd_l_take_2 (fun _ _ _ _ _ _ us hl => match us, hl with | [_, _], _ => rfl) fun cdv A outer s H E hr => ?_
  have tk := takes_of_body (P := P) (w := w) (K := K) (mg := mg) (base := base) (N := ["_law_box_here", "_law_many", "_law_found", "_law_once"]) (qual := "_law_take") (scope := defScope s_l_take) (f := He.fAd K ("_law_take", none)) (cd := cdv) (A := A) (outer := outer) (s := s) (H := H) (E := E)
  have hp := passes_body (P := P) (w := w) (K := K) (mg := mg) (base := base) (N := ["_law_box_here", "_law_many", "_law_found", "_law_once"]) (qual := "_law_take") (scope := defScope s_l_take) (f := He.fAd K ("_law_take", none)) (cd := cdv) (A := A) (outer := outer) (s := s) (H := H) (E := E)
  have hu64 := hr.units
  have hu65 := hu65_of hr
  have hu1 := hu_of hr
  have nd := (sc_l_take).nd
  exact (lss_cons (ls_if (lt_gt  (le_ix hu1 (le_v 0) le_int) le_int) (lss_cons (ls_asg (le_callB call_divmod src_divmod (by decide +kernel) T.f_divmod (la_cons (le_ix hu1 (le_v 0) le_int) (la_cons (le_v 1) la_nil))) (lg_tup rfl (lgs_cons (lg_sub hu1 (le_v 0) le_int) (lgs_cons (lg_name 2 nd) lgs_nil))))
  (lss_one (ls_ret (le_v 2)))) lss_nil)
  (lss_cons (ls_asg (le_add (le_ix hu1 (le_v 0) le_int) le_int) (lg_sub hu1 (le_v 0) le_int))
  (lss_cons (ls_set 3 nd (le_mod (le_mul (le_add (le_ix hu1 (le_v 0) le_int) (le_mul le_int (le_ix hu1 (le_v 0) le_int))) le_int) le_int))
  (lss_one (ls_ret (le_mod (le_fdiv (le_mod (le_mul (le_v 3) (le_add (le_v 3) le_int)) le_int) le_int) (le_v 1)))))))
theorem ok_l_odd (T : Tx K mg) : LOk P w K mg base 2 ("_law_odd", none) ["_law_box_here"] sp_l_odd_1 := by
  refine fn_bodyO T.d_l_odd sc_l_odd (l := t_l_odd_1 sp_l_take_2) rd_l_odd_1 (fun _ _ _ _ _ _ us hl => match us, hl with | [_], _ => rfl) fun cdv A outer s H E hr => ?_
  have tk := takes_of_body (P := P) (w := w) (K := K) (mg := mg) (base := base) (N := ["_law_box_here", "_law_some"]) (qual := "_law_odd") (scope := defScope s_l_odd) (f := He.fAd K ("_law_odd", none)) (cd := cdv) (A := A) (outer := outer) (s := s) (H := H) (E := E)
  have hp := passes_body (P := P) (w := w) (K := K) (mg := mg) (base := base) (N := ["_law_box_here", "_law_some"]) (qual := "_law_odd") (scope := defScope s_l_odd) (f := He.fAd K ("_law_odd", none)) (cd := cdv) (A := A) (outer := outer) (s := s) (H := H) (E := E)
  have hu64 := hr.units
  have hu65 := hu65_of hr
  have hu1 := hu_of hr
  have nd := (sc_l_odd).nd
  have F_l_take := ok_l_take (P := P) (w := w) (base := base) T
  exact (lss_cons (ls_set 1 nd (le_lst (la_cons le_non (la_cons le_bl (la_cons le_bl (la_cons (le_neg le_int) (la_cons le_int (la_cons le_int (la_cons le_str (la_cons le_str (la_cons (le_tup la_nil) (la_cons (le_lst la_nil) (la_cons (le_tup (la_cons le_int la_nil)) (la_cons (le_lst (la_cons le_int la_nil)) (la_cons le_int (la_cons le_str (la_cons (le_pow le_int le_int) (la_cons (le_tup (la_cons le_bl la_nil)) la_nil))))))))))))))))))
  (lss_one (ls_ret (le_ix hu1 (le_v 1) (le_callO F_l_take T.g__law_take (hr.mono (by omega)) tk (la_cons (le_v 0) (la_cons le_int la_nil)))))))
theorem ok_l_thing (T : Tx K mg) : LOk P w K mg base 3 ("_law_thing", none) ["_law_box_here"] sp_l_thing_1 := by
  refine fn_bodyO T.d_l_thing sc_l_thing (l := t_l_thing_1 sp_l_take_2 sp_l_odd_1) rd_l_thing_1 (fun _ _ _ _ _ _ us hl => match us, hl with | [_], _ => rfl) fun cdv A outer s H E hr => ?_
  have tk := takes_of_body (P := P) (w := w) (K := K) (mg := mg) (base := base) (N := ["_law_box_here", "_law_many", "_law_made", "_law_way", "_law_place"]) (qual := "_law_thing") (scope := defScope s_l_thing) (f := He.fAd K ("_law_thing", none)) (cd := cdv) (A := A) (outer := outer) (s := s) (H := H) (E := E)
  have hp := passes_body (P := P) (w := w) (K := K) (mg := mg) (base := base) (N := ["_law_box_here", "_law_many", "_law_made", "_law_way", "_law_place"]) (qual := "_law_thing") (scope := defScope s_l_thing) (f := He.fAd K ("_law_thing", none)) (cd := cdv) (A := A) (outer := outer) (s := s) (H := H) (E := E)
  have hu64 := hr.units
  have hu65 := hu65_of hr
  have hu1 := hu_of hr
  have nd := (sc_l_thing).nd
  have F_l_take := ok_l_take (P := P) (w := w) (base := base) T
  have F_l_odd := ok_l_odd (P := P) (w := w) (base := base) T
  exact (lss_cons (ls_set 1 nd (le_ix hu1 (le_lst (la_cons le_int (la_cons le_int (la_cons le_int (la_cons le_int (la_cons le_int (la_cons le_int (la_cons le_int (la_cons le_int la_nil))))))))) (le_callO F_l_take T.g__law_take (hr.mono (by omega)) tk (la_cons (le_v 0) (la_cons le_int la_nil)))))
  (lss_cons (ls_setLc 2 [("_law_place", 4)] (.nm 4) rfl nd (li_range1 T.f_range (la_cons (le_v 1) la_nil)) (by dsimp only [cxOf, envOfC]; decide +kernel) (fun _ _ _ _ _ => pg_name (i := 4) nd rfl (Or.inl rfl)) (fun _ _ _ _ _ => lts_nil) (fun _ _ _ _ _ => (le_ix hu1 (le_lst (la_cons le_int (la_cons le_int (la_cons (le_callO F_l_take T.g__law_take (hr.mono (by omega)) takes0 (la_cons (le_v 0) (la_cons le_int la_nil))) (la_cons (le_callO F_l_take T.g__law_take (hr.mono (by omega)) takes0 (la_cons (le_v 0) (la_cons le_int la_nil))) la_nil))))) (le_callO F_l_take T.g__law_take (hr.mono (by omega)) takes0 (la_cons (le_v 0) (la_cons le_int la_nil))))))
  (lss_cons (ls_set 3 nd (le_callO F_l_take T.g__law_take (hr.mono (by omega)) tk (la_cons (le_v 0) (la_cons le_int la_nil))))
  (lss_cons (ls_if (lt_eq hu64 (le_v 3) le_int) (lss_one (ls_ret (le_v 2))) lss_nil)
  (lss_cons (ls_if (lw_t (lw_and (lt_eq hu64 (le_v 3) le_int) (lw_and1 (lt_gt  (le_v 1) le_int)))) (lss_one (ls_asg (le_callO F_l_odd T.g__law_odd (hr.mono (by omega)) tk (la_cons (le_v 0) la_nil)) (lg_sub hu1 (le_v 2) (le_callO F_l_take T.g__law_take (hr.mono (by omega)) tk (la_cons (le_v 0) (la_cons (le_v 1) la_nil)))))) lss_nil)
  (lss_cons (ls_if (lw_t (lw_and (lt_eq hu64 (le_v 3) le_int) (lw_and1 (lt_gt  (le_v 1) le_int)))) (lss_one (ls_asg (le_ix hu1 (le_lst (la_cons (le_neg le_int) (la_cons le_int (la_cons le_int (la_cons (le_neg le_int) la_nil))))) (le_callO F_l_take T.g__law_take (hr.mono (by omega)) tk (la_cons (le_v 0) (la_cons le_int la_nil)))) (lg_sub hu1 (le_v 2) (le_callO F_l_take T.g__law_take (hr.mono (by omega)) tk (la_cons (le_v 0) (la_cons (le_v 1) la_nil)))))) lss_nil)
  (lss_one (ls_ret (le_callT call_tuple_of src_tuple (by decide +kernel) T.f_tuple (la_cons (le_v 2) la_nil))))))))))
theorem ok_is_digit (T : Tx K mg) : LOk P w K mg base 1 ("is_digit", none) ["thing"] sp_is_digit_1 := by
  refine fn_bodyO T.d_is_digit sc_is_digit (l := t_is_digit_1) rd_is_digit_1 (fun _ _ _ _ _ _ us hl => match us, hl with | [_], _ => rfl) fun cdv A outer s H E hr => ?_
  have tk := takes_of_body (P := P) (w := w) (K := K) (mg := mg) (base := base) (N := ["thing"]) (qual := "is_digit") (scope := defScope s_is_digit) (f := He.fAd K ("is_digit", none)) (cd := cdv) (A := A) (outer := outer) (s := s) (H := H) (E := E)
  have hp := passes_body (P := P) (w := w) (K := K) (mg := mg) (base := base) (N := ["thing"]) (qual := "is_digit") (scope := defScope s_is_digit) (f := He.fAd K ("is_digit", none)) (cd := cdv) (A := A) (outer := outer) (s := s) (H := H) (E := E)
  have hu64 := hr.units
  have hu65 := hu65_of hr
  have hu1 := hu_of hr
  have nd := (sc_is_digit).nd
  exact (lss_one (ls_ret (le_and (le_callB call_isi2 src_isi (by decide +kernel) T.f_isinstance (la_cons (le_v 0) (la_cons (le_bty T.f_int (by decide +kernel)) la_nil))) (le_and (le_not (le_callB call_isi2 src_isi (by decide +kernel) T.f_isinstance (la_cons (le_v 0) (la_cons (le_bty T.f_bool (by decide +kernel)) la_nil)))) (le_one (le_chain op_le op_lt sr_cmp sr_cmp le_int (le_v 0) (le_gint T.i_DIGITS)))))))
theorem ok_is_key (T : Tx K mg) : LOk P w K mg base 2 ("is_key", none) ["thing"] sp_is_key_1 := by
  refine fn_bodyO T.d_is_key sc_is_key (l := t_is_key_1 sp_is_digit_1) rd_is_key_1 (fun _ _ _ _ _ _ us hl => match us, hl with | [_], _ => rfl) fun cdv A outer s H E hr => ?_
  have tk := takes_of_body (P := P) (w := w) (K := K) (mg := mg) (base := base) (N := ["thing", "digit"]) (qual := "is_key") (scope := defScope s_is_key) (f := He.fAd K ("is_key", none)) (cd := cdv) (A := A) (outer := outer) (s := s) (H := H) (E := E)
  have hp := passes_body (P := P) (w := w) (K := K) (mg := mg) (base := base) (N := ["thing", "digit"]) (qual := "is_key") (scope := defScope s_is_key) (f := He.fAd K ("is_key", none)) (cd := cdv) (A := A) (outer := outer) (s := s) (H := H) (E := E)
  have hu64 := hr.units
  have hu65 := hu65_of hr
  have hu1 := hu_of hr
  have nd := (sc_is_key).nd
  have F_is_digit := ok_is_digit (P := P) (w := w) (base := base) T
  exact (lss_cons (ls_if (lw_t (lw_or (lt_not (lt_truth (le_callB call_isi2 src_isi (by decide +kernel) T.f_isinstance (la_cons (le_v 0) (la_cons (le_bty T.f_tuple (by decide +kernel)) la_nil))))) (lw_or1 (lt_not (lt_chain op_le op_le sr_cmp sr_cmp le_int (le_callB call_len4 src_len (by decide +kernel) T.f_len (la_cons (le_v 0) la_nil)) (le_gint T.i_LONGEST_KEY)))))) (lss_one (ls_ret le_bl)) lss_nil)
  (lss_one (ls_ret (le_callB (cr_all rfl) src_bls (by decide +kernel) T.f_all (la_cons (le_lc [("digit", 1)] (.nm 1) rfl nd (li_seq (le_v 0)) (by dsimp only [cxOf, envOfC]; decide +kernel) (fun _ _ _ _ _ => pg_name (i := 1) nd rfl (Or.inl rfl)) (fun _ _ _ _ _ => lts_nil) (fun _ _ _ _ _ => (le_callO F_is_digit T.g_is_digit (hr.mono (by omega)) takes0 (la_cons (le_v 1) la_nil)))) la_nil)))))
theorem ok_l_due (T : Tx K mg) : LOk P w K mg base 1 ("_law_due", none) ["_law_thing_here"] sp_l_due_3 := by
  refine fn_bodyO T.d_l_due sc_l_due (l := t_l_due_3) rd_l_due_3 (fun _ _ _ _ _ _ us hl => match us, hl with | [_], _ => rfl) fun cdv A outer s H E hr => ?_
  have tk := takes_of_body (P := P) (w := w) (K := K) (mg := mg) (base := base) (N := ["_law_thing_here", "_law_digit"]) (qual := "_law_due") (scope := defScope s_l_due) (f := He.fAd K ("_law_due", none)) (cd := cdv) (A := A) (outer := outer) (s := s) (H := H) (E := E)
  have hp := passes_body (P := P) (w := w) (K := K) (mg := mg) (base := base) (N := ["_law_thing_here", "_law_digit"]) (qual := "_law_due") (scope := defScope s_l_due) (f := He.fAd K ("_law_due", none)) (cd := cdv) (A := A) (outer := outer) (s := s) (H := H) (E := E)
  have hu64 := hr.units
  have hu65 := hu65_of hr
  have hu1 := hu_of hr
  have nd := (sc_l_due).nd
  exact (lss_cons (ls_if (lw_t (lw_or (lt_not (lt_truth (le_callB call_isi2 src_isi (by decide +kernel) T.f_isinstance (la_cons (le_v 0) (la_cons (le_bty T.f_tuple (by decide +kernel)) la_nil))))) (lw_or (lt_lt  (le_callB call_len4 src_len (by decide +kernel) T.f_len (la_cons (le_v 0) la_nil)) le_int) (lw_or1 (lt_gt  (le_callB call_len4 src_len (by decide +kernel) T.f_len (la_cons (le_v 0) la_nil)) le_int))))) (lss_one (ls_ret le_bl)) lss_nil)
  (lss_cons (ls_for hp rfl (li_seq (le_v 0)) (lg_name 1 nd) (lss_one (ls_if (lw_t (lw_or (lt_truth (le_callB call_isi2 src_isi (by decide +kernel) T.f_isinstance (la_cons (le_v 1) (la_cons (le_bty T.f_bool (by decide +kernel)) la_nil)))) (lw_or (lt_not (lt_truth (le_callB call_isi2 src_isi (by decide +kernel) T.f_isinstance (la_cons (le_v 1) (la_cons (le_bty T.f_int (by decide +kernel)) la_nil))))) (lw_or (lt_lt  (le_v 1) le_int) (lw_or1 (lt_gt  (le_v 1) le_int)))))) (lss_one (ls_ret le_bl)) lss_nil)))
  (lss_one (ls_ret le_bl))))
theorem ok_law (T : Tx K mg) : LOk P w K mg base 4 ("law", none) ["_law_script"] lspLaw := by
  refine fn_bodyO T.d_law sc_law (l := t_law_3 sp_l_folded_2 sp_l_box_2 sp_l_odd_1 sp_l_thing_1 sp_is_key_1 sp_l_due_3) rd_law_3 (fun _ _ _ _ _ _ us hl => match us, hl with | [_], _ => rfl) fun cdv A outer s H E hr => ?_
  have tk := takes_of_body (P := P) (w := w) (K := K) (mg := mg) (base := base) (N := ["_law_script", "_law_cells", "_law_k", "_law_box_here", "_law_turn", "_law_thing_here", "_law_found"]) (qual := "law") (scope := defScope s_law) (f := He.fAd K ("law", none)) (cd := cdv) (A := A) (outer := outer) (s := s) (H := H) (E := E)
  have hp := passes_body (P := P) (w := w) (K := K) (mg := mg) (base := base) (N := ["_law_script", "_law_cells", "_law_k", "_law_box_here", "_law_turn", "_law_thing_here", "_law_found"]) (qual := "law") (scope := defScope s_law) (f := He.fAd K ("law", none)) (cd := cdv) (A := A) (outer := outer) (s := s) (H := H) (E := E)
  have hu64 := hr.units
  have hu65 := hu65_of hr
  have hu1 := hu_of hr
  have nd := (sc_law).nd
  have F_l_folded := ok_l_folded (P := P) (w := w) (base := base) T
  have F_l_box := ok_l_box (P := P) (w := w) (base := base) T
  have F_l_odd := ok_l_odd (P := P) (w := w) (base := base) T
  have F_l_thing := ok_l_thing (P := P) (w := w) (base := base) T
  have F_is_key := ok_is_key (P := P) (w := w) (base := base) T
  have F_l_due := ok_l_due (P := P) (w := w) (base := base) T
  exact (lss_cons (ls_set 1 nd (le_callO F_l_folded T.g__law_folded (hr.mono (by omega)) tk (la_cons (le_v 0) (la_cons le_int la_nil))))
  (lss_cons (ls_for hp rfl (li_range1 T.f_range (la_cons (le_callB (call_max2 rfl) src_II (by decide +kernel) T.f_max (la_cons le_int (la_cons (le_callB call_len4 src_len (by decide +kernel) T.f_len (la_cons (le_v 1) la_nil)) la_nil))) la_nil)) (lg_name 2 nd) (lss_cons (ls_set 3 nd (le_callO F_l_box T.g__law_box (hr.mono (by omega)) tk (la_cons (le_v 1) (la_cons (le_v 2) la_nil))))
  (lss_one (ls_for hp rfl (li_range1 T.f_range (la_cons le_int la_nil)) (lg_name 4 nd) (lss_cons (ls_set 5 nd (le_if (lt_eq hu64 (le_v 4) le_int) (le_callO F_l_odd T.g__law_odd (hr.mono (by omega)) tk (la_cons (le_v 3) la_nil)) (le_callO F_l_thing T.g__law_thing (hr.mono (by omega)) tk (la_cons (le_v 3) la_nil))))
  (lss_cons (ls_set 6 nd (le_callO F_is_key T.g_is_key (hr.mono (by omega)) tk (la_cons (le_v 5) la_nil)))
  (lss_one (ls_if (lw_t (lw_or (lt_not (lt_truth (le_callB call_isi2 src_isi (by decide +kernel) T.f_isinstance (la_cons (le_v 6) (la_cons (le_bty T.f_bool (by decide +kernel)) la_nil))))) (lw_or1 (lt_ne hu64 (le_v 6) (le_callO F_l_due T.g__law_due (hr.mono (by omega)) tk (la_cons (le_v 5) la_nil)))))) (lss_one (ls_ret le_bl)) lss_nil))))))))
  (lss_one (ls_ret (le_and (le_is  (le_callO F_is_key T.g_is_key (hr.mono (by omega)) tk (la_cons (le_tup (la_cons le_int la_nil)) la_nil)) le_bl) (le_one (le_is  (le_callO F_is_key T.g_is_key (hr.mono (by omega)) tk (la_cons (le_tup la_nil) la_nil)) le_bl)))))))
end
def loose0 : List Str := ["DIGITS", "LONGEST_KEY", "is_digit", "is_key", "_law_box", "_law_take", "_law_folded", "_law_odd", "_law_due", "_law_thing"]
def loose : List Str := loose0
def fa0 : List He.Fa := [.free "abs", .free "all", .free "bool", .free "divmod", .free "enumerate", .free "int", .free "isinstance", .free "len", .free "list", .free "max", .free "range", .free "tuple", .glo "_law_box", .glo "_law_due", .glo "_law_folded", .glo "_law_odd", .glo "_law_take", .glo "_law_thing", .glo "is_digit", .glo "is_key", .glo "law", .int "DIGITS" 16, .int "LONGEST_KEY" 8]
def fa : List He.Fa := fa0
def fn0 : List He.DefD := [⟨("_law_folded", none), "_law_folded", "_law_folded", defArgs s_l_folded, defBody s_l_folded, defScope s_l_folded, [], []⟩, ⟨("_law_box", none), "_law_box", "_law_box", defArgs s_l_box, defBody s_l_box, defScope s_l_box, [], []⟩, ⟨("_law_take", none), "_law_take", "_law_take", defArgs s_l_take, defBody s_l_take, defScope s_l_take, [], []⟩, ⟨("_law_odd", none), "_law_odd", "_law_odd", defArgs s_l_odd, defBody s_l_odd, defScope s_l_odd, [], []⟩, ⟨("_law_thing", none), "_law_thing", "_law_thing", defArgs s_l_thing, defBody s_l_thing, defScope s_l_thing, [], []⟩, ⟨("is_digit", none), "is_digit", "is_digit", defArgs s_is_digit, defBody s_is_digit, defScope s_is_digit, [], []⟩, ⟨("is_key", none), "is_key", "is_key", defArgs s_is_key, defBody s_is_key, defScope s_is_key, [], []⟩, ⟨("_law_due", none), "_law_due", "_law_due", defArgs s_l_due, defBody s_l_due, defScope s_l_due, [], []⟩, ⟨("law", none), "law", "law", defArgs s_law, defBody s_law, defScope s_law, [], []⟩]
def fn : List He.DefD := fn0
abbrev R : PySem.W.OpenRow := PySem.W.OpenLaw.row PySem.Challenge.rw_rollcode_k02_what_is_a_key
abbrev hk : PySem.W.Hook := He.hookD 5 fa fn
def ob (s : PySem.W.SharedT) : He.AlD := He.obsDG 5 fa fn (HandSHeadRun.getT s)
theorem ob_eq (s : PySem.W.SharedT) : ob s = hk.obs s.abs := He.obsDG_eq (HandSHeadRun.getT_eq s)
set_option maxHeartbeats 0 in
theorem run (w : World) : HandSHeadRun.RunEq R (PySem.W.view R.prog [12]) hk ob 20000 loose w := by
  intro os
  kernel_rfl
theorem facts {K : PySem.W.Frag} {h : Heap} {mg : Str → Option Value} (X : K.In h) (G : h.Ns mainGlobals mg) (c : He.SaysD fa fn K) : Tx K mg where
  f_abs := He.free_ok X G (c.fact 0)
  f_all := He.free_ok X G (c.fact 1)
  f_bool := He.free_ok X G (c.fact 2)
  f_divmod := He.free_ok X G (c.fact 3)
  f_enumerate := He.free_ok X G (c.fact 4)
  f_int := He.free_ok X G (c.fact 5)
  f_isinstance := He.free_ok X G (c.fact 6)
  f_len := He.free_ok X G (c.fact 7)
  f_list := He.free_ok X G (c.fact 8)
  f_max := He.free_ok X G (c.fact 9)
  f_range := He.free_ok X G (c.fact 10)
  f_tuple := He.free_ok X G (c.fact 11)
  g__law_box := He.glo_ok X G (c.fact 12)
  g__law_due := He.glo_ok X G (c.fact 13)
  g__law_folded := He.glo_ok X G (c.fact 14)
  g__law_odd := He.glo_ok X G (c.fact 15)
  g__law_take := He.glo_ok X G (c.fact 16)
  g__law_thing := He.glo_ok X G (c.fact 17)
  g_is_digit := He.glo_ok X G (c.fact 18)
  g_is_key := He.glo_ok X G (c.fact 19)
  g_law := He.glo_ok X G (c.fact 20)
  i_DIGITS := He.int_ok X G (c.fact 21)
  i_LONGEST_KEY := He.int_ok X G (c.fact 22)
  d_l_folded := c.def_ 0 rfl
  d_l_box := c.def_ 1 rfl
  d_l_take := c.def_ 2 rfl
  d_l_odd := c.def_ 3 rfl
  d_l_thing := c.def_ 4 rfl
  d_is_digit := c.def_ 5 rfl
  d_is_key := c.def_ 6 rfl
  d_l_due := c.def_ 7 rfl
  d_law := c.def_ 8 rfl
end VL.Ok02
open PySem PySem.W PySem.Calls PyProof.Rows
set_option maxRecDepth 100000 in
set_option maxHeartbeats 0 in
theorem PySem.Challenge.cw_rollcode_k02_what_is_a_key_holds : PySem.Challenge.rw_rollcode_k02_what_is_a_key.Holds := by
  w_on; o_law
  refine HandSHeadRun.head_any (r := OpenLaw.row PySem.Challenge.rw_rollcode_k02_what_is_a_key) (q := view (OpenLaw.row PySem.Challenge.rw_rollcode_k02_what_is_a_key).prog [12]) (H := VL.Ok02.hk) (ob := VL.Ok02.ob) (M := 20000) (loose := VL.Ok02.loose) (d := HandSHeadRun.topDef (OpenLaw.row PySem.Challenge.rw_rollcode_k02_what_is_a_key).prog 12) (kwd := []) VL.Ok02.ob_eq
    (by kernel_rfl) (fun s => by kernel_rfl) VL.Ok02.run (by kernel_rfl) (by kernel_rfl) (by kernel_rfl) (by rfl) (by first | assumption | decide +kernel) (by decide +kernel) ⟨rfl, rfl, rfl, rfl, rfl, by decide +kernel⟩ ?hw ?hc
  case hw => w_witness2
  case hc =>
    refine L2.walk_ofE (l := PySem.Challenge.rw_rollcode_k02_what_is_a_key) (n := 63) (k := 4) (x := "_law_script") (CX := L2.CX0) rfl (by decide) (by kernel_rfl) ⟨rfl, by decide, by decide⟩ ?F (fun _ _ _ _ z => z)
    intro w mg fa h Y G hmg0
    obtain ⟨K, KX, c⟩ := Y
    have hmg : mg ("law" : PySem.Str) = some (.ref fa) := by
      have e : (HandSHeadRun.topDef (OpenLaw.row PySem.Challenge.rw_rollcode_k02_what_is_a_key).prog 12).name = ("law" : PySem.Str) := by kernel_rfl
      rw [← e]
      exact hmg0
    exact VL.law_end KX G hmg (Nat.le_refl _) (c.fact 20) (c.def_ 8 rfl) (fun _ _ _ _ _ _ us hl => match us, hl with | [_], _ => rfl) fun base _ _ => VL.Ok02.ok_law (VL.Ok02.facts KX G c)
