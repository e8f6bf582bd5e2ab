import PyProof.Rows.All
import Wide.All
import OpenK.AllK
import Wide.FinOn
import HandS.ForMost
import HandS.ForExc
import HandS.More
import HandS.Lambda
import KE.KDflt
import HandS.TupAny
import HandS.Deep
import HandS.Wide
import HandS.Flow
import HandS.Conv
import HandS.Style
import HandS.ExcOwn
import HandS.TryOnly
import HandS.ExcCtx
import HandS.Words
import HandS.SortRule
import HandS.SortInts
import HandS.IsInst
import HandS.WordsDict
import HandS.HeadHook1
import HandS.Text
import KE.KStateDown
import Lean
import HandS.Base
import HandS.Call
import HandS.Ends
import HandS.WordsExc
import HandS.Defaults
import HandS.Head0
import HandS.Head1
import HandS.Head2
import HandS.HeadEnd
import HandS.HeadHook2
import KE.DataMinMax
import HandS.SetFor
import HandS.TupSets
import KE.DataFind
import KE.KDictKeyed
import HandS.ExcInit
import HandS.ExcField
import HandS.ExcIs
import HandS.HotCalls
import KE.KExcIs
import HandS.EndTab
import HandS.HeadHook4
import HandS.HeadWalk
import PySem.Challenge.RW_lettertree_k02_least_trees
section
set_option Elab.async false
set_option linter.all false
set_option maxRecDepth 100000
set_option maxHeartbeats 2000000
/-! Dl1: values with tuples by value (D), cells (DO), how they lie in the abstract heap, judgements over them. -/
namespace Lt
open PySem PySem.Spec L2

inductive D where
  | non | bl (b : Bool) | int (i : Int) | str (x : Str) | tup (ds : List D) | rl (ds : List D) | ref (a : Addr) | ty (n : String)

/-- a list that nobody may change: frozen, or of the written part -/
def SqR (K : PySem.W.Frag) (H : Hp) (a : Addr) (xs : List V) : Prop := (∃ o, H a = some (.frz o (.lst xs))) ∨
    ∃ (o : Obj) (its : Array Value) (n : Nat), K.lookup a = some o ∧ o.cls = .type "list" ∧ o.dict = none ∧ o.data = .seq its n ∧ its.size ≤ sizeLine ∧ Vals xs its.toList
theorem SqR.sq {K : PySem.W.Frag} {H : Hp} {a : Addr} {xs : List V} (h : SqR K H a xs) : SqL K H a xs := by
  rcases h with ⟨o, h⟩ | h
  · exact .inl (.inr ⟨o, h⟩)
  · exact .inr h

mutual
inductive RD (K : PySem.W.Frag) (H : Hp) : D → V → Prop where
  | non : RD K H .non .non
  | bl {b} : RD K H (.bl b) (.bl b)
  | int {i} : RD K H (.int i) (.int i)
  | str {x} : RD K H (.str x) (.str x)
  | ref {a} : RD K H (.ref a) (.ref a)
  | ty {n} : RD K H (.ty n) (.ty n)
  | tup {ds a vs} : H a = some (.tup vs) → RDs K H ds vs → RD K H (.tup ds) (.ref a)
  | rl {ds a vs} : SqR K H a vs → RDs K H ds vs → RD K H (.rl ds) (.ref a)
inductive RDs (K : PySem.W.Frag) (H : Hp) : List D → List V → Prop where
  | nil : RDs K H [] []
  | cons {d v ds vs} : RD K H d v → RDs K H ds vs → RDs K H (d :: ds) (v :: vs)
end

/-- tuples and frozen lists stay -/
structure TupW (H H' : Hp) : Prop where
  t : ∀ a xs, H a = some (.tup xs) → H' a = some (.tup xs)
  l : ∀ a o xs, H a = some (.frz o (.lst xs)) → H' a = some (.frz o (.lst xs))
/-- tuples and what is frozen stay -/
structure TupX (H H' : Hp) : Prop where
  t : ∀ a xs, H a = some (.tup xs) → H' a = some (.tup xs)
  z : ∀ a o u, H a = some (.frz o u) → H' a = some (.frz o u)
theorem TupX.w {H H' : Hp} (e : TupX H H') : TupW H H' := ⟨e.t, fun a o xs h => e.z a o _ h⟩
theorem TupX.refl (H : Hp) : TupX H H := ⟨fun _ _ h => h, fun _ _ _ h => h⟩
theorem TupX.trans {H H1 H2 : Hp} (a : TupX H H1) (b : TupX H1 H2) : TupX H H2 :=
  ⟨fun x xs h => b.t x xs (a.t x xs h), fun x o xs h => b.z x o xs (a.z x o xs h)⟩
theorem TupX.new {H : Hp} {p : Addr} {o : HO} (h : H p = none) : TupX H (upd H p o) :=
  ⟨fun a xs e => by rw [upd_ne (ne_of_none e h)]; exact e, fun a _ xs e => by rw [upd_ne (ne_of_none e h)]; exact e⟩
/-- what may be changed without a tuple's change -/
def Chg : HO → Prop
  | .tup _ => False
  | .frz _ _ => False
  | .ext _ => False
  | _ => True
theorem TupX.mut {H : Hp} {p : Addr} {o u : HO} (h : H p = some u) (c : Chg u) : TupX H (upd H p o) := by
  refine ⟨fun a xs e => ?_, fun a _ xs e => ?_⟩
  all_goals
    rw [upd_ne (fun z => by subst z; rw [h] at e; cases e; exact c)]
    exact e
/-- told facts about the heap stay -/
structure ExtS (H H' : Hp) : Prop where
  x : ∀ a p, H a = some (.ext p) → H' a = some (.ext p)
theorem ExtS.new {H : Hp} {p : Addr} {o : HO} (h : H p = none) : ExtS H (upd H p o) := ⟨fun a _ e => by rw [upd_ne (ne_of_none e h)]; exact e⟩
theorem ExtS.mut {H : Hp} {p : Addr} {o u : HO} (h : H p = some u) (c : Chg u) : ExtS H (upd H p o) := ⟨fun a _ e => by
  rw [upd_ne (fun z => by subst z; rw [h] at e; cases e; exact c)]
  exact e⟩
theorem SqR.ext {K : PySem.W.Frag} {H H' : Hp} {a : Addr} {xs : List V} (e : TupW H H') (h : SqR K H a xs) : SqR K H' a xs := by
  rcases h with ⟨o, h⟩ | h
  · exact .inl ⟨o, e.l _ _ _ h⟩
  · exact .inr h
mutual
theorem RD.extW {K : PySem.W.Frag} {H H' : Hp} (e : TupW H H') : ∀ {d : D} {v : V}, RD K H d v → RD K H' d v
  | _, _, .non => .non
  | _, _, .bl => .bl
  | _, _, .int => .int
  | _, _, .str => .str
  | _, _, .ref => .ref
  | _, _, .ty => .ty
  | _, _, .tup h r => .tup (e.t _ _ h) (RDs.extW e r)
  | _, _, .rl h r => .rl (SqR.ext e h) (RDs.extW e r)
theorem RDs.extW {K : PySem.W.Frag} {H H' : Hp} (e : TupW H H') : ∀ {ds : List D} {vs : List V}, RDs K H ds vs → RDs K H' ds vs
  | _, _, .nil => .nil
  | _, _, .cons h r => .cons (RD.extW e h) (RDs.extW e r)
end
theorem RD.ext {K : PySem.W.Frag} {H H' : Hp} (e : TupX H H') {d : D} {v : V} (h : RD K H d v) : RD K H' d v := h.extW e.w
theorem RDs.ext {K : PySem.W.Frag} {H H' : Hp} (e : TupX H H') {d : List D} {v : List V} (h : RDs K H d v) : RDs K H' d v := h.extW e.w
section
variable {K : PySem.W.Frag} {H : Hp}
theorem RDs.length : ∀ {ds : List D} {vs : List V}, RDs K H ds vs → ds.length = vs.length
  | _, _, .nil => rfl
  | _, _, .cons _ r => by rw [List.length_cons, List.length_cons, RDs.length r]
theorem RDs.get : ∀ {ds : List D} {vs : List V} {i : Nat} {d : D}, RDs K H ds vs → ds[i]? = some d → ∃ v, vs[i]? = some v ∧ RD K H d v
  | _, _, _, _, .nil, e => by simp at e
  | _, _, 0, _, .cons r _, e => by simp at e; subst e; exact ⟨_, rfl, r⟩
  | _, _, i + 1, d, .cons _ t, e => by
    obtain ⟨v, h1, h2⟩ := RDs.get (i := i) (d := d) t (by simpa using e)
    exact ⟨v, by simpa using h1, h2⟩
theorem RDs.getV : ∀ {ds : List D} {vs : List V} {i : Nat} {v : V}, RDs K H ds vs → vs[i]? = some v → ∃ d, ds[i]? = some d ∧ RD K H d v
  | _, _, _, _, .nil, e => by simp at e
  | _, _, 0, _, .cons r _, e => by simp at e; subst e; exact ⟨_, rfl, r⟩
  | _, _, i + 1, d, .cons _ t, e => by
    obtain ⟨v, h1, h2⟩ := RDs.getV (i := i) (v := d) t (by simpa using e)
    exact ⟨v, by simpa using h1, h2⟩
theorem RDs.append : ∀ {ds es : List D} {vs ws : List V}, RDs K H ds vs → RDs K H es ws → RDs K H (ds ++ es) (vs ++ ws)
  | _, _, _, _, .nil, s => s
  | _, _, _, _, .cons r t, s => .cons r (RDs.append t s)
theorem RDs.one {d : D} {v : V} (h : RD K H d v) : RDs K H [d] [v] := .cons h .nil
theorem RDs.set {d : D} {v : V} (h : RD K H d v) : ∀ {ds : List D} {vs : List V} (i : Nat), RDs K H ds vs → RDs K H (ds.set i d) (vs.set i v)
  | _, _, _, .nil => .nil
  | _, _, 0, .cons _ t => .cons h t
  | _, _, i + 1, .cons q t => .cons q (RDs.set h i t)
theorem RDs.take : ∀ {ds : List D} {vs : List V} (n : Nat), RDs K H ds vs → RDs K H (ds.take n) (vs.take n)
  | _, _, 0, _ => .nil
  | _, _, _ + 1, .nil => .nil
  | _, _, n + 1, .cons r t => .cons r (RDs.take n t)
theorem RDs.drop : ∀ {ds : List D} {vs : List V} (n : Nat), RDs K H ds vs → RDs K H (ds.drop n) (vs.drop n)
  | _, _, 0, r => r
  | _, _, _ + 1, .nil => .nil
  | _, _, n + 1, .cons _ t => RDs.drop n t
theorem RDs.eraseIdx : ∀ {ds : List D} {vs : List V} (n : Nat), RDs K H ds vs → RDs K H (ds.eraseIdx n) (vs.eraseIdx n)
  | _, _, _, .nil => .nil
  | _, _, 0, .cons _ t => t
  | _, _, n + 1, .cons r t => .cons r (RDs.eraseIdx n t)
theorem RDs.dropLast : ∀ {ds : List D} {vs : List V}, RDs K H ds vs → RDs K H ds.dropLast vs.dropLast
  | _, _, .nil => .nil
  | _, _, .cons _ .nil => .nil
  | _, _, .cons r (.cons r2 t) => .cons r (RDs.dropLast (.cons r2 t))
theorem RDs.nilV {vs : List V} (h : RDs K H [] vs) : vs = [] := by cases h; rfl
theorem RDs.nilD {ds : List D} (h : RDs K H ds []) : ds = [] := by cases h; rfl
theorem RDs.ints : ∀ (ns : List Int), RDs K H (ns.map D.int) (ns.map V.int)
  | [] => .nil
  | _ :: r => .cons .int (RDs.ints r)
theorem RDs.intsV : ∀ {ns : List Int} {vs : List V}, RDs K H (ns.map D.int) vs → vs = ns.map V.int
  | [], _, .nil => rfl
  | _ :: _, _, .cons .int r => by rw [RDs.intsV r]; rfl
theorem RDs.strs : ∀ (ns : List Str), RDs K H (ns.map D.str) (ns.map V.str)
  | [] => .nil
  | _ :: r => .cons .str (RDs.strs r)
theorem RDs.strsV : ∀ {ns : List Str} {vs : List V}, RDs K H (ns.map D.str) vs → vs = ns.map V.str
  | [], _, .nil => rfl
  | _ :: _, _, .cons .str r => by rw [RDs.strsV r]; rfl
theorem RD.intV {i : Int} {v : V} (h : RD K H (.int i) v) : v = .int i := by cases h; rfl
theorem RD.blV {i : Bool} {v : V} (h : RD K H (.bl i) v) : v = .bl i := by cases h; rfl
theorem RD.strV {i : Str} {v : V} (h : RD K H (.str i) v) : v = .str i := by cases h; rfl
theorem RD.refV {i : Addr} {v : V} (h : RD K H (.ref i) v) : v = .ref i := by cases h; rfl
theorem RD.nonV {v : V} (h : RD K H .non v) : v = .non := by cases h; rfl
theorem RD.tyV {n : String} {v : V} (h : RD K H (.ty n) v) : v = .ty n := by cases h; rfl
theorem RD.tupV {ds : List D} {v : V} (h : RD K H (.tup ds) v) : ∃ a vs, v = .ref a ∧ H a = some (.tup vs) ∧ RDs K H ds vs := by
  cases h with
  | tup h r => exact ⟨_, _, rfl, h, r⟩
theorem RD.rlV {ds : List D} {v : V} (h : RD K H (.rl ds) v) : ∃ a vs, v = .ref a ∧ SqR K H a vs ∧ RDs K H ds vs := by
  cases h with
  | rl h r => exact ⟨_, _, rfl, h, r⟩
theorem RD.noneIff {d : D} {v : V} (h : RD K H d v) : decide (v = .non) = (match d with | .non => true | _ => false) := by
  cases h <;> rfl
end

/-! ### pairs of a dict -/
def RKV (K : PySem.W.Frag) (H : Hp) {κ : Type} : List (κ × D) → List (κ × V) → Prop := Paired fun p q => p.1 = q.1 ∧ RD K H p.2 q.2
theorem RKV.extW {K : PySem.W.Frag} {H H' : Hp} {κ : Type} {ds : List (κ × D)} {vs : List (κ × V)} (e : TupW H H') (h : RKV K H ds vs) : RKV K H' ds vs :=
  Paired.mapP h fun _ _ z => ⟨z.1, z.2.extW e⟩
theorem RKV.ext {K : PySem.W.Frag} {H H' : Hp} {κ : Type} {ds : List (κ × D)} {vs : List (κ × V)} (e : TupX H H') (h : RKV K H ds vs) : RKV K H' ds vs := h.extW e.w
theorem RKV.keys {K : PySem.W.Frag} {H : Hp} {κ : Type} : ∀ {ds : List (κ × D)} {vs : List (κ × V)}, RKV K H ds vs → ds.map (·.1) = vs.map (·.1)
  | _, _, .nil => rfl
  | _, _, .cons h t => by rw [List.map_cons, List.map_cons, h.1, RKV.keys t]
theorem RKV.length {K : PySem.W.Frag} {H : Hp} {κ : Type} {ds : List (κ × D)} {vs : List (κ × V)} (h : RKV K H ds vs) : ds.length = vs.length := Paired.length h

/-! ### cells -/
/-- a lambda's text; df: its parameter with its default, if it has one -/
structure LamT where
  params : Arguments
  body : Expr
  scope : Scope
  df : Option (Str × Int)
/-- the function that a lambda made -/
def LmO (f : Addr) (q : Str) (L : LamT) (cl : List (Str × Addr)) (c : Addr) (dV : Value) : HO := .ext fun h => ∃ (od : Option Addr) (sl : Array (Option Value)) (doc pm ctv : Value), h.get? f = some (⟨.type "function", od, .func (PySem.W.kdv_fn "<lambda>" q L.params (.expr L.body) L.scope cl dV doc pm (.ref c) ctv), sl⟩ : Obj)
/-- its default -/
def DfOk (H : Hp) (L : LamT) (dV : Value) : Prop := match L.df with
  | none => dV = .none
  | some (_, n) => ∃ t, dV = .ref t ∧ H t = some (.tup [.int n])
theorem DfOk.ext {H H' : Hp} {L : LamT} {dV : Value} (e : TupW H H') (h : DfOk H L dV) : DfOk H' L dV := by
  unfold DfOk at *
  split at h
  · exact h
  · obtain ⟨t, e1, e2⟩ := h
    exact ⟨t, e1, e.t _ _ e2⟩
theorem tabS_ext {H H' : Hp} {P : Addr} {q : Str} (t : LamX.TabS H P q) (e : ExtS H H') (k : H' P = H P) : LamX.TabS H' P q := by
  obtain ⟨ps, h1, h2, h3⟩ := t
  refine ⟨ps, k.trans h1, h2, fun pos cv hc => ?_⟩
  obtain ⟨c, e1, e2⟩ := h3 pos cv hc
  exact ⟨c, e1, e.x _ _ e2⟩
inductive DO where
  | lst (ds : List D)
  | dK (kvs : List (Key × D))
  | dT (kvs : List (List Key × D))
  | rdK (kvs : List (Key × D))
  | rdT (kvs : List (List Key × D))
  | ins (C : Addr) (fs : List D)
  | xd (fs : List (Str × D))
  | tab (q : Str)
  | fn (L : LamT) (q : Str) (fr : List (Str × Addr))
abbrev HD := Addr → Option DO
def upD (H : HD) (a : Addr) (o : DO) : HD := fun b => if b = a then some o else H b
theorem upD_same {H : HD} {a : Addr} {o : DO} : upD H a o a = some o := by unfold upD; rw [if_pos rfl]
theorem upD_ne {H : HD} {a b : Addr} {o : DO} (h : b ≠ a) : upD H a o b = H b := by unfold upD; rw [if_neg h]
theorem upD_old {H : HD} {a b : Addr} {o u : DO} (h : H b = some u) (n : H a = none) : upD H a o b = some u := by
  rw [upD_ne (fun z => by rw [z, n] at h; cases h)]
  exact h
theorem neD {H : HD} {a b : Addr} {o : DO} (h : H a = some o) (n : H b = none) : a ≠ b := fun z => by rw [z, n] at h; cases h
theorem neD' {H : HD} {a b : Addr} {o : DO} (h : H a = some o) (n : H b = none) : b ≠ a := fun z => by rw [← z, n] at h; cases h
theorem upD_none {H : HD} {a b : Addr} {o : DO} (h : upD H a o b = none) : H b = none := by
  unfold upD at h
  split at h
  · cases h
  · exact h
theorem upD_noneNe {H : HD} {a b : Addr} {o : DO} (h : upD H a o b = none) : b ≠ a := fun z => by rw [z, upD_same] at h; cases h

/-- the own classes: their attributes in the order in which __init__ stores them -/
structure Gm where
  K : PySem.W.Frag
  cs : Addr → Option (List Str)
structure Gm.Ok (G : Gm) : Prop where
  cls : ∀ C ord, G.cs C = some ord → Cls G.K C ∧ ord.Nodup ∧ ord.length ≤ 100 ∧ ∀ f ∈ ord, NoAttr G.K C f

def RelC (G : Gm) (H : Hp) (a : Addr) : DO → Prop
  | .lst ds => ∃ vs, H a = some (.lst vs) ∧ RDs G.K H ds vs
  | .dK kvs => ∃ vs, H a = some (.dK vs) ∧ RKV G.K H kvs vs
  | .dT kvs => ∃ vs, H a = some (.dT vs) ∧ RKV G.K H kvs vs
  | .rdK kvs => ∃ o vs, H a = some (.frz o (.dK vs)) ∧ RKV G.K H kvs vs
  | .rdT kvs => ∃ o vs, H a = some (.frz o (.dT vs)) ∧ RKV G.K H kvs vs
  | .ins C fs => ∃ ord dx vs, G.cs C = some ord ∧ fs.length ≤ ord.length ∧ RDs G.K H fs vs ∧ H a = some (.ins C dx ((ord.take fs.length).zip vs))
  | .xd fs => ∃ vs, H a = some (.xd vs) ∧ RKV G.K H fs vs
  | .tab q => LamX.TabS H a q
  | .fn L q fr => ∃ c dV, H a = some (LmO a q L (cloFrom fr L.scope.names []) c dV) ∧ H c = some (LamX.CodeO c q) ∧ DfOk H L dV
def RelH (G : Gm) (H : Hp) (Hd : HD) : Prop := ∀ a c, Hd a = some c → RelC G H a c
theorem RelC.some {G : Gm} {H : Hp} {a : Addr} {c : DO} (h : RelC G H a c) : ∃ o, H a = some o ∧ (∀ xs, o ≠ .tup xs) := by
  cases c with
  | lst ds => obtain ⟨vs, e, _⟩ := h; exact ⟨_, e, fun _ z => nomatch z⟩
  | dK ds => obtain ⟨vs, e, _⟩ := h; exact ⟨_, e, fun _ z => nomatch z⟩
  | dT ds => obtain ⟨vs, e, _⟩ := h; exact ⟨_, e, fun _ z => nomatch z⟩
  | rdK ds => obtain ⟨o, vs, e, _⟩ := h; exact ⟨_, e, fun _ z => nomatch z⟩
  | rdT ds => obtain ⟨o, vs, e, _⟩ := h; exact ⟨_, e, fun _ z => nomatch z⟩
  | ins C fs => obtain ⟨_, _, _, _, _, _, e⟩ := h; exact ⟨_, e, fun _ z => nomatch z⟩
  | xd fs => obtain ⟨vs, e, _⟩ := h; exact ⟨_, e, fun _ z => nomatch z⟩
  | tab q => obtain ⟨ps, e, _⟩ := h; exact ⟨_, e, fun _ z => nomatch z⟩
  | fn L q fr => obtain ⟨c, dV, e, _⟩ := h; exact ⟨_, e, fun _ z => nomatch z⟩
theorem RelC.keepW {G : Gm} {H H' : Hp} {a : Addr} {c : DO} (h : RelC G H a c) (e : TupW H H') (es : ExtS H H') (k : H' a = H a) : RelC G H' a c := by
  cases c with
  | lst ds => obtain ⟨vs, q, r⟩ := h; exact ⟨vs, k.trans q, r.extW e⟩
  | dK ds => obtain ⟨vs, q, r⟩ := h; exact ⟨vs, k.trans q, RKV.extW e r⟩
  | dT ds => obtain ⟨vs, q, r⟩ := h; exact ⟨vs, k.trans q, RKV.extW e r⟩
  | rdK ds => obtain ⟨o, vs, q, r⟩ := h; exact ⟨o, vs, k.trans q, RKV.extW e r⟩
  | rdT ds => obtain ⟨o, vs, q, r⟩ := h; exact ⟨o, vs, k.trans q, RKV.extW e r⟩
  | ins C fs => obtain ⟨ord, dx, vs, h1, h2, h3, q⟩ := h; exact ⟨ord, dx, vs, h1, h2, h3.extW e, k.trans q⟩
  | xd fs => obtain ⟨vs, q, r⟩ := h; exact ⟨vs, k.trans q, RKV.extW e r⟩
  | tab q => exact tabS_ext h es k
  | fn L q fr => obtain ⟨c, dV, h1, h2, h3⟩ := h; exact ⟨c, dV, k.trans h1, es.x _ _ h2, h3.ext e⟩
theorem RelC.keep {G : Gm} {H H' : Hp} {a : Addr} {c : DO} (h : RelC G H a c) (e : TupX H H') (es : ExtS H H') (k : H' a = H a) : RelC G H' a c := h.keepW e.w es k
theorem RelH.free {G : Gm} {H : Hp} {Hd : HD} (r : RelH G H Hd) {p : Addr} (h : H p = none) : Hd p = none := by
  cases q : Hd p with
  | none => rfl
  | some c =>
    obtain ⟨o, e, _⟩ := (r p c q).some
    rw [h] at e
    cases e
/-- a new object that is told -/
theorem RelH.new {G : Gm} {H : Hp} {Hd : HD} {p : Addr} {o : HO} {c : DO} (r : RelH G H Hd) (h : H p = none) (n : RelC G (upd H p o) p c) : RelH G (upd H p o) (upD Hd p c) := fun a d e => by
  by_cases z : a = p
  · subst z
    rw [upD_same] at e
    cases e
    exact n
  · rw [upD_ne z] at e
    exact (r a d e).keep (.new h) (.new h) (upd_ne z)
/-- a new object that is not told -/
theorem RelH.newT {G : Gm} {H : Hp} {Hd : HD} {p : Addr} {o : HO} (r : RelH G H Hd) (h : H p = none) : RelH G (upd H p o) Hd := fun a d e => by
  have z : a ≠ p := fun z => by rw [z, r.free h] at e; cases e
  exact (r a d e).keep (.new h) (.new h) (upd_ne z)
theorem RelH.newL {G : Gm} {H : Hp} {Hd : HD} {p : Addr} {ds : List D} {vs : List V} (r : RelH G H Hd) (h : H p = none) (q : RDs G.K H ds vs) : RelH G (upd H p (.lst vs)) (upD Hd p (.lst ds)) :=
  r.new (c := .lst ds) h ⟨vs, upd_same, q.ext (.new h)⟩
/-- an object changed -/
theorem RelH.mut {G : Gm} {H : Hp} {Hd : HD} {p : Addr} {o u : HO} {c : DO} (r : RelH G H Hd) (h : H p = some u) (g : Chg u) (n : RelC G (upd H p o) p c) : RelH G (upd H p o) (upD Hd p c) := fun a d e => by
  by_cases z : a = p
  · subst z
    rw [upD_same] at e
    cases e
    exact n
  · rw [upD_ne z] at e
    exact (r a d e).keep (.mut h g) (.mut h g) (upd_ne z)

theorem RelH.mutL {G : Gm} {H : Hp} {Hd : HD} {p : Addr} {ds : List D} {vs ws : List V} (r : RelH G H Hd) (h : H p = some (.lst ws)) (q : RDs G.K H ds vs) : RelH G (upd H p (.lst vs)) (upD Hd p (.lst ds)) :=
  r.mut (c := .lst ds) h trivial ⟨vs, upd_same, q.ext (.mut h trivial)⟩
/-! ### slots -/
abbrev StD := List (Option D)
structure RelS (K : PySem.W.Frag) (H : Hp) (ρ : StD) (σ : St) : Prop where
  len : ρ.length = σ.length
  at_ : ∀ (i : Nat) (d : D), ρ[i]? = some (some d) → ∃ v, σ[i]? = some (some v) ∧ RD K H d v
theorem RelS.ext {K : PySem.W.Frag} {H H' : Hp} {ρ : StD} {σ : St} (r : RelS K H ρ σ) (e : TupX H H') : RelS K H' ρ σ :=
  ⟨r.len, fun i d h => let ⟨v, h1, h2⟩ := r.at_ i d h; ⟨v, h1, h2.ext e⟩⟩
theorem RelS.set {K : PySem.W.Frag} {H : Hp} {ρ : StD} {σ : St} {d : D} {v : V} (r : RelS K H ρ σ) (h : RD K H d v) (i : Nat) : RelS K H (ρ.set i (some d)) (σ.set i (some v)) := by
  refine ⟨by rw [List.length_set, List.length_set, r.len], fun j e q => ?_⟩
  by_cases z : j = i
  · subst z
    have hl : j < ρ.length := by
      rcases Nat.lt_or_ge j ρ.length with w | w
      · exact w
      · rw [List.getElem?_eq_none (by rw [List.length_set]; exact w)] at q
        cases q
    rw [List.getElem?_set_self hl] at q
    cases q
    exact ⟨v, by rw [List.getElem?_set_self (by rw [← r.len]; exact hl)], h⟩
  · rw [List.getElem?_set_ne (Ne.symm z)] at q
    rw [List.getElem?_set_ne (Ne.symm z)]
    exact r.at_ j e q
theorem RelS.none {K : PySem.W.Frag} {H : Hp} {ρ : StD} {σ : St} (r : RelS K H ρ σ) (i : Nat) : RelS K H (ρ.set i none) (σ.set i Option.none) := by
  refine ⟨by rw [List.length_set, List.length_set, r.len], fun j e q => ?_⟩
  by_cases z : j = i
  · subst z
    rw [List.getElem?_set] at q
    split at q
    · split at q <;> cases q
    · rename_i w
      exact absurd rfl w
  · rw [List.getElem?_set_ne (Ne.symm z)] at q
    rw [List.getElem?_set_ne (Ne.symm z)]
    exact r.at_ j e q
theorem RelS.start {K : PySem.W.Frag} {H : Hp} {ds : List D} {vs : List V} (r : RDs K H ds vs) (N : List Str) : RelS K H (ds.map some ++ List.replicate (N.length - ds.length) Option.none) (start N vs) := by
  have e := r.length
  refine ⟨by simp [L2.start, e], fun i d q => ?_⟩
  rw [List.getElem?_append] at q
  split at q
  · rw [List.getElem?_map] at q
    cases z : ds[i]? with
    | none => rw [z] at q; cases q
    | some d' =>
      rw [z] at q
      have : d' = d := by simpa using q
      subst this
      obtain ⟨v, h1, h2⟩ := r.get z
      refine ⟨v, ?_, h2⟩
      unfold L2.start
      have hi : i < (vs.map some).length := by
        rw [List.length_map]
        exact (List.getElem?_eq_some_iff.mp h1).1
      rw [List.getElem?_append_left hi, List.getElem?_map, h1]
      rfl
  · rw [List.getElem?_replicate] at q
    split at q <;> cases q

/-! ### judgements -/
abbrev QD := D → HD → Prop
abbrev TED := StD → HD → QD → Prop
abbrev TTD := StD → HD → (Bool → HD → Prop) → Prop
abbrev TAD := StD → HD → (List D → HD → Prop) → Prop
/-- an exception: its class, its attributes -/
abbrev XD := Addr → List (Str × D) → HD → Prop
structure EndsD where
  nx : StD → HD → Prop
  rt : QD
  bk : StD → HD → Prop := fun _ _ => False
  ct : StD → HD → Prop := fun _ _ => False
abbrev TSD := EndsD → StD → HD → Prop

/-- Q holds wherever Qd is told -/
def To (G : Gm) (H : Hp) (Qd : QD) (Q : VK) : Prop := ∀ v H' d Hd', TupX H H' → RelH G H' Hd' → RD G.K H' d v → Qd d Hd' → Q v H'
def ToB (G : Gm) (H : Hp) (Qd : Bool → HD → Prop) (Q : Bool → Hp → Prop) : Prop := ∀ b H' Hd', TupX H H' → RelH G H' Hd' → Qd b Hd' → Q b H'
def ToA (G : Gm) (H : Hp) (Qd : List D → HD → Prop) (Q : List V → Hp → Prop) : Prop := ∀ vs H' ds Hd', TupX H H' → RelH G H' Hd' → RDs G.K H' ds vs → Qd ds Hd' → Q vs H'
def ToS (G : Gm) (H : Hp) (Qd : StD → HD → Prop) (Q : St → Hp → Prop) : Prop := ∀ σ ρ H' Hd', TupX H H' → RelH G H' Hd' → RelS G.K H' ρ σ → Qd ρ Hd' → Q σ H'
def lfE (G : Gm) (t : TED) : TE := fun σ H Q => ∃ ρ Hd Qd, RelS G.K H ρ σ ∧ RelH G H Hd ∧ t ρ Hd Qd ∧ To G H Qd Q
def lfT (G : Gm) (t : TTD) : TT := fun σ H Q => ∃ ρ Hd Qd, RelS G.K H ρ σ ∧ RelH G H Hd ∧ t ρ Hd Qd ∧ ToB G H Qd Q
def lfA (G : Gm) (t : TAD) : TA := fun σ H Q => ∃ ρ Hd Qd, RelS G.K H ρ σ ∧ RelH G H Hd ∧ t ρ Hd Qd ∧ ToA G H Qd Q
def lfS (G : Gm) (t : TSD) : TS := fun Dn σ H => ∃ ρ Hd Dd, RelS G.K H ρ σ ∧ RelH G H Hd ∧ t Dd ρ Hd ∧ ToS G H Dd.nx Dn.nx ∧ To G H Dd.rt Dn.rt ∧ ToS G H Dd.bk Dn.bk ∧ ToS G H Dd.ct Dn.ct
theorem To.ext {G : Gm} {H H1 : Hp} {Qd : QD} {Q : VK} (t : To G H Qd Q) (e : TupX H H1) : To G H1 Qd Q := fun v H' d Hd' x => t v H' d Hd' (e.trans x)
theorem ToB.ext {G : Gm} {H H1 : Hp} {Qd : Bool → HD → Prop} {Q : Bool → Hp → Prop} (t : ToB G H Qd Q) (e : TupX H H1) : ToB G H1 Qd Q := fun v H' Hd' x => t v H' Hd' (e.trans x)
theorem ToA.ext {G : Gm} {H H1 : Hp} {Qd : List D → HD → Prop} {Q : List V → Hp → Prop} (t : ToA G H Qd Q) (e : TupX H H1) : ToA G H1 Qd Q := fun v H' d Hd' x => t v H' d Hd' (e.trans x)
theorem ToS.ext {G : Gm} {H H1 : Hp} {Qd : StD → HD → Prop} {Q : St → Hp → Prop} (t : ToS G H Qd Q) (e : TupX H H1) : ToS G H1 Qd Q := fun v d H' Hd' x => t v d H' Hd' (e.trans x)

def gm (X : Cx) (cs : Addr → Option (List Str)) : Gm := ⟨X.K, cs⟩
structure PD (X : Cx) (cs : Addr → Option (List Str)) (e : Expr) (t : TED) : Prop where
  pe : PE X e (lfE ⟨X.K, cs⟩ t)
structure PTD (X : Cx) (cs : Addr → Option (List Str)) (e : Expr) (t : TTD) : Prop where
  pt : PT X e (lfT ⟨X.K, cs⟩ t)
structure PWD (X : Cx) (cs : Addr → Option (List Str)) (e : Expr) (t : TTD) : Prop where
  pw : PW X e (lfT ⟨X.K, cs⟩ t)
structure PAD (X : Cx) (cs : Addr → Option (List Str)) (es : List Expr) (t : TAD) : Prop where
  pa : PA X es (lfA ⟨X.K, cs⟩ t)
structure PSD (X : Cx) (cs : Addr → Option (List Str)) (st : Stmt) (t : TSD) : Prop where
  ps : PS X st (lfS ⟨X.K, cs⟩ t)
structure PSsD (X : Cx) (cs : Addr → Option (List Str)) (st : List Stmt) (t : TSD) : Prop where
  ps : PSs X st (lfS ⟨X.K, cs⟩ t)
theorem PE.of {X : Cx} {e : Expr} {t t' : TE} (h : PE X e t) (w : ∀ σ H Q, t' σ H Q → t σ H Q) : PE X e t' := ⟨fun pins s σ H Q I q => h.run pins s σ H Q I (w σ H Q q)⟩
theorem PT.of {X : Cx} {e : Expr} {t t' : TT} (h : PT X e t) (w : ∀ σ H Q, t' σ H Q → t σ H Q) : PT X e t' := ⟨fun pins s σ H Q I q => h.run pins s σ H Q I (w σ H Q q)⟩
theorem PW.of {X : Cx} {e : Expr} {t t' : TT} (h : PW X e t) (w : ∀ σ H Q, t' σ H Q → t σ H Q) : PW X e t' := ⟨fun wh pins s σ H Q I q => h.run wh pins s σ H Q I (w σ H Q q)⟩
theorem PA.of {X : Cx} {e : List Expr} {t t' : TA} (h : PA X e t) (w : ∀ σ H Q, t' σ H Q → t σ H Q) : PA X e t' := ⟨fun pos pins s σ H Q I q => h.run pos pins s σ H Q I (w σ H Q q)⟩
theorem PS.of {X : Cx} {e : Stmt} {t t' : TS} (h : PS X e t) (w : ∀ D σ H, t' D σ H → t D σ H) : PS X e t' := ⟨fun pins s σ H D I q => h.run pins s σ H D I (w D σ H q)⟩
theorem PSs.of {X : Cx} {e : List Stmt} {t t' : TS} (h : PSs X e t) (w : ∀ D σ H, t' D σ H → t D σ H) : PSs X e t' := ⟨fun pins s σ H D I q => h.run pins s σ H D I (w D σ H q)⟩
theorem PWD.pt {X : Cx} {cs} {e : Expr} {t : TTD} (h : PWD X cs e t) : PTD X cs e t := ⟨h.pw.pt⟩
end Lt

end
section
set_option Elab.async false
set_option linter.all false
set_option maxRecDepth 100000
set_option maxHeartbeats 2000000
/-! Dl2: names, constants, operators, comparisons, subscripts, attributes. -/
namespace Lt
open PySem PySem.Spec L2
section
variable {X : Cx} {cs : Addr → Option (List Str)} {a b c : Expr} {ta tb tc : TED} {pos : Pos}
/-! ### names and constants -/
def tV (i : Nat) : TED := fun ρ H Q => match ρ[i]? with
  | some (some d) => Q d H
  | _ => False
def tK (d : D) : TED := fun _ H Q => Q d H
theorem pd_var (i : Nat) {x : Str} (hN : X.N[i]? = some x := by rfl) (hv : Vis X.env.scope x := by first | exact Or.inl rfl | exact Or.inr (Or.inl rfl) | exact Or.inr (Or.inr rfl)) (hd : (x == ("__debug__" : Str)) = false := by decide)
    (hcd : (x == ("__classdict__" : Str)) = false := by decide) : PD X cs (.Name x pos) (tV i) := by
  refine ⟨PE.of (pe_var hN hv hd hcd) fun σ H Q h => ?_⟩
  obtain ⟨ρ, Hd, Qd, rs, rh, h, k⟩ := h
  unfold tV at h
  cases e : ρ[i]? with
  | none => rw [e] at h; exact h.elim
  | some o =>
    rw [e] at h
    cases o with
    | none => exact h.elim
    | some d =>
      obtain ⟨v, h1, h2⟩ := rs.at_ i d e
      exact ⟨v, h1, k v H d Hd (.refl H) rh h2 h⟩
theorem pd_k {e : Expr} {d : D} {v : V} (h : PE X e (tC v)) (r : ∀ H, RD X.K H d v) : PD X cs e (tK d) := by
  refine ⟨PE.of h fun σ H Q h => ?_⟩
  obtain ⟨ρ, Hd, Qd, rs, rh, h, k⟩ := h
  exact k v H d Hd (.refl H) rh (r H) h
theorem pd_int {i j} : PD X cs (.Constant (.int i) j pos) (tK (.int i)) := pd_k pe_int fun _ => .int
theorem pd_bl {i j} : PD X cs (.Constant (.bool i) j pos) (tK (.bl i)) := pd_k pe_bl fun _ => .bl
theorem pd_non {j} : PD X cs (.Constant .none j pos) (tK .non) := pd_k pe_non fun _ => .non
theorem pd_str {i j} : PD X cs (.Constant (.str i) j pos) (tK (.str i)) := pd_k pe_str fun _ => .str
theorem pd_gint {x : Str} {i : Int} (hm : ∃ t, X.mg x = some (.int i t)) (hg : Gl X x := by rfl) (hd : (x == ("__debug__" : Str)) = false := by decide) : PD X cs (.Name x pos) (tK (.int i)) := by
  obtain ⟨t, hm⟩ := hm
  exact pd_k (pe_glob (v := .int i) hg hm ⟨t, rfl⟩ hd) fun _ => .int
theorem pd_gstr {x z : Str} (hm : ∃ t, X.mg x = some (.str z t)) (hg : Gl X x := by rfl) (hd : (x == ("__debug__" : Str)) = false := by decide) : PD X cs (.Name x pos) (tK (.str z)) := by
  obtain ⟨t, hm⟩ := hm
  exact pd_k (pe_glob (v := .str z) hg hm ⟨t, rfl⟩ hd) fun _ => .str
theorem pd_gref {x : Str} {p : Addr} (hm : X.mg x = some (.ref p)) (hg : Gl X x := by rfl) (hd : (x == ("__debug__" : Str)) = false := by decide) : PD X cs (.Name x pos) (tK (.ref p)) :=
  pd_k (pe_glob (v := .ref p) hg hm rfl hd) fun _ => .ref
theorem pd_gty {x : Str} {n : String} (hm : X.mg x = none) (hv : bootBuiltins x = some (.type n)) (hg : Gl X x := by rfl) (hn : x ≠ "__name__" := by decide) (hd : (x == ("__debug__" : Str)) = false := by decide) : PD X cs (.Name x pos) (tK (.ty n)) :=
  pd_k (pe_bltn (v := .ty n) hg hm hv rfl hn hd) fun _ => .ty

/-! ### two values -/
abbrev R2D := D → D → HD → QD → Prop
/-- a rule for an operation on two values -/
def OpD (X : Cx) (cs : Addr → Option (List Str)) (f : Value → Value → Sem Value) (r : R2D) : Prop :=
  ∃ r' : R2, OpR X f r' ∧ ∀ (H : Hp) (Hd : HD) (x y : D) (v w : V) (Qd : QD) (Q : VK), RelH ⟨X.K, cs⟩ H Hd → RD X.K H x v → RD X.K H y w → r x y Hd Qd → To ⟨X.K, cs⟩ H Qd Q → r' v w H Q
def tO (r : R2D) (ta tb : TED) : TED := fun ρ H Q => ta ρ H fun x H1 => tb ρ H1 fun y H2 => r x y H2 Q
theorem lf_op {r : R2D} {r' : R2} {f : Value → Value → Sem Value} (k : ∀ (H : Hp) (Hd : HD) (x y : D) (v w : V) (Qd : QD) (Q : VK), RelH ⟨X.K, cs⟩ H Hd → RD X.K H x v → RD X.K H y w → r x y Hd Qd → To ⟨X.K, cs⟩ H Qd Q → r' v w H Q)
    (σ : L2.St) (H : Hp) (Q : VK) (h : lfE ⟨X.K, cs⟩ (tO r ta tb) σ H Q) : tOp r' (lfE ⟨X.K, cs⟩ ta) (lfE ⟨X.K, cs⟩ tb) σ H Q := by
  obtain ⟨ρ, Hd, Qd, rs, rh, h, kq⟩ := h
  refine ⟨ρ, Hd, _, rs, rh, h, fun v H1 x Hd1 e1 rh1 rv h1 => ?_⟩
  refine ⟨ρ, Hd1, _, rs.ext e1, rh1, h1, fun w H2 y Hd2 e2 rh2 rw h2 => ?_⟩
  exact k H2 Hd2 x y v w Qd Q rh2 (rv.ext e2) rw h2 (kq.ext (e1.trans e2))
theorem pd_op {op : Operator} {r : R2D} (ho : OpD X cs (binaryOp op) r) (ha : PD X cs a ta) (hb : PD X cs b tb) : PD X cs (.BinOp a op b pos) (tO r ta tb) := by
  obtain ⟨r', ho, k⟩ := ho
  exact ⟨PE.of (pe_op ho ha.pe hb.pe) (lf_op (f := binaryOp op) k)⟩
theorem pd_cmp {op : CmpOp} {r : R2D} (ho : OpD X cs (compareOp op) r) (ha : PD X cs a ta) (hb : PD X cs b tb) (hm : behindInMarks op b = false := by first | exact nomark _ | rfl) : PD X cs (.Compare a [op] [b] pos) (tO r ta tb) := by
  obtain ⟨r', ho, k⟩ := ho
  exact ⟨PE.of (pe_cmpR ho ha.pe hb.pe hm) (lf_op (f := compareOp op) k)⟩
/-! ### + -/
def rAdd : R2D := fun x y H Q => match x, y with
  | .int i, .int j => Q (.int (i + j)) H
  | .str i, .str j => i.length + j.length ≤ sizeLine ∧ Q (.str (i ++ j)) H
  | .tup i, .tup j => i.length + j.length ≤ sizeLine ∧ Q (.tup (i ++ j)) H
  | .ref i, .ref j => ∃ xs ys, H i = some (.lst xs) ∧ H j = some (.lst ys) ∧ xs.length + ys.length ≤ sizeLine ∧ ∀ p, H p = none → Q (.ref p) (upD H p (.lst (xs ++ ys)))
  | _, _ => False
theorem op_addD : OpD X cs (binaryOp .Add) rAdd := by
  refine ⟨_, OpR.or (OpR.or op_add op_add_str) (OpR.or op_catA op_cat), fun H Hd x y v w Qd Q rh rx ry h k => ?_⟩
  cases x with
  | int i =>
    cases y with
    | int j =>
      cases rx; cases ry
      exact .inl (.inl ⟨i, j, rfl, rfl, k _ H _ Hd (.refl H) rh .int h⟩)
    | _ => exact h.elim
  | str i =>
    cases y with
    | str j =>
      cases rx; cases ry
      exact .inl (.inr ⟨i, j, rfl, rfl, h.1, k _ H _ Hd (.refl H) rh .str h.2⟩)
    | _ => exact h.elim
  | tup i =>
    cases y with
    | tup j =>
      obtain ⟨p, vs, rfl, hp, r1⟩ := rx.tupV
      obtain ⟨q, ws, rfl, hq, r2⟩ := ry.tupV
      obtain ⟨h1, h2⟩ := (show i.length + j.length ≤ sizeLine ∧ Qd (.tup (i ++ j)) Hd from h)
      refine .inr (.inl ⟨p, q, vs, ws, rfl, rfl, SqT.of hp, SqT.of hq, by rw [← r1.length, ← r2.length]; exact h1, fun e => ?_, fun _ e => ?_, fun _ _ n hn => ?_⟩)
      · subst e
        have ei := r1.nilD
        subst ei
        exact k _ H _ Hd (.refl H) rh (.tup hq r2) h2
      · subst e
        have ei := r2.nilD
        subst ei
        rw [List.append_nil] at h2
        exact k _ H _ Hd (.refl H) rh (.tup hp r1) h2
      · exact k _ _ _ Hd (.new hn) (rh.newT hn) (.tup upd_same ((r1.append r2).ext (.new hn))) h2
    | _ => exact h.elim
  | ref i =>
    cases y with
    | ref j =>
      cases rx; cases ry
      obtain ⟨xs, ys, e1, e2, hl, h⟩ := h
      obtain ⟨vs, g1, r1⟩ := rh _ _ e1
      obtain ⟨ws, g2, r2⟩ := rh _ _ e2
      refine .inr (.inr ⟨i, j, vs, ws, rfl, rfl, g1, g2, by rw [← r1.length, ← r2.length]; exact hl, fun p hp => ?_⟩)
      exact k _ _ _ _ (.new hp) (rh.newL hp (r1.append r2)) .ref (h p (rh.free hp))
    | _ => exact h.elim
  | _ => exact h.elim
/-! ### numbers -/
def rI2 (C : Int → Int → Prop) (g : Int → Int → D) : R2D := fun x y H Q => match x, y with
  | .int i, .int j => C i j ∧ Q (g i j) H
  | _, _ => False
def rI2' (g : Int → Int → D) : R2D := fun x y H Q => match x, y with
  | .int i, .int j => Q (g i j) H
  | _, _ => False
theorem op_i2 {f : Value → Value → Sem Value} {C : Int → Int → Prop} {g : Int → Int → V} {g' : Int → Int → D} (h : OpR X f (rI C g)) (hg : ∀ H i j, RD X.K H (g' i j) (g i j)) : OpD X cs f (rI2 C g') := by
  refine ⟨_, h, fun H Hd x y v w Qd Q rh rx ry h k => ?_⟩
  cases x with
  | int i =>
    cases y with
    | int j =>
      cases rx; cases ry
      exact ⟨i, j, rfl, rfl, h.1, k _ H _ Hd (.refl H) rh (hg H i j) h.2⟩
    | _ => exact h.elim
  | _ => exact h.elim
theorem op_i2' {f : Value → Value → Sem Value} {g : Int → Int → V} {g' : Int → Int → D} (h : OpR X f (rI0 g)) (hg : ∀ H i j, RD X.K H (g' i j) (g i j)) : OpD X cs f (rI2' g') := by
  refine ⟨_, h, fun H Hd x y v w Qd Q rh rx ry h k => ?_⟩
  cases x with
  | int i =>
    cases y with
    | int j =>
      cases rx; cases ry
      exact ⟨i, j, rfl, rfl, k _ H _ Hd (.refl H) rh (hg H i j) h⟩
    | _ => exact h.elim
  | _ => exact h.elim
def rSub : R2D := rI2' fun i j => .int (i - j)
def rMod : R2D := rI2 (fun _ j => 0 < j) fun i j => .int (i % j)
def rDiv : R2D := rI2 CDiv fun i j => .int (i / j)
def rPow : R2D := rI2 CPow fun i j => .int (i ^ j.toNat)
theorem op_subD : OpD X cs (binaryOp .Sub) rSub := op_i2' op_sub fun _ _ _ => .int
theorem op_modD : OpD X cs (binaryOp .Mod) rMod := op_i2 op_mod fun _ _ _ => .int
theorem op_divD : OpD X cs (binaryOp .FloorDiv) rDiv := op_i2 op_fdiv fun _ _ _ => .int
theorem op_powD : OpD X cs (binaryOp .Pow) rPow := op_i2 op_pow fun _ _ _ => .int
def rLt : R2D := rI2' fun i j => .bl (decide (i < j))
def rLe : R2D := rI2' fun i j => .bl (decide (i ≤ j))
def rGt : R2D := rI2' fun i j => .bl (decide (j < i))
def rGe : R2D := rI2' fun i j => .bl (decide (j ≤ i))
theorem op_ltD : OpD X cs (compareOp .Lt) rLt := op_i2' op_lt fun _ _ _ => .bl
theorem op_leD : OpD X cs (compareOp .LtE) rLe := op_i2' op_le fun _ _ _ => .bl
theorem op_gtD : OpD X cs (compareOp .Gt) rGt := op_i2' op_gt fun _ _ _ => .bl
theorem op_geD : OpD X cs (compareOp .GtE) rGe := op_i2' op_ge fun _ _ _ => .bl
/-- * of numbers; a list by a number -/
def rMul : R2D := fun x y H Q => match x, y with
  | .int i, .int j => CMul i j ∧ Q (.int (i * j)) H
  | .ref l, .int k => ∃ xs, H l = some (.lst xs) ∧ -(2 ^ 63) ≤ k ∧ k < 2 ^ 63 ∧ xs.length * k.toNat ≤ sizeLine ∧ ∀ p, H p = none → Q (.ref p) (upD H p (.lst (List.replicate k.toNat xs).flatten))
  | _, _ => False
theorem RDs.rep {K : PySem.W.Frag} {H : Hp} {ds : List D} {vs : List V} (r : RDs K H ds vs) : ∀ n : Nat, RDs K H (List.replicate n ds).flatten (List.replicate n vs).flatten
  | 0 => .nil
  | n + 1 => by
    rw [List.replicate_succ, List.replicate_succ, List.flatten_cons, List.flatten_cons]
    exact r.append (RDs.rep r n)
theorem op_mulD : OpD X cs (binaryOp .Mult) rMul := by
  refine ⟨_, OpR.or op_mul op_rep, fun H Hd x y v w Qd Q rh rx ry h k => ?_⟩
  cases x with
  | int i =>
    cases y with
    | int j =>
      cases rx; cases ry
      exact .inl ⟨i, j, rfl, rfl, h.1, k _ H _ Hd (.refl H) rh .int h.2⟩
    | _ => exact h.elim
  | ref l =>
    cases y with
    | int j =>
      cases rx; cases ry
      obtain ⟨xs, e, h1, h2, h3, h⟩ := h
      obtain ⟨vs, g, r⟩ := rh _ _ e
      refine .inr ⟨l, j, vs, rfl, rfl, g, h1, h2, by rw [← r.length]; exact h3, fun p hp => ?_⟩
      exact k _ _ _ _ (.new hp) (rh.newL hp (r.rep _)) .ref (h p (rh.free hp))
    | _ => exact h.elim
  | _ => exact h.elim
/-- - of a number -/
def tNeg (ta : TED) : TED := fun ρ H Q => ta ρ H fun x H1 => match x with
  | .int i => Q (.int (-i)) H1
  | _ => False
theorem pd_neg (ha : PD X cs a ta) : PD X cs (.UnaryOp .USub a pos) (tNeg ta) := by
  refine ⟨PE.of (pe_un un_neg ha.pe) fun σ H Q h => ?_⟩
  obtain ⟨ρ, Hd, Qd, rs, rh, h, kq⟩ := h
  refine ⟨ρ, Hd, _, rs, rh, h, fun v H1 x Hd1 e1 rh1 rv h1 => ?_⟩
  cases x with
  | int i =>
    cases rv
    exact ⟨i, rfl, kq _ H1 _ Hd1 e1 rh1 .int h1⟩
  | _ => exact h1.elim
end
end Lt

end
section
set_option Elab.async false
set_option linter.all false
set_option maxRecDepth 100000
set_option maxHeartbeats 2000000
/-! Dl3: data, equality, membership, subscripts, attributes, displays, tests. -/
namespace Lt
open PySem PySem.Spec L2
/-! ### data -/
mutual
def D.py : D → PyData
  | .non => .none
  | .bl b => .bool b
  | .int i => .int i
  | .str x => .str x
  | .tup ds => .tuple (D.pys ds)
  | .rl ds => .list (D.pys ds)
  | .ref _ => .none
  | .ty _ => .none
def D.pys : List D → List PyData
  | [] => []
  | d :: r => d.py :: D.pys r
end
mutual
def D.pure : D → Bool
  | .non => true
  | .bl _ => true
  | .int _ => true
  | .str _ => true
  | .tup ds => D.pures ds
  | .rl ds => D.pures ds
  | .ref _ => false
  | .ty _ => false
def D.pures : List D → Bool
  | [] => true
  | d :: r => d.pure && D.pures r
end
mutual
inductive PyA (H : HD) : D → PyData → Prop where
  | non : PyA H .non .none
  | bl {b} : PyA H (.bl b) (.bool b)
  | int {i} : PyA H (.int i) (.int i)
  | str {x} : PyA H (.str x) (.str x)
  | tup {ds ps} : PyAs H ds ps → PyA H (.tup ds) (.tuple ps)
  | rl {ds ps} : PyAs H ds ps → PyA H (.rl ds) (.list ps)
  | lst {a ds ps} : H a = some (.lst ds) → PyAs H ds ps → PyA H (.ref a) (.list ps)
inductive PyAs (H : HD) : List D → List PyData → Prop where
  | nil : PyAs H [] []
  | cons {d p ds ps} : PyA H d p → PyAs H ds ps → PyAs H (d :: ds) (p :: ps)
end
mutual
theorem PyA.dp {G : Gm} {H : Hp} {Hd : HD} (r : RelH G H Hd) : ∀ {d : D} {p : PyData} {v : V}, PyA Hd d p → RD G.K H d v → Dp G.K H v p
  | _, _, _, .non, .non => .non
  | _, _, _, .bl, .bl => .bl _
  | _, _, _, .int, .int => .int _
  | _, _, _, .str, .str => .str _
  | _, _, _, .tup h, .tup e q => .tup (SqT.of e) (PyAs.dp r h q)
  | _, _, _, .rl h, .rl e q => .lst e.sq (PyAs.dp r h q)
  | _, _, _, .lst e h, .ref => by
    obtain ⟨vs, g, q⟩ := r _ _ e
    exact .lst (SqL.of g) (PyAs.dp r h q)
theorem PyAs.dp {G : Gm} {H : Hp} {Hd : HD} (r : RelH G H Hd) : ∀ {ds : List D} {ps : List PyData} {vs : List V}, PyAs Hd ds ps → RDs G.K H ds vs → DpAll G.K H vs ps
  | _, _, _, .nil, .nil => .nil
  | _, _, _, .cons h t, .cons q u => .cons (PyA.dp r h q) (PyAs.dp r t u)
end
mutual
theorem PyA.of (H : HD) : ∀ {d : D}, d.pure = true → PyA H d d.py
  | .non, _ => .non
  | .bl _, _ => .bl
  | .int _, _ => .int
  | .str _, _ => .str
  | .tup _, h => .tup (PyAs.of H h)
  | .rl _, h => .rl (PyAs.of H h)
theorem PyAs.of (H : HD) : ∀ {ds : List D}, D.pures ds = true → PyAs H ds (D.pys ds)
  | [], _ => .nil
  | d :: r, h => .cons (PyA.of H (Bool.and_eq_true_iff.mp h).1) (PyAs.of H (Bool.and_eq_true_iff.mp h).2)
end
/-- two values that == tells apart by themselves -/
def scalD : D → D → Option Bool
  | .int i, .int j => some (decide (i = j))
  | .str i, .str j => some (decide (i = j))
  | .bl i, .bl j => some (decide (i = j))
  | .non, .non => some true
  | .int _, .non => some false
  | .non, .int _ => some false
  | .str _, .non => some false
  | .non, .str _ => some false
  | .bl _, .non => some false
  | .non, .bl _ => some false
  | .int _, .str _ => some false
  | .str _, .int _ => some false
  | _, _ => none
section
variable {X : Cx} {cs : Addr → Option (List Str)} {a b c : Expr} {ta tb tc : TED} {pos : Pos}
def rEq : R2D := fun x y H Q => match scalD x y with
  | some k => Q (.bl k) H
  | none => ∃ p q, PyA H x p ∧ PyA H y q ∧ SeqAt.shaped p = true ∧ SeqAt.shaped q = true ∧ Q (.bl (PyData.eqv p q)) H
def rNe : R2D := fun x y H Q => match scalD x y with
  | some k => Q (.bl (!k)) H
  | none => ∃ p q, PyA H x p ∧ PyA H y q ∧ SeqAt.shaped p = true ∧ SeqAt.shaped q = true ∧ Q (.bl (!PyData.eqv p q)) H
theorem scal_ok {K : PySem.W.Frag} {H : Hp} {x y : D} {v w : V} {k : Bool} (rx : RD K H x v) (ry : RD K H y w) (h : scalD x y = some k) : scal v w = true ∧ decide (v = w) = k := by
  cases rx <;> cases ry <;> simp only [scalD, Option.some.injEq, reduceCtorEq] at h <;> subst h <;> refine ⟨rfl, ?_⟩ <;> simp
theorem op_eqG (hu : X.A.units + 64 < cLine) : OpD X cs (compareOp .Eq) rEq := by
  refine ⟨_, OpR.or op_eq (op_eqD hu), fun H Hd x y v w Qd Q rh rx ry h k => ?_⟩
  unfold rEq at h
  cases e : scalD x y with
  | some b =>
    rw [e] at h
    obtain ⟨h1, h2⟩ := scal_ok rx ry e
    refine .inl ⟨h1, ?_⟩
    rw [h2]
    exact k _ H _ Hd (.refl H) rh .bl h
  | none =>
    rw [e] at h
    obtain ⟨p, q, h1, h2, h3, h4, h⟩ := h
    exact .inr ⟨p, q, PyA.dp rh h1 rx, PyA.dp rh h2 ry, h3, h4, k _ H _ Hd (.refl H) rh .bl h⟩
theorem op_neG (hu : X.A.units + 64 < cLine) : OpD X cs (compareOp .NotEq) rNe := by
  refine ⟨_, OpR.or op_ne (op_neD hu), fun H Hd x y v w Qd Q rh rx ry h k => ?_⟩
  unfold rNe at h
  cases e : scalD x y with
  | some b =>
    rw [e] at h
    obtain ⟨h1, h2⟩ := scal_ok rx ry e
    refine .inl ⟨h1, ?_⟩
    rw [h2]
    exact k _ H _ Hd (.refl H) rh .bl h
  | none =>
    rw [e] at h
    obtain ⟨p, q, h1, h2, h3, h4, h⟩ := h
    exact .inr ⟨p, q, PyA.dp rh h1 rx, PyA.dp rh h2 ry, h3, h4, k _ H _ Hd (.refl H) rh .bl h⟩
/-! ### is -/
def isNon : D → Bool
  | .non => true
  | _ => false
def rIsN : R2D := fun x y H Q => match y with
  | .non => Q (.bl (isNon x)) H
  | .bl j => (match x with
    | .bl i => Q (.bl (decide (i = j))) H
    | _ => False)
  | _ => False
def rNotN : R2D := fun x y H Q => match y with
  | .non => Q (.bl (!isNon x)) H
  | .bl j => (match x with
    | .bl i => Q (.bl (!decide (i = j))) H
    | _ => False)
  | _ => False
theorem isNon_ok {K : PySem.W.Frag} {H : Hp} {x : D} {v : V} (rx : RD K H x v) : decide (v = .non) = isNon x := by cases rx <;> rfl
theorem op_isG : OpD X cs (compareOp .Is) rIsN := by
  refine ⟨_, OpR.or op_isN op_isBl, fun H Hd x y v w Qd Q rh rx ry h k => ?_⟩
  cases y with
  | non =>
    cases ry
    refine .inl ⟨rfl, ?_⟩
    rw [isNon_ok rx]
    exact k _ H _ Hd (.refl H) rh .bl h
  | bl j =>
    cases x with
    | bl i =>
      cases rx; cases ry
      exact .inr ⟨i, j, rfl, rfl, k _ H _ Hd (.refl H) rh .bl h⟩
    | _ => exact h.elim
  | _ => exact h.elim
theorem op_isnotG : OpD X cs (compareOp .IsNot) rNotN := by
  refine ⟨_, OpR.or op_notN op_notBl, fun H Hd x y v w Qd Q rh rx ry h k => ?_⟩
  cases y with
  | non =>
    cases ry
    refine .inl ⟨rfl, ?_⟩
    rw [isNon_ok rx]
    exact k _ H _ Hd (.refl H) rh .bl h
  | bl j =>
    cases x with
    | bl i =>
      cases rx; cases ry
      exact .inr ⟨i, j, rfl, rfl, k _ H _ Hd (.refl H) rh .bl h⟩
    | _ => exact h.elim
  | _ => exact h.elim
/-! ### dicts -/
def lookP {κ α : Type} [DecidableEq κ] (kvs : List (κ × α)) (k : κ) : Option α := (kvs.find? fun kv => decide (kv.1 = k)).map (·.2)
def putP {κ α : Type} [DecidableEq κ] (kvs : List (κ × α)) (k : κ) (v : α) : List (κ × α) :=
  if (kvs.any fun kv => decide (kv.1 = k)) = true then kvs.map (fun kv => if kv.1 = k then (kv.1, v) else kv) else kvs ++ [(k, v)]
def keyD : D → Option Key
  | .int i => some (.inl i)
  | .str x => some (.inr x)
  | _ => none
def keysD : List D → Option (List Key)
  | [] => some []
  | d :: r => match keyD d, keysD r with
    | some k, some ks => some (k :: ks)
    | _, _ => none
theorem keyD_ok {K : PySem.W.Frag} {H : Hp} {x : D} {v : V} {k : Key} (r : RD K H x v) (h : keyD x = some k) : v = kV k := by
  cases r <;> simp only [keyD, Option.some.injEq, reduceCtorEq] at h <;> subst h <;> rfl
theorem keysD_ok {K : PySem.W.Frag} {H : Hp} : ∀ {xs : List D} {vs : List V} {ks : List Key}, RDs K H xs vs → keysD xs = some ks → vs = ks.map kV
  | [], _, ks, .nil, h => by
    have e : ks = [] := (Option.some.inj h).symm
    rw [e]
    rfl
  | d :: r, _, ks, .cons q t, h => by
    unfold keysD at h
    cases e1 : keyD d with
    | none => rw [e1] at h; cases h
    | some k =>
      cases e2 : keysD r with
      | none => rw [e1, e2] at h; cases h
      | some kr =>
        rw [e1, e2] at h
        have e : ks = k :: kr := (Option.some.inj h).symm
        rw [e, keyD_ok q e1, keysD_ok t e2]
        rfl
theorem look_ok {K : PySem.W.Frag} {H : Hp} {κ : Type} [DecidableEq κ] {k : κ} : ∀ {ds : List (κ × D)} {vs : List (κ × V)}, RKV K H ds vs → ∀ {P : Option D → Prop}, P (lookP ds k) → ∃ o, valV vs k = o ∧ ((o = none ∧ P none) ∨ ∃ v d, o = some v ∧ RD K H d v ∧ P (some d))
  | _, _, .nil, P, h => ⟨none, rfl, .inl ⟨rfl, h⟩⟩
  | p :: ds, q :: vs, .cons r t, P, h => by
    by_cases e : p.1 = k
    · have e2 : q.1 = k := r.1.symm.trans e
      refine ⟨_, valV_pos e2, .inr ⟨q.2, p.2, rfl, r.2, ?_⟩⟩
      have z : lookP (p :: ds) k = some p.2 := by simp [lookP, List.find?_cons, e]
      rw [z] at h
      exact h
    · have e2 : ¬ q.1 = k := fun z => e (r.1.trans z)
      have z : lookP (p :: ds) k = lookP ds k := by simp [lookP, List.find?_cons, e]
      rw [z] at h
      obtain ⟨o, h1, h2⟩ := look_ok t h
      exact ⟨o, (valV_neg e2).trans h1, h2⟩
theorem any_ok {K : PySem.W.Frag} {H : Hp} {κ : Type} [DecidableEq κ] {k : κ} : ∀ {ds : List (κ × D)} {vs : List (κ × V)}, RKV K H ds vs → (ds.any fun kv => decide (kv.1 = k)) = (vs.any fun kv => decide (kv.1 = k))
  | _, _, .nil => rfl
  | p :: ds, q :: vs, .cons r t => by rw [List.any_cons, List.any_cons, any_ok t, r.1]
theorem put_ok {K : PySem.W.Frag} {H : Hp} {κ : Type} [DecidableEq κ] {k : κ} {d : D} {v : V} (h : RD K H d v) {ds : List (κ × D)} {vs : List (κ × V)} (r : RKV K H ds vs) : RKV K H (putP ds k d) (putK vs k v) := by
  unfold putP putK
  rw [any_ok r]
  split
  · have m : ∀ {ds : List (κ × D)} {vs : List (κ × V)}, RKV K H ds vs → RKV K H (ds.map fun kv => if kv.1 = k then (kv.1, d) else kv) (vs.map fun kv => if kv.1 = k then (kv.1, v) else kv) := by
      intro ds vs r
      induction r with
      | nil => exact .nil
      | @cons p q ds vs r t ih =>
        refine .cons ?_ ih
        by_cases e : p.1 = k
        · have e2 : q.1 = k := r.1.symm.trans e
          show (if p.1 = k then (p.1, d) else p).1 = (if q.1 = k then (q.1, v) else q).1 ∧ RD K H (if p.1 = k then (p.1, d) else p).2 (if q.1 = k then (q.1, v) else q).2
          rw [if_pos e, if_pos e2]
          exact ⟨r.1, h⟩
        · have e2 : ¬ q.1 = k := fun z => e (r.1.trans z)
          show (if p.1 = k then (p.1, d) else p).1 = (if q.1 = k then (q.1, v) else q).1 ∧ RD K H (if p.1 = k then (p.1, d) else p).2 (if q.1 = k then (q.1, v) else q).2
          rw [if_neg e, if_neg e2]
          exact r
    exact m r
  · have ap : ∀ {ds es : List (κ × D)} {vs ws : List (κ × V)}, RKV K H ds vs → RKV K H es ws → RKV K H (ds ++ es) (vs ++ ws) := by
      intro ds es vs ws r s
      induction r with
      | nil => exact s
      | cons r t ih => exact .cons r ih
    exact ap r (.cons ⟨rfl, h⟩ .nil)
/-- what a dict at a holds at the key y -/
def DG (H : HD) (a : Addr) (y : D) (P : Option D → Prop) : Prop := ∃ c, H a = some c ∧ match c with
  | .dK kvs => ∃ k, keyD y = some k ∧ P (lookP kvs k)
  | .rdK kvs => ∃ k, keyD y = some k ∧ P (lookP kvs k)
  | .dT kvs => ∃ ds k, y = .tup ds ∧ keysD ds = some k ∧ P (lookP kvs k)
  | .rdT kvs => ∃ ds k, y = .tup ds ∧ keysD ds = some k ∧ P (lookP kvs k)
  | _ => False
theorem DG.get {G : Gm} {H : Hp} {Hd : HD} {a : Addr} {y : D} {w : V} {P : Option D → Prop} (r : RelH G H Hd) (ry : RD G.K H y w) (h : DG Hd a y P) :
    ∃ o, DGet H a w o ∧ ((o = none ∧ P none) ∨ ∃ v d, o = some v ∧ RD G.K H d v ∧ P (some d)) := by
  obtain ⟨c, e, h⟩ := h
  cases c with
  | dK kvs =>
    obtain ⟨k, ek, h⟩ := h
    obtain ⟨vs, g, q⟩ := r _ _ e
    obtain ⟨o, h1, h2⟩ := look_ok q h
    rw [keyD_ok ry ek]
    exact ⟨o, .inl ⟨vs, k, .inl g, rfl, h1.symm⟩, h2⟩
  | rdK kvs =>
    obtain ⟨k, ek, h⟩ := h
    obtain ⟨ob, vs, g, q⟩ := r _ _ e
    obtain ⟨o, h1, h2⟩ := look_ok q h
    rw [keyD_ok ry ek]
    exact ⟨o, .inl ⟨vs, k, .inr ⟨ob, g⟩, rfl, h1.symm⟩, h2⟩
  | dT kvs =>
    obtain ⟨ds, k, ey, ek, h⟩ := h
    subst ey
    obtain ⟨vs, g, q⟩ := r _ _ e
    obtain ⟨o, h1, h2⟩ := look_ok q h
    obtain ⟨p, ws, rfl, hp, r1⟩ := ry.tupV
    rw [keysD_ok r1 ek] at hp
    exact ⟨o, .inr ⟨vs, k, p, .inl g, rfl, hp, h1.symm⟩, h2⟩
  | rdT kvs =>
    obtain ⟨ds, k, ey, ek, h⟩ := h
    subst ey
    obtain ⟨ob, vs, g, q⟩ := r _ _ e
    obtain ⟨o, h1, h2⟩ := look_ok q h
    obtain ⟨p, ws, rfl, hp, r1⟩ := ry.tupV
    rw [keysD_ok r1 ek] at hp
    exact ⟨o, .inr ⟨vs, k, p, .inr ⟨ob, g⟩, rfl, hp, h1.symm⟩, h2⟩
  | _ => exact h.elim
/-! ### in -/
def flatD : D → Bool
  | .non => true
  | .bl _ => true
  | .int _ => true
  | .str _ => true
  | _ => false
def eqF : D → D → Bool
  | .non, .non => true
  | .bl a, .bl b => a == b
  | .bl a, .int b => (if a then 1 else 0) == b
  | .int a, .bl b => a == (if b then 1 else 0)
  | .int a, .int b => a == b
  | .str a, .str b => a == b
  | _, _ => false
def inF (x : D) (ds : List D) : Bool := ds.any fun y => eqF y x
theorem flat_ok {K : PySem.W.Frag} {H : Hp} {x : D} {v : V} (r : RD K H x v) (h : flatD x = true) : flatV v = true := by
  cases r <;> first | rfl | (simp [flatD] at h)
theorem flats_ok {K : PySem.W.Frag} {H : Hp} : ∀ {xs : List D} {vs : List V}, RDs K H xs vs → xs.all flatD = true → vs.all flatV = true
  | _, _, .nil, _ => rfl
  | d :: ds, v :: vs, .cons r t, h => by
    rw [List.all_cons] at h ⊢
    obtain ⟨h1, h2⟩ := Bool.and_eq_true_iff.mp h
    rw [flat_ok r h1, flats_ok t h2]
    rfl
theorem eqF_ok {K : PySem.W.Frag} {H : Hp} {x y : D} {v w : V} (rx : RD K H x v) (ry : RD K H y w) (hx : flatD x = true) (hy : flatD y = true) : eqV v w = eqF x y := by
  cases rx <;> cases ry <;> first | rfl | (simp [flatD] at hx) | (simp [flatD] at hy)
theorem inF_ok {K : PySem.W.Frag} {H : Hp} {x : D} {v : V} (r : RD K H x v) (h : flatD x = true) : ∀ {xs : List D} {vs : List V}, RDs K H xs vs → xs.all flatD = true → inV v vs = inF x xs
  | _, _, .nil, _ => rfl
  | d :: ds, w :: ws, .cons q t, e => by
    rw [List.all_cons] at e
    obtain ⟨h1, h2⟩ := Bool.and_eq_true_iff.mp e
    have ih := inF_ok r h t h2
    unfold inV inF at ih ⊢
    rw [List.any_cons, List.any_cons, ih, eqF_ok q r h1 h]
def rInG (g : Bool → Bool) : R2D := fun x y H Q => match y with
  | .tup ds => flatD x = true ∧ ds.all flatD = true ∧ Q (.bl (g (inF x ds))) H
  | .rl ds => flatD x = true ∧ ds.all flatD = true ∧ Q (.bl (g (inF x ds))) H
  | .str z => ∃ c, x = .str ⟨#[c]⟩ ∧ Q (.bl (g (decide (c ∈ z.cps.toList)))) H
  | .ref a => ∃ c, H a = some c ∧ (match c with
    | .lst ds => ∃ p ps, PyA H x p ∧ PyAs H ds ps ∧ SeqAt.shaped p = true ∧ SeqAt.shaped (.list ps) = true ∧ Q (.bl (g (ps.any fun z => PyData.eqv z p))) H
    | _ => DG H a x fun o => Q (.bl (g o.isSome)) H)
  | _ => False
theorem op_inDc (hu : X.A.units + 1 < cLine) : OpR X (compareOp .In) (fun y x H Q => ∃ a o, x = .ref a ∧ DGet H a y o ∧ Q (.bl o.isSome) H) := by
  intro pins s σ H y x v u Q I ry rx h
  obtain ⟨a, o, rfl, g, q⟩ := h
  cases rx
  exact d_in hu I g ry fun s' I' => ⟨.bl _, H, I', rfl, q⟩
theorem op_notInDc (hu : X.A.units + 1 < cLine) : OpR X (compareOp .NotIn) (fun y x H Q => ∃ a o, x = .ref a ∧ DGet H a y o ∧ Q (.bl (!o.isSome)) H) := by
  intro pins s σ H y x v u Q I ry rx h
  obtain ⟨a, o, rfl, g, q⟩ := h
  cases rx
  exact d_notIn hu I g ry fun s' I' => ⟨.bl _, H, I', rfl, q⟩
theorem op_inG (hu : X.A.units + 65 < cLine) : OpD X cs (compareOp .In) (rInG id) := by
  refine ⟨_, OpR.or (OpR.or op_in_seq op_in_sign) (OpR.or (op_inD hu) (op_inDc (by omega))), fun H Hd x y v w Qd Q rh rx ry h k => ?_⟩
  cases y with
  | tup ds =>
    obtain ⟨h1, h2, h⟩ := h
    obtain ⟨p, vs, rfl, hp, r⟩ := ry.tupV
    refine .inl (.inl ⟨p, vs, rfl, .inr (SqT.of hp), flat_ok rx h1, flats_ok r h2, ?_⟩)
    rw [if_neg Bool.false_ne_true, inF_ok rx h1 r h2]
    exact k _ H _ Hd (.refl H) rh .bl h
  | rl ds =>
    obtain ⟨h1, h2, h⟩ := h
    obtain ⟨p, vs, rfl, hp, r⟩ := ry.rlV
    refine .inl (.inl ⟨p, vs, rfl, .inl hp.sq, flat_ok rx h1, flats_ok r h2, ?_⟩)
    rw [if_neg Bool.false_ne_true, inF_ok rx h1 r h2]
    exact k _ H _ Hd (.refl H) rh .bl h
  | str z =>
    obtain ⟨c, rfl, h⟩ := h
    cases rx; cases ry
    exact .inl (.inr ⟨c, z, rfl, rfl, k _ H _ Hd (.refl H) rh .bl h⟩)
  | ref a =>
    obtain ⟨c, e, h⟩ := h
    cases ry
    have dd : DG Hd a x (fun o => Qd (.bl o.isSome) Hd) → ∃ (b : Addr) (o : Option V), V.ref a = .ref b ∧ DGet H b v o ∧ Q (.bl o.isSome) H := fun h => by
      obtain ⟨o, g, z⟩ := h.get rh rx
      refine ⟨a, o, rfl, g, ?_⟩
      rcases z with ⟨rfl, z⟩ | ⟨v', d', rfl, _, z⟩
      · exact k _ H _ Hd (.refl H) rh .bl z
      · exact k _ H _ Hd (.refl H) rh .bl z
    cases c with
    | lst ds =>
      obtain ⟨p, ps, h1, h2, h3, h4, h⟩ := h
      exact .inr (.inl ⟨p, ps, PyA.dp rh h1 rx, PyA.dp rh (.lst e h2) .ref, h3, h4, k _ H _ Hd (.refl H) rh .bl h⟩)
    | _ => exact .inr (.inr (dd h))
  | _ => exact h.elim
theorem op_notInG (hu : X.A.units + 65 < cLine) : OpD X cs (compareOp .NotIn) (rInG not) := by
  refine ⟨_, OpR.or (OpR.or op_notIn_seq op_notIn_sign) (OpR.or (op_notInD hu) (op_notInDc (by omega))), fun H Hd x y v w Qd Q rh rx ry h k => ?_⟩
  cases y with
  | tup ds =>
    obtain ⟨h1, h2, h⟩ := h
    obtain ⟨p, vs, rfl, hp, r⟩ := ry.tupV
    refine .inl (.inl ⟨p, vs, rfl, .inr (SqT.of hp), flat_ok rx h1, flats_ok r h2, ?_⟩)
    rw [if_pos rfl, inF_ok rx h1 r h2]
    exact k _ H _ Hd (.refl H) rh .bl h
  | rl ds =>
    obtain ⟨h1, h2, h⟩ := h
    obtain ⟨p, vs, rfl, hp, r⟩ := ry.rlV
    refine .inl (.inl ⟨p, vs, rfl, .inl hp.sq, flat_ok rx h1, flats_ok r h2, ?_⟩)
    rw [if_pos rfl, inF_ok rx h1 r h2]
    exact k _ H _ Hd (.refl H) rh .bl h
  | str z =>
    obtain ⟨c, rfl, h⟩ := h
    cases rx; cases ry
    exact .inl (.inr ⟨c, z, rfl, rfl, k _ H _ Hd (.refl H) rh .bl h⟩)
  | ref a =>
    obtain ⟨c, e, h⟩ := h
    cases ry
    have dd : DG Hd a x (fun o => Qd (.bl (!o.isSome)) Hd) → ∃ (b : Addr) (o : Option V), V.ref a = .ref b ∧ DGet H b v o ∧ Q (.bl (!o.isSome)) H := fun h => by
      obtain ⟨o, g, z⟩ := h.get rh rx
      refine ⟨a, o, rfl, g, ?_⟩
      rcases z with ⟨rfl, z⟩ | ⟨v', d', rfl, _, z⟩
      · exact k _ H _ Hd (.refl H) rh .bl z
      · exact k _ H _ Hd (.refl H) rh .bl z
    cases c with
    | lst ds =>
      obtain ⟨p, ps, h1, h2, h3, h4, h⟩ := h
      exact .inr (.inl ⟨p, ps, PyA.dp rh h1 rx, PyA.dp rh (.lst e h2) .ref, h3, h4, k _ H _ Hd (.refl H) rh .bl h⟩)
    | _ => exact .inr (.inr (dd h))
  | _ => exact h.elim
end
end Lt

end
section
set_option Elab.async false
set_option linter.all false
set_option maxRecDepth 100000
set_option maxHeartbeats 2000000
/-! Dl4: subscripts, slices, attributes, argument lists, displays, tests, truth values, chains. -/
namespace Lt
open PySem PySem.Spec L2
open PyProof.Rows (tail_any isTrue_chain test_link test_last ite_ff ite_tt)
theorem RDs.atI {K : PySem.W.Frag} {H : Hp} {ds : List D} {vs : List V} {i : Int} {d : D} (r : RDs K H ds vs) (h : L2.atI ds i = some d) : ∃ v, L2.atI vs i = some v ∧ RD K H d v := by
  unfold L2.atI at h ⊢
  rw [← r.length]
  cases e : ixN ds.length i with
  | none => rw [e] at h; cases h
  | some j =>
    rw [e] at h
    exact r.get h
def cutD (xs : List D) (lo hi : Option Int) : List D := (xs.drop (HT.sIx xs.length 0 lo)).take (HT.sIx xs.length xs.length hi - HT.sIx xs.length 0 lo)
theorem RDs.cut {K : PySem.W.Frag} {H : Hp} {ds : List D} {vs : List V} (r : RDs K H ds vs) (lo hi : Option Int) : RDs K H (cutD ds lo hi) (cutV vs lo hi) := by
  unfold cutD cutV
  rw [r.length]
  exact (r.drop _).take _
section
variable {X : Cx} {cs : Addr → Option (List Str)} {a b c e : Expr} {ta tb tc te : TED} {pos : Pos}
/-! ### a[b] -/
def rIx : R2D := fun x y H Q => match x with
  | .tup ds => ∃ i d, y = .int i ∧ L2.atI ds i = some d ∧ Q d H
  | .rl ds => ∃ i d, y = .int i ∧ L2.atI ds i = some d ∧ Q d H
  | .str z => ∃ i c, y = .int i ∧ z.length ≤ sizeLine ∧ L2.atI z.cps.toList i = some c ∧ Q (.str ⟨#[c]⟩) H
  | .ref a => ∃ c, H a = some c ∧ (match c with
    | .lst ds => ∃ i d, y = .int i ∧ L2.atI ds i = some d ∧ Q d H
    | _ => DG H a y fun o => ∃ d, o = some d ∧ Q d H)
  | _ => False
theorem ix_dict (hu : X.A.units + 1 < cLine) : IxR X (fun x y H Q => ∃ a v, x = .ref a ∧ DGet H a y (some v) ∧ Q v H) := by
  intro value slice pins s σ H x y v u Q I rx ry h hs
  obtain ⟨a, z, rfl, g, q⟩ := h
  obtain rfl : v = Value.ref a := rx
  exact tail_any (dict_typeIs I g) PySem.F.slot_dict_getitem.lookup (d_getItem hu I g ry fun w' s' I' r => ⟨z, H, I', r, q⟩) hs
theorem pd_ix (hu : X.A.units + 1 < cLine) (ha : PD X cs a ta) (hb : PD X cs b tb) (hs : PlainIx b := by exact fun _ _ => rfl) : PD X cs (.Subscript a b pos) (tO rIx ta tb) := by
  refine ⟨PE.of (pe_ix (IxR.or ix_seq (ix_dict hu)) ha.pe hb.pe hs) (lf_op (f := binaryOp .Add) fun H Hd x y v w Qd Q rh rx ry h k => ?_)⟩
  cases x with
  | tup ds =>
    obtain ⟨i, d, rfl, h1, h⟩ := h
    cases ry
    obtain ⟨p, vs, rfl, hp, r⟩ := rx.tupV
    obtain ⟨z, h2, h3⟩ := r.atI h1
    exact .inl (.inr (.inl ⟨p, vs, i, z, rfl, rfl, SqT.of hp, h2, k _ H _ Hd (.refl H) rh h3 h⟩))
  | rl ds =>
    obtain ⟨i, d, rfl, h1, h⟩ := h
    cases ry
    obtain ⟨p, vs, rfl, hp, r⟩ := rx.rlV
    obtain ⟨z, h2, h3⟩ := r.atI h1
    exact .inl (.inl ⟨p, vs, i, z, rfl, rfl, hp.sq, h2, k _ H _ Hd (.refl H) rh h3 h⟩)
  | str z =>
    obtain ⟨i, c, rfl, h1, h2, h⟩ := h
    cases rx; cases ry
    exact .inl (.inr (.inr ⟨z, i, c, rfl, rfl, h1, h2, k _ H _ Hd (.refl H) rh .str h⟩))
  | ref a =>
    obtain ⟨c, e, h⟩ := h
    cases rx
    have dd : DG Hd a y (fun o => ∃ d, o = some d ∧ Qd d Hd) → ∃ b v, V.ref a = .ref b ∧ DGet H b w (some v) ∧ Q v H := fun h => by
      obtain ⟨o, g, z⟩ := h.get rh ry
      rcases z with ⟨rfl, z⟩ | ⟨v', d', rfl, r, z⟩
      · obtain ⟨_, z, _⟩ := z
        cases z
      · obtain ⟨d2, z, q⟩ := z
        cases z
        exact ⟨a, v', rfl, g, k _ H _ Hd (.refl H) rh r q⟩
    cases c with
    | lst ds =>
      obtain ⟨i, d, rfl, h1, h⟩ := h
      cases ry
      obtain ⟨vs, g, r⟩ := rh _ _ e
      obtain ⟨z, h2, h3⟩ := r.atI h1
      exact .inl (.inl ⟨a, vs, i, z, rfl, rfl, SqL.of g, h2, k _ H _ Hd (.refl H) rh h3 h⟩)
    | _ => exact .inr (dd h)
  | _ => exact h.elim
/-! ### slices -/
abbrev TOD := StD → HD → (Option Int → HD → Prop) → Prop
def lfO (G : Gm) (t : TOD) : TO := fun σ H Q => ∃ ρ Hd Qd, RelS G.K H ρ σ ∧ RelH G H Hd ∧ t ρ Hd Qd ∧ ∀ i H' Hd', TupX H H' → RelH G H' Hd' → Qd i Hd' → Q i H'
structure POD (X : Cx) (cs : Addr → Option (List Str)) (e : Option Expr) (t : TOD) : Prop where
  po : PO X e (lfO ⟨X.K, cs⟩ t)
theorem PO.of {e : Option Expr} {t t' : TO} (h : PO X e t) (w : ∀ σ H Q, t' σ H Q → t σ H Q) : PO X e t' := ⟨fun pins s σ H Q I q => h.run pins s σ H Q I (w σ H Q q)⟩
def tPn : TOD := fun _ H Q => Q none H
def tPs (te : TED) : TOD := fun ρ H Q => te ρ H fun x H1 => match x with
  | .int i => Q (some i) H1
  | _ => False
theorem pod_none : POD X cs none tPn := ⟨PO.of po_none fun σ H Q h => by
  obtain ⟨ρ, Hd, Qd, rs, rh, h, k⟩ := h
  exact k none H Hd (.refl H) rh h⟩
theorem pod_some (he : PD X cs e te) : POD X cs (some e) (tPs te) := ⟨PO.of (po_some he.pe) fun σ H Q h => by
  obtain ⟨ρ, Hd, Qd, rs, rh, h, k⟩ := h
  refine ⟨ρ, Hd, _, rs, rh, h, fun v H1 x Hd1 e1 rh1 rv h1 => ?_⟩
  cases x with
  | int i =>
    cases rv
    exact ⟨i, rfl, k _ H1 Hd1 e1 rh1 h1⟩
  | _ => exact h1.elim⟩
def rSl (x : D) (lo hi : Option Int) (H : HD) (Q : QD) : Prop := match x with
  | .tup ds => Q (.tup (cutD ds lo hi)) H
  | .rl ds => ∀ p, H p = none → Q (.ref p) (upD H p (.lst (cutD ds lo hi)))
  | .ref a => ∃ ds, H a = some (.lst ds) ∧ ∀ p, H p = none → Q (.ref p) (upD H p (.lst (cutD ds lo hi)))
  | _ => False
def tSlD (te : TED) (tl th : TOD) : TED := fun ρ H Q => te ρ H fun x H1 => tl ρ H1 fun l H2 => th ρ H2 fun u H3 => rSl x l u H3 Q
theorem cutV_all {xs : List V} {lo hi : Option Int} (h : HT.sIx xs.length 0 lo = 0 ∧ HT.sIx xs.length xs.length hi = xs.length) : cutV xs lo hi = xs := by
  unfold cutV
  rw [h.1, h.2]
  simp
theorem pd_slice {lo hi : Option Expr} {p2 : Pos} {tl th : TOD} (he : PD X cs e te) (hl : POD X cs lo tl) (hh : POD X cs hi th) : PD X cs (.Subscript e (.Slice lo hi none p2) pos) (tSlD te tl th) := by
  refine ⟨PE.of (pe_slice (SlR.or sl_list sl_tupA) he.pe hl.po hh.po) fun σ H Q h => ?_⟩
  obtain ⟨ρ, Hd, Qd, rs, rh, h, k⟩ := h
  refine ⟨ρ, Hd, _, rs, rh, h, fun v H1 x Hd1 e1 rh1 rv h1 => ?_⟩
  refine ⟨ρ, Hd1, _, rs.ext e1, rh1, h1, fun l H2 Hd2 e2 rh2 h2 => ?_⟩
  refine ⟨ρ, Hd2, _, rs.ext (e1.trans e2), rh2, h2, fun u H3 Hd3 e3 rh3 h3 => ?_⟩
  have k3 : To ⟨X.K, cs⟩ H3 Qd Q := k.ext ((e1.trans e2).trans e3)
  have rv3 := rv.ext (e2.trans e3)
  cases x with
  | tup ds =>
    obtain ⟨p, vs, rfl, hp, r⟩ := rv3.tupV
    refine .inr ⟨p, vs, rfl, SqT.of hp, fun z => ?_, fun z q hq => ?_⟩
    · exact k3 _ H3 _ Hd3 (.refl _) rh3 (.tup (by rw [cutV_all z]; exact hp) (r.cut l u)) h3
    · exact k3 _ _ _ Hd3 (.new hq) (rh3.newT hq) (.tup upd_same ((r.cut l u).ext (.new hq))) h3
  | rl ds =>
    obtain ⟨p, vs, rfl, hp, r⟩ := rv3.rlV
    exact .inl ⟨p, vs, rfl, hp.sq, fun q hq => k3 _ _ _ _ (.new hq) (rh3.newL hq (r.cut l u)) .ref (h3 q (rh3.free hq))⟩
  | ref a =>
    cases rv3
    obtain ⟨ds, e, h3⟩ := h3
    obtain ⟨vs, g, r⟩ := rh3 _ _ e
    exact .inl ⟨a, vs, rfl, SqL.of g, fun q hq => k3 _ _ _ _ (.new hq) (rh3.newL hq (r.cut l u)) .ref (h3 q (rh3.free hq))⟩
  | _ => exact h3.elim
/-! ### attributes -/
theorem zip_lookup {f : Str} : ∀ {ord : List Str} {vs : List V} {i : Nat} {v : V}, ord.Nodup → ord[i]? = some f → vs[i]? = some v → ((ord.take vs.length).zip vs).lookup f = some v
  | _, [], i, v, _, _, h => by simp at h
  | [], _ :: _, i, v, _, h, _ => by simp at h
  | g :: ord, w :: vs, 0, v, nd, h1, h2 => by
    have e1 : g = f := by simpa using h1
    have e2 : w = v := by simpa using h2
    subst e1 e2
    simp [List.lookup]
  | g :: ord, w :: vs, i + 1, v, nd, h1, h2 => by
    have h1' : ord[i]? = some f := by simpa using h1
    have h2' : vs[i]? = some v := by simpa using h2
    have ne : ¬ f = g := fun z => by
      have m : f ∈ ord := List.mem_of_getElem? h1'
      rw [z] at m
      exact (List.nodup_cons.mp nd).1 m
    have ih := zip_lookup (List.nodup_cons.mp nd).2 h1' h2'
    have hb : (f == g) = false := beq_eq_false_iff_ne.mpr ne
    simp only [List.length_cons, List.take_succ_cons, List.zip_cons_cons, List.lookup, hb]
    exact ih
theorem zip_none {f : Str} : ∀ {ord : List Str} {vs : List V}, f ∉ ord → (ord.zip vs).lookup f = none
  | [], _, _ => rfl
  | _ :: _, [], _ => rfl
  | g :: ord, w :: vs, h => by
    have hb : (f == g) = false := beq_eq_false_iff_ne.mpr fun z => h (by rw [z]; exact List.mem_cons_self ..)
    simp only [List.zip_cons_cons, List.lookup, hb]
    exact zip_none fun m => h (List.mem_cons_of_mem _ m)
def putI {α : Type} (i : Nat) (v : α) (vs : List α) : List α := if i < vs.length then vs.set i v else vs ++ [v]
theorem zip_put {f : Str} {v : V} : ∀ {ord : List Str} {vs : List V} {i : Nat}, ord.Nodup → ord[i]? = some f → i ≤ vs.length → vs.length ≤ ord.length → putF f v ((ord.take vs.length).zip vs) = (ord.take (putI i v vs).length).zip (putI i v vs)
  | [], vs, i, _, h, _, _ => by simp at h
  | g :: ord, [], i, nd, h1, h2, _ => by
    have e : i = 0 := by simpa using h2
    subst e
    have e1 : g = f := by simpa using h1
    subst e1
    rfl
  | g :: ord, w :: vs, 0, nd, h1, _, _ => by
    have e1 : g = f := by simpa using h1
    subst e1
    simp [putF, putI]
  | g :: ord, w :: vs, i + 1, nd, h1, h2, h3 => by
    have h1' : ord[i]? = some f := by simpa using h1
    have ne : ¬ g = f := fun z => by
      have m : f ∈ ord := List.mem_of_getElem? h1'
      rw [← z] at m
      exact (List.nodup_cons.mp nd).1 m
    have ih := zip_put (v := v) (List.nodup_cons.mp nd).2 h1' (by simpa using h2) (by simpa using h3)
    have e : putI (i + 1) v (w :: vs) = w :: putI i v vs := by
      unfold putI
      by_cases z : i < vs.length
      · rw [if_pos z, if_pos (by simpa using z)]; rfl
      · rw [if_neg z, if_neg (by simpa using z)]; rfl
    rw [e]
    show (if g = f then _ else (g, w) :: putF f v ((ord.take vs.length).zip vs)) = _
    rw [if_neg ne, ih]
    simp
theorem putI_length {α : Type} {i : Nat} {v : α} {vs : List α} : (putI i v vs).length = if i < vs.length then vs.length else vs.length + 1 := by
  unfold putI
  split <;> simp
theorem RDs.putI {K : PySem.W.Frag} {H : Hp} {ds : List D} {vs : List V} {d : D} {v : V} (h : RD K H d v) (r : RDs K H ds vs) (i : Nat) : RDs K H (Lt.putI i d ds) (Lt.putI i v vs) := by
  unfold Lt.putI
  rw [r.length]
  split
  · exact r.set h i
  · exact r.append (.one h)
def tFl (C : Addr) (i : Nat) (ta : TED) : TED := fun ρ H Q => ta ρ H fun x H1 => match x with
  | .ref a => ∃ fs, H1 a = some (.ins C fs) ∧ (match fs[i]? with
    | some d => Q d H1
    | none => False)
  | _ => False
theorem pd_fld (G : Gm.Ok ⟨X.K, cs⟩) (C : Addr) {ord : List Str} (hC : cs C = some ord) (i : Nat) {f : Str} (ha : PD X cs a ta) (hi : ord[i]? = some f := by rfl) (hb : attributeBase a f X.env (eval a X.env) = eval a X.env := by rfl) :
    PD X cs (.Attribute a f pos) (tFl C i ta) := by
  refine ⟨PE.of (pe_fld ha.pe hb) fun σ H Q h => ?_⟩
  obtain ⟨ρ, Hd, Qd, rs, rh, h, k⟩ := h
  refine ⟨ρ, Hd, _, rs, rh, h, fun v H1 x Hd1 e1 rh1 rv h1 => ?_⟩
  cases x with
  | ref p =>
    cases rv
    obtain ⟨fs, e, h1⟩ := h1
    cases q : fs[i]? with
    | none => rw [q] at h1; exact h1.elim
    | some d =>
      rw [q] at h1
      obtain ⟨ord', dx, vs, c1, c2, c3, c4⟩ := rh1 _ _ e
      have eo : ord' = ord := Option.some.inj (c1.symm.trans hC)
      subst eo
      obtain ⟨z, g1, g2⟩ := c3.get q
      obtain ⟨t1, t2, t3, t4⟩ := G.cls C ord' hC
      rw [c3.length] at c4
      exact ⟨p, C, dx, _, z, rfl, c4, t1, t4 f (List.mem_of_getElem? hi), zip_lookup t2 hi g1, k _ H1 _ Hd1 e1 rh1 g2 h1⟩
  | _ => exact h1.elim
/-! ### argument lists, displays -/
def tN : TAD := fun _ H Q => Q [] H
def tC (te : TED) (tr : TAD) : TAD := fun ρ H Q => te ρ H fun x H1 => tr ρ H1 fun xs H2 => Q (x :: xs) H2
theorem pad_nil : PAD X cs [] tN := ⟨PA.of pa_nil fun σ H Q h => by
  obtain ⟨ρ, Hd, Qd, rs, rh, h, k⟩ := h
  exact k [] H [] Hd (.refl H) rh .nil h⟩
theorem pad_cons {es : List Expr} {tr : TAD} (ha : PD X cs e te) (hr : PAD X cs es tr) (hs : starEach (e :: es) X.env = (false, eval e X.env) :: starEach es X.env := by rfl) : PAD X cs (e :: es) (tC te tr) := ⟨PA.of (pa_cons ha.pe hr.pa hs) fun σ H Q h => by
  obtain ⟨ρ, Hd, Qd, rs, rh, h, k⟩ := h
  refine ⟨ρ, Hd, _, rs, rh, h, fun v H1 x Hd1 e1 rh1 rv h1 => ?_⟩
  refine ⟨ρ, Hd1, _, rs.ext e1, rh1, h1, fun vs H2 xs Hd2 e2 rh2 rvs h2 => ?_⟩
  exact k _ H2 _ Hd2 (e1.trans e2) rh2 (.cons (rv.ext e2) rvs) h2⟩
theorem size1000 {n : Nat} (h : Nat.ble n 1000 = true) : n ≤ sizeLine := Nat.le_trans (Nat.le_of_ble_eq_true h) (by decide)
def tTp (t : TAD) : TED := fun ρ H Q => t ρ H fun ds H1 => Nat.ble ds.length 1000 = true ∧ Q (.tup ds) H1
def tLs (t : TAD) : TED := fun ρ H Q => t ρ H fun ds H1 => Nat.ble ds.length 1000 = true ∧ ∀ p, H1 p = none → Q (.ref p) (upD H1 p (.lst ds))
theorem pd_tup {es : List Expr} {t : TAD} {x1} (h : PAD X cs es t) : PD X cs (.Tuple es x1 pos) (tTp t) := by
  refine ⟨PE.of (pe_tup h.pa) fun σ H Q h => ?_⟩
  obtain ⟨ρ, Hd, Qd, rs, rh, h, k⟩ := h
  refine ⟨ρ, Hd, _, rs, rh, h, fun vs H1 xs Hd1 e1 rh1 rv h1 => ?_⟩
  exact ⟨by rw [← rv.length]; exact size1000 h1.1, fun p hp => k.ext e1 _ _ _ Hd1 (.new hp) (rh1.newT hp) (.tup upd_same (rv.ext (.new hp))) h1.2⟩
theorem pd_lst {es : List Expr} {t : TAD} (h : PAD X cs es t) : PD X cs (.List es pos) (tLs t) := by
  refine ⟨PE.of (pe_lst h.pa) fun σ H Q h => ?_⟩
  obtain ⟨ρ, Hd, Qd, rs, rh, h, k⟩ := h
  refine ⟨ρ, Hd, _, rs, rh, h, fun vs H1 xs Hd1 e1 rh1 rv h1 => ?_⟩
  exact ⟨by rw [← rv.length]; exact size1000 h1.1, fun p hp => k.ext e1 _ _ _ _ (.new hp) (rh1.newL hp rv) .ref (h1.2 p (rh1.free hp))⟩
def tDK : TED := fun _ H Q => ∀ p, H p = none → Q (.ref p) (upD H p (.dK []))
def tDT : TED := fun _ H Q => ∀ p, H p = none → Q (.ref p) (upD H p (.dT []))
theorem pd_newK : PD X cs (.Dict [] [] pos) tDK := by
  refine ⟨PE.of pe_dnewK fun σ H Q h => ?_⟩
  obtain ⟨ρ, Hd, Qd, rs, rh, h, k⟩ := h
  exact fun p hp => k _ _ _ _ (.new hp) (rh.new (c := .dK []) hp ⟨[], upd_same, .nil⟩) .ref (h p (rh.free hp))
theorem pd_newT : PD X cs (.Dict [] [] pos) tDT := by
  refine ⟨PE.of pe_dnewT fun σ H Q h => ?_⟩
  obtain ⟨ρ, Hd, Qd, rs, rh, h, k⟩ := h
  exact fun p hp => k _ _ _ _ (.new hp) (rh.new (c := .dT []) hp ⟨[], upd_same, .nil⟩) .ref (h p (rh.free hp))
/-! ### tests -/
def tTs (t : TED) : TTD := fun ρ H Q => t ρ H fun x H1 => match x with
  | .bl b => Q b H1
  | _ => False
theorem ptd_val (h : PD X cs e te) (he : ∀ whole, isTrue e X.env whole = (do let v ← whole; standAt e.pos; holding [v] (truthy v)) := by intro _; rfl) : PTD X cs e (tTs te) := by
  refine ⟨PT.of (pt_val h.pe he) fun σ H Q h => ?_⟩
  obtain ⟨ρ, Hd, Qd, rs, rh, h, k⟩ := h
  refine ⟨ρ, Hd, _, rs, rh, h, fun v H1 x Hd1 e1 rh1 rv h1 => ?_⟩
  cases x with
  | bl b =>
    cases rv
    exact ⟨b, rfl, k _ H1 Hd1 e1 rh1 h1⟩
  | _ => exact h1.elim
theorem lf_test {t : TE} (ht : ∀ σ H Q, lfE ⟨X.K, cs⟩ te σ H Q → t σ H Q) (σ : L2.St) (H : Hp) (Q : Bool → Hp → Prop) (h : lfT ⟨X.K, cs⟩ (tTs te) σ H Q) : tTest t σ H Q := by
  obtain ⟨ρ, Hd, Qd, rs, rh, h, k⟩ := h
  refine ht σ H _ ⟨ρ, Hd, _, rs, rh, h, fun v H1 x Hd1 e1 rh1 rv h1 => ?_⟩
  cases x with
  | bl b =>
    cases rv
    exact ⟨b, rfl, k _ H1 Hd1 e1 rh1 h1⟩
  | _ => exact h1.elim
theorem ptd_cmp {op : CmpOp} {r : R2D} (ho : OpD X cs (compareOp op) r) (ha : PD X cs a ta) (hb : PD X cs b tb) (hm : behindInMarks op b = false := by first | exact nomark _ | rfl) : PTD X cs (.Compare a [op] [b] pos) (tTs (tO r ta tb)) := by
  obtain ⟨r', ho, k⟩ := ho
  exact ⟨PT.of (pt_cmpR ho ha.pe hb.pe hm) (lf_test (lf_op (f := compareOp op) k))⟩
def tChn (r r' : R2D) (ta tb tc : TED) : TED := fun ρ H Q => ta ρ H fun x H1 => tb ρ H1 fun y H2 => r x y H2 fun z H3 => match z with
  | .bl k => if k = true then tc ρ H3 fun w H4 => r' y w H4 Q else Q (.bl false) H3
  | _ => False
theorem lf_chain {r r' : R2D} {q q' : R2} (k : ∀ (H : Hp) (Hd : HD) (x y : D) (v w : V) (Qd : QD) (Q : VK), RelH ⟨X.K, cs⟩ H Hd → RD X.K H x v → RD X.K H y w → r x y Hd Qd → To ⟨X.K, cs⟩ H Qd Q → q v w H Q)
    (k' : ∀ (H : Hp) (Hd : HD) (x y : D) (v w : V) (Qd : QD) (Q : VK), RelH ⟨X.K, cs⟩ H Hd → RD X.K H x v → RD X.K H y w → r' x y Hd Qd → To ⟨X.K, cs⟩ H Qd Q → q' v w H Q)
    (σ : L2.St) (H : Hp) (Q : VK) (h : lfE ⟨X.K, cs⟩ (tChn r r' ta tb tc) σ H Q) : tChain q q' (lfE ⟨X.K, cs⟩ ta) (lfE ⟨X.K, cs⟩ tb) (lfE ⟨X.K, cs⟩ tc) σ H Q := by
  obtain ⟨ρ, Hd, Qd, rs, rh, h, kq⟩ := h
  refine ⟨ρ, Hd, _, rs, rh, h, fun v H1 x Hd1 e1 rh1 rv h1 => ?_⟩
  refine ⟨ρ, Hd1, _, rs.ext e1, rh1, h1, fun w H2 y Hd2 e2 rh2 rw h2 => ?_⟩
  refine k H2 Hd2 x y v w _ _ rh2 (rv.ext e2) rw h2 fun u H3 z Hd3 e3 rh3 ru h3 => ?_
  cases z with
  | bl j =>
    cases ru
    refine ⟨j, rfl, ?_⟩
    cases j with
    | true =>
      show lfE _ tc σ H3 _
      refine ⟨ρ, Hd3, _, rs.ext ((e1.trans e2).trans e3), rh3, (show tc ρ Hd3 _ from h3), fun u4 H4 d4 Hd4 e4 rh4 ru4 h4 => ?_⟩
      exact k' H4 Hd4 y d4 w u4 Qd Q rh4 (rw.ext (e3.trans e4)) ru4 h4 (kq.ext (((e1.trans e2).trans e3).trans e4))
    | false =>
      show Q (.bl false) H3
      exact kq _ H3 _ Hd3 ((e1.trans e2).trans e3) rh3 .bl h3
  | _ => exact h3.elim
theorem ptd_chain {op op' : CmpOp} {r r' : R2D} (ho : OpD X cs (compareOp op) r) (ho' : OpD X cs (compareOp op') r') (ha : PD X cs a ta) (hb : PD X cs b tb) (hc : PD X cs c tc)
    (hm : lastMarks [op, op'] [b, c] = false := by with_unfolding_all rfl) : PTD X cs (.Compare a [op, op'] [b, c] pos) (tTs (tChn r r' ta tb tc)) := by
  obtain ⟨q, ho, k⟩ := ho
  obtain ⟨q', ho', k'⟩ := ho'
  exact ⟨PT.of (pt_chain ho ho' ha.pe hb.pe hc.pe hm) (lf_test (lf_chain k k'))⟩
def tAn (t u : TTD) : TTD := fun ρ H Q => t ρ H fun c H1 => if c = true then u ρ H1 Q else Q false H1
def tOr (t u : TTD) : TTD := fun ρ H Q => t ρ H fun c H1 => if c = true then Q true H1 else u ρ H1 Q
def tNt (t : TTD) : TTD := fun ρ H Q => t ρ H fun c H1 => Q (!c) H1
theorem ptd_not {t : TTD} (h : PTD X cs e t) : PTD X cs (.UnaryOp .Not e pos) (tNt t) := by
  refine ⟨PT.of (pt_not h.pt) fun σ H Q h => ?_⟩
  obtain ⟨ρ, Hd, Qd, rs, rh, h, k⟩ := h
  exact ⟨ρ, Hd, _, rs, rh, h, fun b H1 Hd1 e1 rh1 h1 => k _ H1 Hd1 e1 rh1 h1⟩
theorem pwd_and1 {t : TTD} (h : PTD X cs a t) : PWD X cs (.BoolOp .And [a] pos) t := ⟨pw_and1 h.pt⟩
theorem pwd_or1 {t : TTD} (h : PTD X cs a t) : PWD X cs (.BoolOp .Or [a] pos) t := ⟨pw_or1 h.pt⟩
theorem pwd_and {t u : TTD} {rest : List Expr} (h : PTD X cs a t) (g : PWD X cs (.BoolOp .And (b :: rest) pos) u) : PWD X cs (.BoolOp .And (a :: b :: rest) pos) (tAn t u) := by
  refine ⟨PW.of (pw_and h.pt g.pw) fun σ H Q h => ?_⟩
  obtain ⟨ρ, Hd, Qd, rs, rh, h, k⟩ := h
  refine ⟨ρ, Hd, _, rs, rh, h, fun b H1 Hd1 e1 rh1 h1 => ?_⟩
  cases b with
  | true => exact ⟨ρ, Hd1, Qd, rs.ext e1, rh1, h1, k.ext e1⟩
  | false => exact k _ H1 Hd1 e1 rh1 h1
theorem pwd_or {t u : TTD} {rest : List Expr} (h : PTD X cs a t) (g : PWD X cs (.BoolOp .Or (b :: rest) pos) u) : PWD X cs (.BoolOp .Or (a :: b :: rest) pos) (tOr t u) := by
  refine ⟨PW.of (pw_or h.pt g.pw) fun σ H Q h => ?_⟩
  obtain ⟨ρ, Hd, Qd, rs, rh, h, k⟩ := h
  refine ⟨ρ, Hd, _, rs, rh, h, fun b H1 Hd1 e1 rh1 h1 => ?_⟩
  cases b with
  | false => exact ⟨ρ, Hd1, Qd, rs.ext e1, rh1, h1, k.ext e1⟩
  | true => exact k _ H1 Hd1 e1 rh1 h1
def tIfE (t : TTD) (ta tb : TED) : TED := fun ρ H Q => t ρ H fun c H1 => if c = true then ta ρ H1 Q else tb ρ H1 Q
theorem pd_if {t : TTD} (h : PTD X cs c t) (ha : PD X cs a ta) (hb : PD X cs b tb) : PD X cs (.IfExp c a b pos) (tIfE t ta tb) := by
  refine ⟨PE.of (pe_ifExp h.pt ha.pe hb.pe) fun σ H Q h => ?_⟩
  obtain ⟨ρ, Hd, Qd, rs, rh, h, k⟩ := h
  refine ⟨ρ, Hd, _, rs, rh, h, fun b H1 Hd1 e1 rh1 h1 => ?_⟩
  cases b with
  | true => exact ⟨ρ, Hd1, Qd, rs.ext e1, rh1, h1, k.ext e1⟩
  | false => exact ⟨ρ, Hd1, Qd, rs.ext e1, rh1, h1, k.ext e1⟩
/-! ### and, or, not as values (truth values all but the last) -/
def tAnV (ta tb : TED) : TED := fun ρ H Q => ta ρ H fun x H1 => match x with
  | .bl c => if c = true then tb ρ H1 Q else Q (.bl false) H1
  | _ => False
def tOrV (ta tb : TED) : TED := fun ρ H Q => ta ρ H fun x H1 => match x with
  | .bl c => if c = true then Q (.bl true) H1 else tb ρ H1 Q
  | _ => False
def tNtV (ta : TED) : TED := fun ρ H Q => ta ρ H fun x H1 => match x with
  | .bl c => Q (.bl (!c)) H1
  | _ => False
theorem pd_one {op} (h : PD X cs a ta) : PD X cs (.BoolOp op [a] pos) ta := ⟨pe_one h.pe⟩
theorem pd_and {rest : List Expr} (ha : PD X cs a ta) (hb : PD X cs (.BoolOp .And (b :: rest) pos) tb) : PD X cs (.BoolOp .And (a :: b :: rest) pos) (tAnV ta tb) := by
  refine ⟨PE.of (pe_and ha.pe hb.pe) fun σ H Q h => ?_⟩
  obtain ⟨ρ, Hd, Qd, rs, rh, h, k⟩ := h
  refine ⟨ρ, Hd, _, rs, rh, h, fun v H1 x Hd1 e1 rh1 rv h1 => ?_⟩
  cases x with
  | bl j =>
    cases rv
    refine ⟨j, rfl, ?_⟩
    cases j with
    | true => exact ⟨ρ, Hd1, Qd, rs.ext e1, rh1, h1, k.ext e1⟩
    | false => exact k _ H1 _ Hd1 e1 rh1 .bl h1
  | _ => exact h1.elim
theorem pd_or {rest : List Expr} (ha : PD X cs a ta) (hb : PD X cs (.BoolOp .Or (b :: rest) pos) tb) : PD X cs (.BoolOp .Or (a :: b :: rest) pos) (tOrV ta tb) := by
  refine ⟨PE.of (pe_or ha.pe hb.pe) fun σ H Q h => ?_⟩
  obtain ⟨ρ, Hd, Qd, rs, rh, h, k⟩ := h
  refine ⟨ρ, Hd, _, rs, rh, h, fun v H1 x Hd1 e1 rh1 rv h1 => ?_⟩
  cases x with
  | bl j =>
    cases rv
    refine ⟨j, rfl, ?_⟩
    cases j with
    | false => exact ⟨ρ, Hd1, Qd, rs.ext e1, rh1, h1, k.ext e1⟩
    | true => exact k _ H1 _ Hd1 e1 rh1 .bl h1
  | _ => exact h1.elim
theorem pd_not (ha : PD X cs a ta) : PD X cs (.UnaryOp .Not a pos) (tNtV ta) := by
  refine ⟨PE.of (pe_not ha.pe) fun σ H Q h => ?_⟩
  obtain ⟨ρ, Hd, Qd, rs, rh, h, k⟩ := h
  refine ⟨ρ, Hd, _, rs, rh, h, fun v H1 x Hd1 e1 rh1 rv h1 => ?_⟩
  cases x with
  | bl j =>
    cases rv
    exact ⟨j, rfl, k _ H1 _ Hd1 e1 rh1 .bl h1⟩
  | _ => exact h1.elim
/-- a op1 b op2 c op3 d, as a test -/
def tChn3 (r1 r2 r3 : R2D) (ta tb tc td : TED) : TED := fun ρ H Q => ta ρ H fun x H1 => tb ρ H1 fun y H2 => r1 x y H2 fun z H3 => match z with
  | .bl k => if k = true then tc ρ H3 fun w H4 => r2 y w H4 fun z2 H5 => (match z2 with
      | .bl k2 => if k2 = true then td ρ H5 fun u H6 => r3 w u H6 Q else Q (.bl false) H5
      | _ => False) else Q (.bl false) H3
  | _ => False
theorem ptd_chain3 {d : Expr} {td : TED} {op1 op2 op3 : CmpOp} {r1 r2 r3 : R2D} (ho1 : OpD X cs (compareOp op1) r1) (ho2 : OpD X cs (compareOp op2) r2) (ho3 : OpD X cs (compareOp op3) r3) (ha : PD X cs a ta) (hb : PD X cs b tb) (hc : PD X cs c tc) (hd : PD X cs d td)
    (hm : lastMarks [op1, op2, op3] [b, c, d] = false := by with_unfolding_all rfl) : PTD X cs (.Compare a [op1, op2, op3] [b, c, d] pos) (tTs (tChn3 r1 r2 r3 ta tb tc td)) := by
  obtain ⟨q1, ho1, k1⟩ := ho1
  obtain ⟨q2, ho2, k2⟩ := ho2
  obtain ⟨q3, ho3, k3⟩ := ho3
  refine ⟨⟨fun pins s σ H Q I h => ?_⟩⟩
  obtain ⟨ρ, Hd, Qd, rs, rh, h, kq⟩ := h
  refine isTrue_chain (thn (ha.pe.run pins s σ H _ I ⟨ρ, Hd, _, rs, rh, h, fun v H1 x Hd1 e1 rh1 rv h1 => (⟨ρ, x, Hd1, e1, rs.ext e1, rh1, rv, h1⟩ : ∃ ρ x Hd1, TupX H H1 ∧ RelS X.K H1 ρ σ ∧ RelH ⟨X.K, cs⟩ H1 Hd1 ∧ RD X.K H1 x v ∧ tb ρ Hd1 fun y H2 => r1 x y H2 fun z H3 => match z with
    | .bl k => if k = true then tc ρ H3 fun w H4 => r2 y w H4 fun z2 H5 => (match z2 with
        | .bl k2 => if k2 = true then td ρ H5 fun u H6 => r3 w u H6 (fun x H1 => match x with
          | .bl b => Qd b H1
          | _ => False) else (match D.bl false with
          | .bl b => Qd b H5
          | _ => False)
        | _ => False) else (match D.bl false with
          | .bl b => Qd b H3
          | _ => False)
    | _ => False)⟩) fun v s1 ⟨v', H1, I1, rl1, ρ1, x, Hd1, e1, rs1, rh1, rx, h1⟩ => test_link ?_) hm
  refine thn (hb.pe.run pins s1 σ H1 _ I1 ⟨ρ1, Hd1, _, rs1, rh1, h1, fun w H2 y Hd2 e2 rh2 rw h2 => (⟨y, Hd2, e2, rh2, rw, h2⟩ : ∃ y Hd2, TupX H1 H2 ∧ RelH ⟨X.K, cs⟩ H2 Hd2 ∧ RD X.K H2 y w ∧ r1 x y Hd2 fun z H3 => match z with
    | .bl k => if k = true then tc ρ1 H3 fun w H4 => r2 y w H4 fun z2 H5 => (match z2 with
        | .bl k2 => if k2 = true then td ρ1 H5 fun u H6 => r3 w u H6 (fun x H1 => match x with
          | .bl b => Qd b H1
          | _ => False) else (match D.bl false with
          | .bl b => Qd b H5
          | _ => False)
        | _ => False) else (match D.bl false with
          | .bl b => Qd b H3
          | _ => False)
    | _ => False)⟩) fun u s2 ⟨w', H2, I2, rl2, y, Hd2, e2, rh2, ry, h2⟩ => ?_
  refine thn (ho1 pins s2 σ H2 v' w' v u (fun z H3 => ∃ j Hd3, z = .bl j ∧ TupX H2 H3 ∧ RelH ⟨X.K, cs⟩ H3 Hd3 ∧ if j = true then tc ρ1 Hd3 fun w H4 => r2 y w H4 fun z2 H5 => (match z2 with
        | .bl k2 => if k2 = true then td ρ1 H5 fun u H6 => r3 w u H6 (fun x H1 => match x with
          | .bl b => Qd b H1
          | _ => False) else Qd false H5
        | _ => False) else Qd false Hd3) I2 rl1 rl2 (k1 H2 Hd2 x y v' w' _ _ rh2 (rx.ext e2) ry h2 fun z H3 d3 Hd3 e3 rh3 rz h3 => ?_)) fun cv s3 ⟨z, H3, I3, rl3, j, Hd3, ez, e3, rh3, h3⟩ => ?_
  · cases d3 with
    | bl j =>
      cases rz
      exact ⟨j, Hd3, rfl, e3, rh3, h3⟩
    | _ => exact h3.elim
  · subst ez
    cases rl3
    refine wpAny_truthy_bool ?_
    have t03 : TupX H H3 := (e1.trans e2).trans e3
    cases j with
    | false => exact ite_ff ⟨H3, I3, kq _ H3 Hd3 t03 rh3 h3⟩
    | true =>
      refine ite_tt (test_link ?_)
      refine thn (hc.pe.run pins s3 σ H3 _ I3 ⟨ρ1, Hd3, _, rs1.ext (e2.trans e3), rh3, h3, fun w H4 y4 Hd4 e4 rh4 rw h4 => (⟨y4, Hd4, e4, rh4, rw, h4⟩ : ∃ y4 Hd4, TupX H3 H4 ∧ RelH ⟨X.K, cs⟩ H4 Hd4 ∧ RD X.K H4 y4 w ∧ r2 y y4 Hd4 fun z2 H5 => (match z2 with
        | .bl k2 => if k2 = true then td ρ1 H5 fun u H6 => r3 y4 u H6 (fun x H1 => match x with
          | .bl b => Qd b H1
          | _ => False) else Qd false H5
        | _ => False))⟩) fun u4 s4 ⟨w4, H4, I4, rl4, y4, Hd4, e4, rh4, ry4, h4⟩ => ?_
      refine thn (ho2 pins s4 σ H4 w' w4 u u4 (fun z H5 => ∃ j Hd5, z = .bl j ∧ TupX H4 H5 ∧ RelH ⟨X.K, cs⟩ H5 Hd5 ∧ if j = true then td ρ1 Hd5 fun u H6 => r3 y4 u H6 (fun x H1 => match x with
          | .bl b => Qd b H1
          | _ => False) else Qd false Hd5) I4 rl2 rl4 (k2 H4 Hd4 y y4 w' w4 _ _ rh4 (ry.ext (e3.trans e4)) ry4 h4 fun z H5 d5 Hd5 e5 rh5 rz h5 => ?_)) fun cv2 s5 ⟨z, H5, I5, rl5, j, Hd5, ez, e5, rh5, h5⟩ => ?_
      · cases d5 with
        | bl j =>
          cases rz
          exact ⟨j, Hd5, rfl, e5, rh5, h5⟩
        | _ => exact h5.elim
      · subst ez
        cases rl5
        refine wpAny_truthy_bool ?_
        have t05 : TupX H H5 := (t03.trans e4).trans e5
        cases j with
        | false => exact ite_ff ⟨H5, I5, kq _ H5 Hd5 t05 rh5 h5⟩
        | true =>
          refine ite_tt (test_last ?_)
          refine thn (hd.pe.run pins s5 σ H5 _ I5 ⟨ρ1, Hd5, _, rs1.ext (((e2.trans e3).trans e4).trans e5), rh5, h5, fun w H6 y6 Hd6 e6 rh6 rw h6 => (⟨y6, Hd6, e6, rh6, rw, h6⟩ : ∃ y6 Hd6, TupX H5 H6 ∧ RelH ⟨X.K, cs⟩ H6 Hd6 ∧ RD X.K H6 y6 w ∧ r3 y4 y6 Hd6 (fun x H1 => match x with
          | .bl b => Qd b H1
          | _ => False))⟩) fun u6 s6 ⟨w6, H6, I6, rl6, y6, Hd6, e6, rh6, ry6, h6⟩ => ?_
          refine thn (ho3 pins s6 σ H6 w4 w6 u4 u6 (fun z H7 => ∃ j, z = .bl j ∧ Q j H7) I6 rl4 rl6 (k3 H6 Hd6 y4 y6 w4 w6 _ _ rh6 (ry4.ext (e5.trans e6)) ry6 h6 fun z H7 d7 Hd7 e7 rh7 rz h7 => ?_)) fun cv3 s7 ⟨z, H7, I7, rl7, j, ez, h7⟩ => ?_
          · cases d7 with
            | bl j =>
              cases rz
              exact ⟨j, rfl, kq _ H7 Hd7 ((t05.trans e6).trans e7) rh7 h7⟩
            | _ => exact h7.elim
          · subst ez
            cases rl7
            exact wpAny_truthy_bool ⟨H7, I7, h7⟩
end
end Lt

end
section
set_option Elab.async false
set_option linter.all false
set_option maxRecDepth 100000
set_option maxHeartbeats 2000000
/-! Dl5: targets, statements, loops, comprehensions, locks. -/
namespace Lt
open PySem PySem.Spec L2
/-! ### targets -/
inductive TgD where
  | nm (i : Nat) | tp (ts : List TgD)
mutual
def TgD.asg : TgD → D → StD → Option StD
  | .nm i, d, ρ => some (ρ.set i (some d))
  | .tp ts, .tup ds, ρ => TgD.asgs ts ds ρ
  | .tp _, _, _ => none
def TgD.asgs : List TgD → List D → StD → Option StD
  | [], [], ρ => some ρ
  | t :: ts, d :: ds, ρ => match t.asg d ρ with
    | some ρ' => TgD.asgs ts ds ρ'
    | none => none
  | _, _, _ => none
end
mutual
def TgD.slots : TgD → List Nat
  | .nm i => [i]
  | .tp ts => TgD.slotss ts
def TgD.slotss : List TgD → List Nat
  | [] => []
  | t :: ts => t.slots ++ TgD.slotss ts
end
mutual
def gT (K : PySem.W.Frag) : TgD → TG
  | .nm i => gName i
  | .tp ts => gTup K ts.length (gTs K ts)
def gTs (K : PySem.W.Frag) : List TgD → TGs
  | [] => gNil
  | t :: ts => gCons (gT K t) (gTs K ts)
end
theorem wipe_set {σ : L2.St} {i : Nat} {x : Option V} : ∀ {vs : List Nat}, i ∈ vs → wipe (σ.set i x) vs = wipe σ vs
  | [], h => by cases h
  | v :: vs, h => by
    show (wipe (σ.set i x) vs).set v none = (wipe σ vs).set v none
    by_cases e : v = i
    · subst e
      have go : ∀ ws : List Nat, (wipe (σ.set v x) ws).set v none = (wipe σ ws).set v none := by
        intro ws
        induction ws with
        | nil => show (σ.set v x).set v none = σ.set v none; rw [List.set_set]
        | cons w ws ih =>
          show ((wipe (σ.set v x) ws).set w none).set v none = ((wipe σ ws).set w none).set v none
          by_cases z : w = v
          · subst z; rw [List.set_set, List.set_set]; exact ih
          · rw [List.set_comm _ _ z, ih, List.set_comm _ _ (Ne.symm z)]
      exact go vs
    · rw [wipe_set ((List.mem_cons.mp h).resolve_left (Ne.symm e))]
mutual
theorem asg_ok {K : PySem.W.Frag} {H : Hp} : ∀ {t : TgD} {d : D} {v : V} {ρ ρ' : StD} {σ : L2.St} {Q : L2.St → Hp → Prop}, RD K H d v → RelS K H ρ σ → t.asg d ρ = some ρ' → (∀ σ', RelS K H ρ' σ' → (∀ vs, (∀ i ∈ t.slots, i ∈ vs) → wipe σ' vs = wipe σ vs) → Q σ' H) → gT K t v σ H Q
  | .nm i, d, v, ρ, ρ', σ, Q, r, rs, e, k => by
    have e' : ρ.set i (some d) = ρ' := by
      unfold TgD.asg at e
      exact Option.some.inj e
    subst e'
    unfold gT
    exact k _ (rs.set r i) fun vs h => wipe_set (h i (by unfold TgD.slots; exact List.mem_singleton.mpr rfl))
  | .tp ts, .tup ds, v, ρ, ρ', σ, Q, r, rs, e, k => by
    obtain ⟨a, vs, rfl, ha, q⟩ := r.tupV
    unfold TgD.asg at e
    unfold gT
    have hl := asgs_len e
    exact ⟨a, vs, rfl, SqT.of ha, by rw [← q.length, ← hl], asgs_ok q rs e fun σ' r' w => k σ' r' fun ws h => w ws (by unfold TgD.slots at h; exact h)⟩
  | .tp ts, .non, v, ρ, ρ', σ, Q, r, rs, e, k => by unfold TgD.asg at e; cases e
  | .tp ts, .bl _, v, ρ, ρ', σ, Q, r, rs, e, k => by unfold TgD.asg at e; cases e
  | .tp ts, .int _, v, ρ, ρ', σ, Q, r, rs, e, k => by unfold TgD.asg at e; cases e
  | .tp ts, .str _, v, ρ, ρ', σ, Q, r, rs, e, k => by unfold TgD.asg at e; cases e
  | .tp ts, .rl _, v, ρ, ρ', σ, Q, r, rs, e, k => by unfold TgD.asg at e; cases e
  | .tp ts, .ref _, v, ρ, ρ', σ, Q, r, rs, e, k => by unfold TgD.asg at e; cases e
  | .tp ts, .ty _, v, ρ, ρ', σ, Q, r, rs, e, k => by unfold TgD.asg at e; cases e
theorem asgs_len : ∀ {ts : List TgD} {ds : List D} {ρ ρ' : StD}, TgD.asgs ts ds ρ = some ρ' → ts.length = ds.length
  | [], [], _, _, _ => rfl
  | [], _ :: _, _, _, e => by unfold TgD.asgs at e; cases e
  | _ :: _, [], _, _, e => by unfold TgD.asgs at e; cases e
  | t :: ts, d :: ds, ρ, ρ', e => by
    unfold TgD.asgs at e
    cases z : t.asg d ρ with
    | none => rw [z] at e; cases e
    | some ρ1 =>
      rw [z] at e
      rw [List.length_cons, List.length_cons, asgs_len e]
theorem asgs_ok {K : PySem.W.Frag} {H : Hp} : ∀ {ts : List TgD} {ds : List D} {vs : List V} {ρ ρ' : StD} {σ : L2.St} {Q : L2.St → Hp → Prop}, RDs K H ds vs → RelS K H ρ σ → TgD.asgs ts ds ρ = some ρ' → (∀ σ', RelS K H ρ' σ' → (∀ vs, (∀ i ∈ TgD.slotss ts, i ∈ vs) → wipe σ' vs = wipe σ vs) → Q σ' H) → gTs K ts vs σ H Q
  | [], [], vs, ρ, ρ', σ, Q, r, rs, e, k => by
    cases r
    have e' : ρ = ρ' := by
      unfold TgD.asgs at e
      exact Option.some.inj e
    subst e'
    unfold gTs
    exact ⟨rfl, k σ rs fun _ _ => rfl⟩
  | [], _ :: _, _, _, _, _, _, _, _, e, _ => by unfold TgD.asgs at e; cases e
  | _ :: _, [], _, _, _, _, _, _, _, e, _ => by unfold TgD.asgs at e; cases e
  | t :: ts, d :: ds, vs, ρ, ρ', σ, Q, r, rs, e, k => by
    unfold TgD.asgs at e
    cases z : t.asg d ρ with
    | none => rw [z] at e; cases e
    | some ρ1 =>
      rw [z] at e
      cases r with
      | @cons _ v _ vr r rr =>
        unfold gTs
        refine ⟨v, vr, rfl, asg_ok r rs z fun σ1 rs1 w1 => asgs_ok rr rs1 e fun σ2 rs2 w2 => k σ2 rs2 fun ws h => ?_⟩
        unfold TgD.slotss at h
        rw [w2 ws fun i hi => h i (List.mem_append_right _ hi), w1 ws fun i hi => h i (List.mem_append_left _ hi)]
end
section
variable {X : Cx} {cs : Addr → Option (List Str)} {a b c e : Expr} {ta tb tc te : TED} {pos : Pos} {st : Stmt} {rest body : List Stmt} {t u : TSD}
def PGD (X : Cx) (target : Expr) (t : TgD) : Prop := PG X target (gT X.K t)
def PGsD (X : Cx) (ts : List Expr) (t : List TgD) : Prop := PGs X ts (gTs X.K t)
theorem pgd_name (i : Nat) {x : Str} (hN : X.N.Nodup) (hi : X.N[i]? = some x := by rfl) (hx : Loc X.env.scope x := by first | exact Or.inl rfl | exact Or.inr rfl) (hf : X.fn x = true ∨ X.env.scope.names.lookup x = some .local := by first | exact .inl rfl | exact .inr rfl | assumption) : PGD X (.Name x pos) (.nm i) := by
  unfold PGD gT
  exact pg_name hN hi hx hf
theorem pgsd_nil : PGsD X [] [] := by
  unfold PGsD gTs
  exact pgs_nil
theorem pgsd_cons {es : List Expr} {t : TgD} {ts : List TgD} (h : PGD X e t) (g : PGsD X es ts) (hs : (assignEach (e :: es) X.env).map (·.2) = assign e X.env :: (assignEach es X.env).map (·.2) := by rfl) : PGsD X (e :: es) (t :: ts) := by
  unfold PGsD gTs
  exact pgs_cons h g hs
theorem pgd_tup {es : List Expr} {k : Nat} {ts : List TgD} (hc : X.calm = true) (h : PGsD X es ts) (hn : (assignEach es X.env).length = ts.length := by rfl) (hst : (assignEach es X.env).findIdx? (·.1) = none := by rfl) : PGD X (.Tuple es k pos) (.tp ts) := by
  unfold PGD gT
  exact pg_tup hc h hn hst
/-! ### statements -/
def sNx : TSD := fun D ρ H => D.nx ρ H
def sSeq (t u : TSD) : TSD := fun D ρ H => t { D with nx := u D } ρ H
theorem pssd_nil : PSsD X cs [] sNx := ⟨PSs.of pss_nil fun Dn σ H h => by
  obtain ⟨ρ, Hd, Dd, rs, rh, h, k1, k2, k3, k4⟩ := h
  exact k1 σ ρ H Hd (.refl H) rh rs h⟩
theorem pssd_cons (h1 : PSD X cs st t) (h2 : PSsD X cs rest u) : PSsD X cs (st :: rest) (sSeq t u) := ⟨PSs.of (pss_cons h1.ps h2.ps) fun Dn σ H h => by
  obtain ⟨ρ, Hd, Dd, rs, rh, h, k1, k2, k3, k4⟩ := h
  refine ⟨ρ, Hd, { Dd with nx := u Dd }, rs, rh, h, fun σ' ρ' H' Hd' e rh' rs' q => ?_, k2, k3, k4⟩
  exact ⟨ρ', Hd', Dd, rs', rh', q, k1.ext e, k2.ext e, k3.ext e, k4.ext e⟩⟩
theorem pssd_one (h : PSD X cs st t) : PSsD X cs [st] t := ⟨pss_one h.ps⟩
theorem psd_pass : PSD X cs (.Pass pos) sNx := ⟨PS.of ps_pass fun Dn σ H h => by
  obtain ⟨ρ, Hd, Dd, rs, rh, h, k1, k2, k3, k4⟩ := h
  exact k1 σ ρ H Hd (.refl H) rh rs h⟩
theorem psd_doc {x j pos'} : PSD X cs (.Expr (.Constant (.str x) j pos) pos') sNx := ⟨PS.of ps_doc fun Dn σ H h => by
  obtain ⟨ρ, Hd, Dd, rs, rh, h, k1, k2, k3, k4⟩ := h
  exact k1 σ ρ H Hd (.refl H) rh rs h⟩
def sDrop (te : TED) : TSD := fun D ρ H => te ρ H fun _ H1 => D.nx ρ H1
theorem psd_expr (he : PD X cs e te) (hs : swapsWith e none pos.line X.env = pure false := by rfl) : PSD X cs (.Expr e pos) (sDrop te) := ⟨PS.of (ps_expr he.pe hs) fun Dn σ H h => by
  obtain ⟨ρ, Hd, Dd, rs, rh, h, k1, k2, k3, k4⟩ := h
  exact ⟨ρ, Hd, _, rs, rh, h, fun v H1 x Hd1 e1 rh1 rv h1 => k1 σ ρ H1 Hd1 e1 rh1 (rs.ext e1) h1⟩⟩
def sRet (te : TED) : TSD := fun D ρ H => te ρ H D.rt
theorem psd_ret (he : PD X cs e te) : PSD X cs (.Return (some e) pos) (sRet te) := ⟨PS.of (ps_ret he.pe) fun Dn σ H h => by
  obtain ⟨ρ, Hd, Dd, rs, rh, h, k1, k2, k3, k4⟩ := h
  exact ⟨ρ, Hd, _, rs, rh, h, k2⟩⟩
def sRetN : TSD := fun D _ H => D.rt .non H
theorem psd_retN : PSD X cs (.Return none pos) sRetN := ⟨PS.of ps_retN fun Dn σ H h => by
  obtain ⟨ρ, Hd, Dd, rs, rh, h, k1, k2, k3, k4⟩ := h
  exact k2 .non H .non Hd (.refl H) rh .non h⟩
def sIf (c : TTD) (t u : TSD) : TSD := fun D ρ H => c ρ H fun b H1 => if b = true then t D ρ H1 else u D ρ H1
theorem psd_if {tt : TTD} {ba bb : List Stmt} (hc : PTD X cs c tt) (ha : PSsD X cs ba t) (hb : PSsD X cs bb u) : PSD X cs (.If c ba bb pos) (sIf tt t u) := ⟨PS.of (ps_if hc.pt ha.ps hb.ps) fun Dn σ H h => by
  obtain ⟨ρ, Hd, Dd, rs, rh, h, k1, k2, k3, k4⟩ := h
  refine ⟨ρ, Hd, _, rs, rh, h, fun b H1 Hd1 e rh1 h1 => ?_⟩
  cases b with
  | true => exact ⟨ρ, Hd1, Dd, rs.ext e, rh1, h1, k1.ext e, k2.ext e, k3.ext e, k4.ext e⟩
  | false => exact ⟨ρ, Hd1, Dd, rs.ext e, rh1, h1, k1.ext e, k2.ext e, k3.ext e, k4.ext e⟩⟩
/-- target = value, names and tuples of names -/
def sAsg (te : TED) (tg : TgD) : TSD := fun D ρ H => te ρ H fun x H1 => match tg.asg x ρ with
  | some ρ' => D.nx ρ' H1
  | none => False
theorem lf_asg {tg : TgD} {Dn : Ends} {σ : L2.St} {H : Hp} (h : lfS ⟨X.K, cs⟩ (sAsg te tg) Dn σ H) : tAsg (lfE ⟨X.K, cs⟩ te) (gT X.K tg) Dn σ H := by
  obtain ⟨ρ, Hd, Dd, rs, rh, h, k1, k2, k3, k4⟩ := h
  refine ⟨ρ, Hd, _, rs, rh, h, fun v H1 x Hd1 e1 rh1 rv h1 => ?_⟩
  cases z : tg.asg x ρ with
  | none => rw [z] at h1; exact h1.elim
  | some ρ' =>
    rw [z] at h1
    exact asg_ok rv (rs.ext e1) z fun σ' rs' _ => k1 σ' ρ' H1 Hd1 e1 rh1 rs' h1
theorem psd_asg {tg : Expr} {g : TgD} (he : PD X cs e te) (hg : PGD X tg g) (hs : swapsWithSole [tg] e pos.line X.env = pure false := by rfl) (hw : swappedStores [tg] e X.env = pure none := by rfl)
    (h1 : (assignEach [tg] X.env).map (·.2) = [assign tg X.env] := by rfl) : PSD X cs (.Assign [tg] e pos) (sAsg te g) := ⟨PS.of (ps_asg he.pe hg hs hw h1) fun _ _ _ h => lf_asg h⟩
theorem psd_set (i : Nat) {x : Str} {pos' : Pos} (hN : X.N.Nodup) (he : PD X cs e te) (hi : X.N[i]? = some x := by rfl) (hx : Loc X.env.scope x := by first | exact Or.inl rfl | exact Or.inr rfl) (hs : swapsWith e (some (.Name x pos')) pos.line X.env = pure false := by rfl)
    (hf : X.fn x = true ∨ X.env.scope.names.lookup x = some .local := by first | exact .inl rfl | exact .inr rfl | assumption) : PSD X cs (.Assign [.Name x pos'] e pos) (sAsg te (.nm i)) := ⟨PS.of (ps_set hN hi hx he.pe hs hf) fun Dn σ H h => by
  have q := lf_asg h
  unfold gT at q
  exact q⟩
/-- o[i] = v -/
def sSub (tv to ti : TED) : TSD := fun D ρ H => tv ρ H fun v H1 => to ρ H1 fun o H2 => ti ρ H2 fun i H3 => match o with
  | .ref a => ∃ c, H3 a = some c ∧ (match c with
    | .lst ds => ∃ k j, i = .int k ∧ ixN ds.length k = some j ∧ D.nx ρ (upD H3 a (.lst (ds.set j v)))
    | .dK kvs => ∃ k, keyD i = some k ∧ kvs.length < sizeLine ∧ D.nx ρ (upD H3 a (.dK (putP kvs k v)))
    | .dT kvs => ∃ ks k, i = .tup ks ∧ keysD ks = some k ∧ kvs.length < sizeLine ∧ D.nx ρ (upD H3 a (.dT (putP kvs k v)))
    | _ => False)
  | _ => False
theorem set_dictR (hu : X.A.units + 1 < cLine) : PSet X (fun o i v H Q => ∃ a H', o = .ref a ∧ DPut H a i v H' ∧ Q H') := by
  intro pins s σ H o i v ov iv u Q I ro ri r h
  obtain ⟨a, H', rfl, g, q⟩ := h
  cases ro
  exact d_setItem hu I g ri r fun s' I' => ⟨H', I', q⟩
theorem PSet.or {t t' : TSet} (h : PSet X t) (h' : PSet X t') : PSet X (fun o i v H Q => t o i v H Q ∨ t' o i v H Q) := by
  intro pins s σ H o i v ov iv u Q I ro ri r q
  rcases q with q | q
  · exact h pins s σ H o i v ov iv u Q I ro ri r q
  · exact h' pins s σ H o i v ov iv u Q I ro ri r q
theorem psd_sub {tv to ti : TED} {o i : Expr} {pos' : Pos} (hu : X.A.units + 1 < cLine) (he : PD X cs e tv) (ho : PD X cs o to) (hi : PD X cs i ti) (hs : swapsWithSole [.Subscript o i pos'] e pos.line X.env = pure false := by rfl) (hw : swappedStores [.Subscript o i pos'] e X.env = pure none := by rfl)
    (h1 : (assignEach [.Subscript o i pos'] X.env).map (·.2) = [assign (.Subscript o i pos') X.env] := by rfl)
    (ha : ∀ v, assign (.Subscript o i pos') X.env v = (do
      let ov ← holding [v] (eval o X.env)
      let iv ← holding [v, ov] (eval i X.env)
      standAt pos'
      holding [v, ov, iv] (setItem ov iv v)
      release [v, ov, iv] []) := by intro _; rfl) : PSD X cs (.Assign [.Subscript o i pos'] e pos) (sSub tv to ti) := ⟨PS.of (ps_asg he.pe (pg_sub ho.pe hi.pe (PSet.or set_list (set_dictR hu)) ha) hs hw h1) fun Dn σ H h => by
  obtain ⟨ρ, Hd, Dd, rs, rh, h, k1, k2, k3, k4⟩ := h
  refine ⟨ρ, Hd, _, rs, rh, h, fun v H1 x Hd1 e1 rh1 rv h1 => ?_⟩
  refine ⟨ρ, Hd1, _, rs.ext e1, rh1, h1, fun w H2 y Hd2 e2 rh2 rw h2 => ?_⟩
  refine ⟨ρ, Hd2, _, rs.ext (e1.trans e2), rh2, h2, fun z H3 d3 Hd3 e3 rh3 rz h3 => ?_⟩
  have e13 := (e1.trans e2).trans e3
  have rv3 := rv.ext (e2.trans e3)
  cases y with
  | ref a =>
    cases rw
    obtain ⟨c, ec, h3⟩ := h3
    cases c with
    | lst ds =>
      obtain ⟨k, j, rfl, hj, h3⟩ := h3
      cases rz
      obtain ⟨vs, g, r⟩ := rh3 _ _ ec
      refine .inl ⟨a, vs, k, j, rfl, rfl, g, by rw [← r.length]; exact hj, ?_⟩
      exact k1 σ ρ _ _ (e13.trans (.mut g trivial)) (rh3.mutL g (r.set rv3 j)) (rs.ext (e13.trans (.mut g trivial))) h3
    | dK kvs =>
      obtain ⟨k, ek, hl, h3⟩ := h3
      obtain ⟨vs, g, r⟩ := rh3 _ _ ec
      have q := put_ok (k := k) rv3 r
      refine .inr ⟨a, _, rfl, .inl ⟨vs, k, g, keyD_ok rz ek, by rw [← r.length]; exact hl, rfl⟩, ?_⟩
      exact k1 σ ρ _ _ (e13.trans (.mut g trivial)) (rh3.mut (c := .dK _) g trivial ⟨_, upd_same, q.ext (.mut g trivial)⟩) (rs.ext (e13.trans (.mut g trivial))) h3
    | dT kvs =>
      obtain ⟨ks, k, rfl, ek, hl, h3⟩ := h3
      obtain ⟨vs, g, r⟩ := rh3 _ _ ec
      have q := put_ok (k := k) rv3 r
      obtain ⟨p, ws, rfl, hp, r1⟩ := rz.tupV
      rw [keysD_ok r1 ek] at hp
      refine .inr ⟨a, _, rfl, .inr ⟨vs, k, p, g, rfl, hp, by rw [← r.length]; exact hl, rfl⟩, ?_⟩
      exact k1 σ ρ _ _ (e13.trans (.mut g trivial)) (rh3.mut (c := .dT _) g trivial ⟨_, upd_same, q.ext (.mut g trivial)⟩) (rs.ext (e13.trans (.mut g trivial))) h3
    | _ => exact h3.elim
  | _ => exact h3.elim⟩
/-- o.f = v -/
def sFl (C : Addr) (i : Nat) (tv to : TED) : TSD := fun D ρ H => tv ρ H fun v H1 => to ρ H1 fun o H2 => match o with
  | .ref a => ∃ fs, H2 a = some (.ins C fs) ∧ Nat.ble i fs.length = true ∧ D.nx ρ (upD H2 a (.ins C (putI i v fs)))
  | _ => False
theorem psd_fld (G : Gm.Ok ⟨X.K, cs⟩) (C : Addr) {ord : List Str} (hC : cs C = some ord) (i : Nat) {f : Str} {tv to : TED} {o : Expr} {pos' : Pos} (he : PD X cs e tv) (ho : PD X cs o to) (hi : ord[i]? = some f := by rfl)
    (hs : swapsWith e (some (.Attribute o f pos')) pos.line X.env = pure false := by rfl) : PSD X cs (.Assign [.Attribute o f pos'] e pos) (sFl C i tv to) := ⟨PS.of (ps_fld ho.pe he.pe hs) fun Dn σ H h => by
  obtain ⟨ρ, Hd, Dd, rs, rh, h, k1, k2, k3, k4⟩ := h
  refine ⟨ρ, Hd, _, rs, rh, h, fun v H1 x Hd1 e1 rh1 rv h1 => ?_⟩
  refine ⟨ρ, Hd1, _, rs.ext e1, rh1, h1, fun w H2 y Hd2 e2 rh2 rw h2 => ?_⟩
  cases y with
  | ref a =>
    cases rw
    obtain ⟨fs, e, hl, h2⟩ := h2
    obtain ⟨ord', dx, vs, c1, c2, c3, c4⟩ := rh2 _ _ e
    have eo : ord' = ord := Option.some.inj (c1.symm.trans hC)
    subst eo
    obtain ⟨t1, t2, t3, t4⟩ := G.cls C ord' hC
    have hil : i < ord'.length := (List.getElem?_eq_some_iff.mp hi).1
    have hl' : i ≤ fs.length := Nat.le_of_ble_eq_true hl
    have lv := c3.length
    rw [lv] at c4
    have q := (rv.ext e2)
    have z := zip_put (v := v) t2 hi (by rw [← lv]; exact hl') (by rw [← lv]; exact c2)
    refine ⟨a, C, dx, _, rfl, c4, t1, t4 f (List.mem_of_getElem? hi), ?_, ?_⟩
    · rw [List.length_zip, List.length_take]
      omega
    · rw [z]
      have ex : TupX H2 (upd H2 a (.ins C dx ((ord'.take (putI i v vs).length).zip (putI i v vs)))) := .mut c4 trivial
      refine k1 σ ρ _ _ ((e1.trans e2).trans ex) (rh2.mut (c := .ins C (putI i x fs)) c4 trivial ⟨ord', dx, putI i v vs, hC, ?_, (RDs.putI q c3 i).ext ex, ?_⟩) (rs.ext ((e1.trans e2).trans ex)) h2
      · rw [putI_length]
        split <;> omega
      · rw [upd_same, (RDs.putI q c3 i).length]
  | _ => exact h2.elim⟩
/-! ### loops -/
structure ItD where
  ds : List D
  stay : HD → Prop
def RelI (G : Gm) (H0 : Hp) (J : It) (I : ItD) : Prop := ∀ (i : Nat) (H : Hp) (Hd : HD), TupX H0 H → RelH G H Hd → I.stay Hd →
  (∀ d, I.ds[i]? = some d → J.go i H ∧ ∀ x H', J.yld i H x H' → TupX H H' ∧ RelH G H' Hd ∧ RD G.K H' d x) ∧ (I.ds.length ≤ i → J.stop i H)
abbrev TID := StD → HD → (ItD → HD → Prop) → Prop
def lfI (G : Gm) (w : TID) : TI := fun σ H R => ∃ ρ Hd Rd, RelS G.K H ρ σ ∧ RelH G H Hd ∧ w ρ Hd Rd ∧ ∀ J H' I Hd', TupX H H' → RelH G H' Hd' → RelI G H' J I → Rd I Hd' → R J H'
structure PID (X : Cx) (cs : Addr → Option (List Str)) (tg iter : Expr) (w : TID) : Prop where
  pi : PI X tg iter (lfI ⟨X.K, cs⟩ w)
theorem PI.of {tg iter : Expr} {w w' : TI} (h : PI X tg iter w) (k : ∀ σ H R, w' σ H R → w σ H R) : PI X tg iter w' := ⟨fun pins s σ H R I q => h.run pins s σ H R I (k σ H R q)⟩
def loopD (I : ItD) (tg : TgD) (tb : TSD) (D : EndsD) : List Lt.D → StD → HD → Prop
  | [], ρ, H => I.stay H ∧ D.nx ρ H
  | d :: r, ρ, H => I.stay H ∧ match tg.asg d ρ with
    | some ρ' => tb { D with nx := loopD I tg tb D r, ct := loopD I tg tb D r, bk := D.nx } ρ' H
    | none => False
def sFor (w : TID) (tg : TgD) (tb : TSD) : TSD := fun D ρ H => w ρ H fun I H1 => loopD I tg tb D I.ds ρ H1
theorem loopD_stay {I : ItD} {tg : TgD} {tb : TSD} {D : EndsD} {ds : List Lt.D} {ρ : StD} {H : HD} (h : loopD I tg tb D ds ρ H) : I.stay H := by
  cases ds with
  | nil => exact h.1
  | cons d r => exact h.1
theorem lf_for {w : TID} {g : TgD} {tb : TSD} {Dn : L2.Ends} {σ : L2.St} {H : Hp} (h : lfS ⟨X.K, cs⟩ (sFor w g tb) Dn σ H) : L2.tFor (lfI ⟨X.K, cs⟩ w) (gT X.K g) (lfS ⟨X.K, cs⟩ tb) Dn σ H := by
  obtain ⟨ρ, Hd, Dd, rs, rh, h, k1, k2, k3, k4⟩ := h
  refine ⟨ρ, Hd, _, rs, rh, h, fun J H1 I Hd1 e1 rh1 rI h1 => ?_⟩
  refine ⟨fun i m σ' H' => m = I.ds.length - i ∧ i ≤ I.ds.length ∧ TupX H1 H' ∧ ∃ ρ' Hd', RelS X.K H' ρ' σ' ∧ RelH ⟨X.K, cs⟩ H' Hd' ∧ loopD I g tb Dd (I.ds.drop i) ρ' Hd', ⟨_, rfl, Nat.zero_le _, .refl _, ρ, Hd1, rs.ext e1, rh1, h1⟩, ?_⟩
  rintro i m σ' H' ⟨rfl, hi, ex, ρ', Hd', rs', rh', l⟩
  obtain ⟨r1, r2⟩ := rI i H' Hd' ex rh' (loopD_stay l)
  by_cases hlt : i < I.ds.length
  · have ed : I.ds.drop i = I.ds[i] :: I.ds.drop (i + 1) := List.drop_eq_getElem_cons hlt
    rw [ed] at l
    obtain ⟨sty, l⟩ := l
    obtain ⟨go, yl⟩ := r1 _ (List.getElem?_eq_getElem hlt)
    refine .inr ⟨go, fun σ2 H2 => i + 1 ≤ I.ds.length ∧ TupX H1 H2 ∧ ∃ ρ2 Hd2, RelS X.K H2 ρ2 σ2 ∧ RelH ⟨X.K, cs⟩ H2 Hd2 ∧ loopD I g tb Dd (I.ds.drop (i + 1)) ρ2 Hd2, fun σ2 H2 z => ⟨_, by omega, rfl, z⟩, fun x H2 y => ?_⟩
    obtain ⟨e2, rh2, rd⟩ := yl x H2 y
    cases z : g.asg I.ds[i] ρ' with
    | none => rw [z] at l; exact l.elim
    | some ρ2 =>
      rw [z] at l
      refine asg_ok rd (rs'.ext e2) z fun σ3 rs3 _ => ⟨ρ2, Hd', _, rs3, rh2, l, fun σ4 ρ4 H4 Hd4 e4 rh4 rs4 h4 => ?_, (k2.ext (((e1.trans ex).trans e2))), fun σ4 ρ4 H4 Hd4 e4 rh4 rs4 h4 => ?_, fun σ4 ρ4 H4 Hd4 e4 rh4 rs4 h4 => ?_⟩
      · exact ⟨hlt, (ex.trans e2).trans e4, ρ4, Hd4, rs4, rh4, h4⟩
      · exact k1 σ4 ρ4 H4 Hd4 (((e1.trans ex).trans e2).trans e4) rh4 rs4 h4
      · exact ⟨hlt, (ex.trans e2).trans e4, ρ4, Hd4, rs4, rh4, h4⟩
  · have ei : i = I.ds.length := by omega
    subst ei
    rw [List.drop_length] at l
    exact .inl ⟨r2 (Nat.le_refl _), k1 σ' ρ' H' Hd' (e1.trans ex) rh' rs' l.2⟩
theorem psd_for {tg iter : Expr} {w : TID} {g : TgD} {tb : TSD} (hp : PassesOwn (model X.prog X.w) X.A X.env X.xe) (hc : X.calm = true) (hi : PID X cs tg iter w) (hg : PGD X tg g) (hb : PSsD X cs body tb)
    (hs : ∀ x, foldedSetIterable iter X.env x = pure x := by intro _; rfl) : PSD X cs (.For tg iter body [] pos) (sFor w g tb) := ⟨PS.of (ps_for hp hc hi.pi hg hb.ps hs) fun _ _ _ h => lf_for h⟩
def iLs (tl : TED) : TID := fun ρ H R => tl ρ H fun x H1 => match x with
  | .ref a => ∃ ds, H1 a = some (.lst ds) ∧ R ⟨ds, fun H => H a = some (.lst ds)⟩ H1
  | .rl ds => R ⟨ds, fun _ => True⟩ H1
  | _ => False
theorem pid_list {tg l : Expr} {tl : TED} (hl : PD X cs l tl) : PID X cs tg l (iLs tl) := ⟨PI.of (pi_list hl.pe) fun σ H R h => by
  obtain ⟨ρ, Hd, Rd, rs, rh, h, k⟩ := h
  refine ⟨ρ, Hd, _, rs, rh, h, fun v H1 x Hd1 e1 rh1 rv h1 => ?_⟩
  cases x with
  | ref a =>
    cases rv
    obtain ⟨ds, e, h1⟩ := h1
    obtain ⟨vs, g, r⟩ := rh1 _ _ e
    refine ⟨a, rfl, ⟨vs, SqL.of g⟩, k _ H1 _ Hd1 e1 rh1 (fun i H' Hd' ex rh' st => ?_) h1⟩
    obtain ⟨ws, g', r'⟩ := rh' _ _ st
    refine ⟨fun d hd => ?_, fun hl => ⟨ws, SqL.of g', by rw [← r'.length]; exact hl⟩⟩
    obtain ⟨v, h1, h2⟩ := r'.get hd
    refine ⟨⟨ws, v, SqL.of g', h1⟩, fun x H2 y => ?_⟩
    obtain ⟨rfl, y⟩ := y
    have q := y ws (SqL.of g')
    rw [h1] at q
    cases q
    exact ⟨.refl _, rh', h2⟩
  | rl ds =>
    obtain ⟨a, vs, rfl, hp, r⟩ := rv.rlV
    refine ⟨a, rfl, ⟨vs, hp.sq⟩, k _ H1 _ Hd1 e1 rh1 (fun i H' Hd' ex rh' st => ?_) h1⟩
    have hp' := (hp.ext ex.w).sq
    refine ⟨fun d hd => ?_, fun hl => ⟨vs, hp', by rw [← r.length]; exact hl⟩⟩
    obtain ⟨v, h1, h2⟩ := r.get hd
    refine ⟨⟨vs, v, hp', h1⟩, fun x H2 y => ?_⟩
    obtain ⟨rfl, y⟩ := y
    have q := y vs hp'
    rw [h1] at q
    cases q
    exact ⟨.refl _, rh', h2.ext ex⟩
  | _ => exact h1.elim⟩
def iTp (tl : TED) : TID := fun ρ H R => tl ρ H fun x H1 => match x with
  | .tup ds => R ⟨ds, fun _ => True⟩ H1
  | _ => False
theorem pid_tup {tg l : Expr} {tl : TED} (hl : PD X cs l tl) : PID X cs tg l (iTp tl) := ⟨PI.of (pi_tup hl.pe) fun σ H R h => by
  obtain ⟨ρ, Hd, Rd, rs, rh, h, k⟩ := h
  refine ⟨ρ, Hd, _, rs, rh, h, fun v H1 x Hd1 e1 rh1 rv h1 => ?_⟩
  cases x with
  | tup ds =>
    obtain ⟨a, vs, rfl, hp, r⟩ := rv.tupV
    refine ⟨a, rfl, ⟨vs, SqT.of hp⟩, k _ H1 _ Hd1 e1 rh1 (fun i H' Hd' ex rh' st => ?_) h1⟩
    have hp' : SqT X.K H' a vs := SqT.of (ex.t _ _ hp)
    refine ⟨fun d hd => ?_, fun hl => ⟨vs, hp', by rw [← r.length]; exact hl⟩⟩
    obtain ⟨v, h1, h2⟩ := r.get hd
    refine ⟨⟨vs, v, hp', h1⟩, fun x H2 y => ?_⟩
    obtain ⟨rfl, y⟩ := y
    have q := y vs hp'
    rw [h1] at q
    cases q
    exact ⟨.refl _, rh', h2.ext ex⟩
  | _ => exact h1.elim⟩
def rngD (lo : Int) (n : Nat) : List D := (List.range n).map fun i => .int (lo + (i : Nat))
theorem rel_rng {G : Gm} {H : Hp} {lo : Int} {n : Nat} : RelI G H (Itr lo n) ⟨rngD lo n, fun _ => True⟩ := fun i H' Hd' ex rh' st => by
  refine ⟨fun d hd => ?_, fun hl => (show n ≤ i by simpa [rngD] using hl)⟩
  unfold rngD at hd
  rw [List.getElem?_map] at hd
  have hi : i < n := by
    rcases Nat.lt_or_ge i n with z | z
    · exact z
    · rw [List.getElem?_eq_none (by simpa using z)] at hd
      cases hd
  rw [List.getElem?_range hi] at hd
  have e : d = .int (lo + (i : Nat)) := (Option.some.inj hd).symm
  subst e
  refine ⟨hi, fun x H2 y => ?_⟩
  obtain ⟨rfl, rfl⟩ := y
  exact ⟨.refl _, rh', .int⟩
def iR1 (t : TAD) : TID := fun ρ H R => t ρ H fun xs H1 => match xs with
  | [.int j] => (-(2 ^ 62) ≤ j ∧ j < 2 ^ 62) ∧ R ⟨rngD 0 j.toNat, fun _ => True⟩ H1
  | _ => False
def iR2 (t : TAD) : TID := fun ρ H R => t ρ H fun xs H1 => match xs with
  | [.int i, .int j] => (-(2 ^ 62) ≤ i ∧ i < 2 ^ 62 ∧ -(2 ^ 62) ≤ j ∧ j < 2 ^ 62) ∧ R ⟨rngD i (j - i).toNat, fun _ => True⟩ H1
  | _ => False
theorem lf_rng1 {t : TAD} {σ : L2.St} {H : Hp} {R : It → Hp → Prop} (h : lfI ⟨X.K, cs⟩ (iR1 t) σ H R) : L2.iRng1 (lfA ⟨X.K, cs⟩ t) σ H R := by
  obtain ⟨ρ, Hd, Rd, rs, rh, h, k⟩ := h
  refine ⟨ρ, Hd, _, rs, rh, h, fun vs H1 xs Hd1 e1 rh1 rv h1 => ?_⟩
  match xs, h1 with
  | [.int j], h1 =>
    cases rv with
    | cons q z =>
      cases q; cases z
      exact ⟨j, rfl, h1.1.1, h1.1.2, k _ H1 _ Hd1 e1 rh1 rel_rng h1.2⟩
theorem pid_rng1 {tg : Expr} {t : TAD} {p : Pos} (hm : X.mg "range" = none) (ha : PAD X cs [a] t) (hg : Gl X "range" := by rfl) (hs : starEach [a] X.env = [(false, eval a X.env)] := by rfl) : PID X cs tg (.Call (.Name "range" p) [a] [] pos) (iR1 t) := ⟨PI.of (pi_range1 hg hm ha.pa hs) fun _ _ _ h => lf_rng1 h⟩
theorem pid_rng2 {tg : Expr} {t : TAD} {p : Pos} (hm : X.mg "range" = none) (ha : PAD X cs [a, b] t) (hg : Gl X "range" := by rfl) (hs : starEach [a, b] X.env = (false, eval a X.env) :: starEach [b] X.env := by rfl) (hs2 : starEach [b] X.env = [(false, eval b X.env)] := by rfl) : PID X cs tg (.Call (.Name "range" p) [a, b] [] pos) (iR2 t) := ⟨PI.of (pi_range2 hg hm ha.pa (by first | exact hs | (rw [hs, hs2]) | assumption) (by first | exact hs2 | assumption)) fun σ H R h => by
  obtain ⟨ρ, Hd, Rd, rs, rh, h, k⟩ := h
  refine ⟨ρ, Hd, _, rs, rh, h, fun vs H1 xs Hd1 e1 rh1 rv h1 => ?_⟩
  match xs, h1 with
  | [.int i, .int j], h1 =>
    cases rv with
    | cons q z =>
      cases q
      cases z with
      | cons q z =>
        cases q; cases z
        exact ⟨i, j, rfl, h1.1, k _ H1 _ Hd1 e1 rh1 rel_rng h1.2⟩⟩
def enumD : Nat → List D → List D
  | _, [] => []
  | n, d :: r => .tup [.int (n : Nat), d] :: enumD (n + 1) r
theorem enumD_length : ∀ (ds : List D) (n : Nat), (enumD n ds).length = ds.length
  | [], _ => rfl
  | _ :: r, n => by rw [enumD, List.length_cons, List.length_cons, enumD_length r]
theorem enumD_get : ∀ {ds : List D} {n i : Nat} {d : D}, (enumD n ds)[i]? = some d → ∃ z, ds[i]? = some z ∧ d = .tup [.int ((n + i : Nat) : Int), z]
  | [], n, i, d, h => by simp [enumD] at h
  | z :: r, n, 0, d, h => by
    have e : D.tup [.int (n : Nat), z] = d := by simpa [enumD] using h
    exact ⟨z, rfl, e.symm⟩
  | z :: r, n, i + 1, d, h => by
    have h' : (enumD (n + 1) r)[i]? = some d := by simpa [enumD] using h
    obtain ⟨y, h1, h2⟩ := enumD_get h'
    refine ⟨y, by simpa using h1, ?_⟩
    rw [h2]
    have e : n + 1 + i = n + (i + 1) := by omega
    rw [e]
def iEn (t : TAD) : TID := fun ρ H R => t ρ H fun xs H1 => match xs with
  | [.ref a] => ∃ ds, H1 a = some (.lst ds) ∧ R ⟨enumD 0 ds, fun H => H a = some (.lst ds)⟩ H1
  | _ => False
theorem pid_enum {t : TAD} {p tpos : Pos} {elts : List Expr} {kk : Nat} (hm : X.mg "enumerate" = none) (ha : PAD X cs [e] t) (hg : Gl X "enumerate" := by rfl) (hs : starEach [e] X.env = [(false, eval e X.env)] := by rfl) :
    PID X cs (.Tuple elts kk tpos) (.Call (.Name "enumerate" p) [e] [] pos) (iEn t) := ⟨PI.of (pi_enum hg hm ha.pa hs) fun σ H R h => by
  obtain ⟨ρ, Hd, Rd, rs, rh, h, k⟩ := h
  refine ⟨ρ, Hd, _, rs, rh, h, fun vs H1 xs Hd1 e1 rh1 rv h1 => ?_⟩
  match xs, h1 with
  | [.ref a], h1 =>
    cases rv with
    | cons q z =>
      cases q; cases z
      obtain ⟨ds, ea, h1⟩ := h1
      obtain ⟨vs, g, r⟩ := rh1 _ _ ea
      refine ⟨a, vs, rfl, SqL.of g, k _ H1 _ Hd1 e1 rh1 (fun i H' Hd' ex rh' st => ?_) h1⟩
      obtain ⟨ws, g', r'⟩ := rh' _ _ st
      refine ⟨fun d hd => ?_, fun hl => ⟨ws, SqL.of g', by rw [← r'.length]; rw [enumD_length] at hl; exact hl⟩⟩
      obtain ⟨z, hz, rfl⟩ := enumD_get hd
      obtain ⟨v, h1, h2⟩ := r'.get hz
      refine ⟨⟨ws, v, SqL.of g', h1⟩, fun x H2 y => ?_⟩
      obtain ⟨T, y0, rfl, hT, rfl, y⟩ := y
      have q := y ws (SqL.of g')
      rw [h1] at q
      cases q
      have ei : 0 + i = i := Nat.zero_add i
      rw [ei]
      exact ⟨.new hT, rh'.newT hT, .tup upd_same (.cons .int (.cons (h2.ext (.new hT)) .nil))⟩⟩
def kD : Key → D
  | .inl i => .int i
  | .inr x => .str x
theorem kD_ok {K : PySem.W.Frag} {H : Hp} (k : Key) : RD K H (kD k) (kV k) := by cases k <;> constructor
theorem kDs_ok {K : PySem.W.Frag} {H : Hp} : ∀ ks : List Key, RDs K H (ks.map kD) (ks.map kV)
  | [] => .nil
  | k :: r => .cons (kD_ok k) (kDs_ok r)
theorem RKV.get {K : PySem.W.Frag} {H : Hp} {κ : Type} : ∀ {ds : List (κ × D)} {vs : List (κ × V)} {i : Nat} {p : κ × D}, RKV K H ds vs → ds[i]? = some p → ∃ v, vs[i]? = some (p.1, v)
  | _, _, _, _, .nil, e => by simp at e
  | x :: _, q :: _, 0, p, .cons r _, e => by
    have e' : x = p := by simpa using e
    subst e'
    exact ⟨q.2, by rw [r.1]; rfl⟩
  | _, _, i + 1, p, .cons _ t, e => by
    obtain ⟨v, h⟩ := RKV.get (i := i) (p := p) t (by simpa using e)
    exact ⟨v, by simpa using h⟩
def iKy (td : TED) : TID := fun ρ H R => td ρ H fun x H1 => match x with
  | .ref a => ∃ c, H1 a = some c ∧ (match c with
    | .rdK kvs => R ⟨kvs.map fun p => kD p.1, fun _ => True⟩ H1
    | .rdT kvs => R ⟨kvs.map fun p => .tup (p.1.map kD), fun _ => True⟩ H1
    | _ => False)
  | _ => False
theorem pid_keys {tg : Expr} (he : PD X cs e te) : PID X cs tg e (iKy te) := ⟨PI.of (pi_keys he.pe) fun σ H R h => by
  obtain ⟨ρ, Hd, Rd, rs, rh, h, k⟩ := h
  refine ⟨ρ, Hd, _, rs, rh, h, fun v H1 x Hd1 e1 rh1 rv h1 => ?_⟩
  cases x with
  | ref a =>
    cases rv
    obtain ⟨c, ec, h1⟩ := h1
    cases c with
    | rdK kvs =>
      obtain ⟨o, vs, g, r⟩ := rh1 _ _ ec
      refine ⟨a, o, rfl, .inl ⟨vs, g, k _ H1 _ Hd1 e1 rh1 (fun i H' Hd' ex rh' st => ?_) h1⟩⟩
      have g' := ex.z _ _ _ g
      refine ⟨fun d hd => ?_, fun hl => ⟨g', by rw [← r.length]; simpa using hl⟩⟩
      rw [List.getElem?_map] at hd
      cases z : kvs[i]? with
      | none => rw [z] at hd; cases hd
      | some p =>
        rw [z] at hd
        have ed : d = kD p.1 := (Option.some.inj hd).symm
        subst ed
        obtain ⟨v, hv⟩ := r.get z
        refine ⟨⟨g', (List.getElem?_eq_some_iff.mp hv).1⟩, fun x H2 y => ?_⟩
        obtain ⟨rfl, k', v', y1, rfl⟩ := y
        rw [hv] at y1
        have ek : p.1 = k' := congrArg Prod.fst (Option.some.inj y1)
        rw [← ek]
        exact ⟨.refl _, rh', kD_ok _⟩
    | rdT kvs =>
      obtain ⟨o, vs, g, r⟩ := rh1 _ _ ec
      refine ⟨a, o, rfl, .inr ⟨vs, g, k _ H1 _ Hd1 e1 rh1 (fun i H' Hd' ex rh' st => ?_) h1⟩⟩
      have g' := ex.z _ _ _ g
      refine ⟨fun d hd => ?_, fun hl => ⟨g', by rw [← r.length]; simpa using hl⟩⟩
      rw [List.getElem?_map] at hd
      cases z : kvs[i]? with
      | none => rw [z] at hd; cases hd
      | some p =>
        rw [z] at hd
        have ed : d = .tup (p.1.map kD) := (Option.some.inj hd).symm
        subst ed
        obtain ⟨v, hv⟩ := r.get z
        refine ⟨⟨g', (List.getElem?_eq_some_iff.mp hv).1⟩, fun x H2 y => ?_⟩
        obtain ⟨rfl, k', v', q, y1, rfl, hq⟩ := y
        rw [hv] at y1
        have ek : p.1 = k' := congrArg Prod.fst (Option.some.inj y1)
        rw [← ek] at hq
        exact ⟨.refl _, rh', .tup hq (kDs_ok _)⟩
    | _ => exact h1.elim
  | _ => exact h1.elim⟩
/-! ### while -/
def sWhile (c : TTD) (tb : TSD) : TSD := fun D ρ H => ∃ W : Nat → StD → HD → Prop, (∃ m, W m ρ H) ∧ ∀ m ρ H, W m ρ H →
  c ρ H fun b H1 => if b = true then tb { D with nx := fun ρ' H' => ∃ m', m' < m ∧ W m' ρ' H', ct := fun ρ' H' => ∃ m', m' < m ∧ W m' ρ' H', bk := D.nx } ρ H1 else D.nx ρ H1
theorem psd_while {tt : TTD} {tb : TSD} (hp : PassesOwn (model X.prog X.w) X.A X.env X.xe) (hc : PTD X cs c tt) (hb : PSsD X cs body tb) : PSD X cs (.While c body [] pos) (sWhile tt tb) := ⟨PS.of (ps_while hp hc.pt hb.ps) fun Dn σ H h => by
  obtain ⟨ρ, Hd, Dd, rs, rh, ⟨W, ⟨m0, w0⟩, turn⟩, k1, k2, k3, k4⟩ := h
  refine ⟨fun m σ' H' => TupX H H' ∧ ∃ ρ' Hd', RelS X.K H' ρ' σ' ∧ RelH ⟨X.K, cs⟩ H' Hd' ∧ W m ρ' Hd', ⟨m0, .refl H, ρ, Hd, rs, rh, w0⟩, ?_⟩
  rintro m σ' H' ⟨ex, ρ', Hd', rs', rh', w⟩
  refine ⟨ρ', Hd', _, rs', rh', turn m ρ' Hd' w, fun b H1 Hd1 e1 rh1 h1 => ?_⟩
  have exx := ex.trans e1
  cases b with
  | true =>
    refine ⟨fun σ2 H2 => ∃ m', m' < m ∧ TupX H H2 ∧ ∃ ρ2 Hd2, RelS X.K H2 ρ2 σ2 ∧ RelH ⟨X.K, cs⟩ H2 Hd2 ∧ W m' ρ2 Hd2, fun σ2 H2 z => z, ρ', Hd1, _, rs'.ext e1, rh1, h1, fun σ4 ρ4 H4 Hd4 e4 rh4 rs4 h4 => ?_, k2.ext exx, k1.ext exx, fun σ4 ρ4 H4 Hd4 e4 rh4 rs4 h4 => ?_⟩
    · obtain ⟨m', hm, w'⟩ := h4
      exact ⟨m', hm, exx.trans e4, ρ4, Hd4, rs4, rh4, w'⟩
    · obtain ⟨m', hm, w'⟩ := h4
      exact ⟨m', hm, exx.trans e4, ρ4, Hd4, rs4, rh4, w'⟩
  | false => exact k1 σ' ρ' H1 Hd1 exx rh1 (rs'.ext e1) h1⟩
end
end Lt

end
section
set_option Elab.async false
set_option linter.all false
set_option maxRecDepth 100000
set_option maxHeartbeats 2000000
/-! Dn0: exceptions whose context is told: what the layer wants of them. -/
namespace Lt
open PySem PySem.Spec PyProof.Rows L2
theorem takes0N {X : Cx} : L2N.Takes X (fun _ _ _ _ => False) := fun _ _ h => by
  obtain ⟨_, _, _, _, _, _, _, _, h⟩ := h
  exact h.2.2.2.2.2.2.2.2.elim
theorem fun_okN {P : Program} {w : World} {K : PySem.W.Frag} {mg : Str → Option Value} {base : Heap} {x qual : Str} {st : Stmt} {f : Addr} {fd : FuncData} {N ps : List Str} {k : Nat} {sp : Sp} (F : Fun K x qual st f fd) (S : FnScope N ps (defScope st))
    (len : ∀ vs H Q E, sp vs H Q E → vs.length = ps.length)
    (body : ∀ (cdv : Value) (A : Around) (outer : List Env) (s : Shared) (H : Hp) (vs : List V) (Q : VK) (E : XK), Room k (A.deeper (envOfC qual (defScope st) s.heap.objs.size f cdv)) → sp vs H Q E →
      ∃ t, PSs (cxOf (L2N.CX P w) P w K mg base N qual (defScope st) f cdv A outer s H E) (defBody st) t ∧ t { nx := fun _ H' => Q .non H', rt := Q } (start N vs) H) : FnOk P w K mg base (L2N.CX P w) (k + 1) f fd ps sp := by
  obtain ⟨⟨_, _, _, _, _, _, _, _, _, rfl, found, code⟩, _⟩ := F
  exact fn_of found code S len fun A outer s H vs Q E room wish => body _ A outer s H vs Q E room wish
end Lt

end
section
set_option Elab.async false
set_option linter.all false
set_option maxRecDepth 100000
set_option maxHeartbeats 2000000
/-! Dl6: comprehensions, locks, calls. -/
namespace Lt
open PySem PySem.Spec L2
def wipeD (ρ : StD) : List Nat → StD
  | [] => ρ
  | v :: vs => (wipeD ρ vs).set v none
theorem RelS.wipe {K : PySem.W.Frag} {H : Hp} {ρ : StD} {σ : L2.St} (r : RelS K H ρ σ) : ∀ vs : List Nat, RelS K H (wipeD ρ vs) (L2.wipe σ vs)
  | [] => r
  | v :: vs => (RelS.wipe r vs).none v
theorem wipe_idem {σ : L2.St} : ∀ {ws vs : List Nat}, (∀ i ∈ ws, i ∈ vs) → L2.wipe (L2.wipe σ ws) vs = L2.wipe σ vs
  | [], _, _ => rfl
  | w :: ws, vs, h => by
    show L2.wipe ((L2.wipe σ ws).set w none) vs = _
    rw [wipe_set (h w (List.mem_cons_self ..)), wipe_idem fun i hi => h i (List.mem_cons_of_mem _ hi)]
section
variable {X : Cx} {cs : Addr → Option (List Str)} {a b c e : Expr} {ta tb tc te : TED} {pos : Pos} {st : Stmt} {rest body : List Stmt} {t u : TSD}
structure PTsD (X : Cx) (cs : Addr → Option (List Str)) (ifs : List Expr) (t : TTD) : Prop where
  pts : PTs X ifs (lfT ⟨X.K, cs⟩ t)
theorem PTs.of {ifs : List Expr} {t t' : TT} (h : PTs X ifs t) (w : ∀ σ H Q, t' σ H Q → t σ H Q) : PTs X ifs t' := ⟨fun pins s σ H Q I q => h.run pins s σ H Q I (w σ H Q q)⟩
def tYs : TTD := fun _ H Q => Q true H
theorem ptsd_nil : PTsD X cs [] tYs := ⟨PTs.of pts_nil fun σ H Q h => by
  obtain ⟨ρ, Hd, Qd, rs, rh, h, k⟩ := h
  exact k true H Hd (.refl H) rh h⟩
theorem ptsd_one {t : TTD} (h : PTD X cs e t) : PTsD X cs [e] t := ⟨pts_one h.pt⟩
def lcD (I : ItD) (tg : TgD) (tt : TTD) (te : TED) (ρ0 : StD) (p : Addr) (Q : QD) : List D → List D → HD → Prop
  | [], _, H => I.stay H ∧ Q (.ref p) H
  | d :: r, acc, H => I.stay H ∧ match tg.asg d ρ0 with
    | some ρ' => tt ρ' H fun b H3 => if b = true then te ρ' H3 fun y H4 => H4 p = some (.lst acc) ∧ Nat.ble acc.length 100000 = true ∧ lcD I tg tt te ρ0 p Q r (acc ++ [y]) (upD H4 p (.lst (acc ++ [y]))) else lcD I tg tt te ρ0 p Q r acc H3
    | none => False
theorem lcD_stay {I : ItD} {tg : TgD} {tt : TTD} {te : TED} {ρ0 : StD} {p : Addr} {Q : QD} {ds acc : List D} {H : HD} (h : lcD I tg tt te ρ0 p Q ds acc H) : I.stay H := by
  cases ds with
  | nil => exact h.1
  | cons d r => exact h.1
def tLcG (w : TID) (tg : TgD) (tt : TTD) (te : TED) (vs : List Nat) : TED := fun ρ H Q => w ρ H fun I H1 => ∀ p, H1 p = none → lcD I tg tt te (wipeD ρ vs) p Q I.ds [] (upD H1 p (.lst []))
theorem lf_lc {w : TID} {tg : TgD} {tt : TTD} {vs : List Nat} (hsl : ∀ i ∈ tg.slots, i ∈ vs) {σ : L2.St} {H : Hp} {Q : VK} (h : lfE ⟨X.K, cs⟩ (tLcG w tg tt te vs) σ H Q) :
    L2.tLc (lfI ⟨X.K, cs⟩ w) (gT X.K tg) (lfT ⟨X.K, cs⟩ tt) (lfE ⟨X.K, cs⟩ te) vs σ H Q := by
  obtain ⟨ρ, Hd, Qd, rs, rh, h, k⟩ := h
  refine ⟨ρ, Hd, _, rs, rh, h, fun J H1 I Hd1 e1 rh1 rI h1 => ?_⟩
  intro p hp
  have h2 := h1 p (rh1.free hp)
  have eN : TupX H1 (upd H1 p (.lst [])) := .new hp
  refine ⟨fun i m H' => m = I.ds.length - i ∧ i ≤ I.ds.length ∧ TupX H1 H' ∧ ∃ acc Hd', RelH ⟨X.K, cs⟩ H' Hd' ∧ lcD I tg tt te (wipeD ρ vs) p Qd (I.ds.drop i) acc Hd', ⟨_, rfl, Nat.zero_le _, eN, [], _, rh1.newL hp .nil, h2⟩, ?_⟩
  rintro i m H' ⟨rfl, hi, ex, acc, Hd', rh', l⟩
  obtain ⟨r1, r2⟩ := rI i H' Hd' ex rh' (lcD_stay l)
  by_cases hlt : i < I.ds.length
  · have ed : I.ds.drop i = I.ds[i] :: I.ds.drop (i + 1) := List.drop_eq_getElem_cons hlt
    rw [ed] at l
    obtain ⟨sty, l⟩ := l
    obtain ⟨go, yl⟩ := r1 _ (List.getElem?_eq_getElem hlt)
    refine .inr ⟨go, fun H2 => i + 1 ≤ I.ds.length ∧ TupX H1 H2 ∧ ∃ acc Hd2, RelH ⟨X.K, cs⟩ H2 Hd2 ∧ lcD I tg tt te (wipeD ρ vs) p Qd (I.ds.drop (i + 1)) acc Hd2, fun H2 z => ⟨_, by omega, rfl, z⟩, fun x H2 y => ?_⟩
    obtain ⟨e2, rh2, rd⟩ := yl x H2 y
    have rsw : RelS X.K H2 (wipeD ρ vs) (L2.wipe σ vs) := (rs.ext ((e1.trans ex).trans e2)).wipe vs
    cases z : tg.asg I.ds[i] (wipeD ρ vs) with
    | none => rw [z] at l; exact l.elim
    | some ρ2 =>
      rw [z] at l
      refine asg_ok rd rsw z fun σ3 rs3 ww => ⟨(ww vs hsl).trans (wipe_idem fun _ h => h), ?_⟩
      refine ⟨ρ2, Hd', _, rs3, rh2, l, fun bb H4 Hd4 e4 rh4 h4 => ?_⟩
      cases bb with
      | true =>
        refine ⟨ρ2, Hd4, _, rs3.ext e4, rh4, h4, fun v H5 d Hd5 e5 rh5 rv h5 => ?_⟩
        obtain ⟨g1, g2, h5⟩ := h5
        obtain ⟨ws, gp, gr⟩ := rh5 _ _ g1
        have hl : ws.length < sizeLine := by
          rw [← gr.length]
          exact Nat.lt_of_le_of_lt (Nat.le_of_ble_eq_true g2) (by decide)
        have em : TupX H5 (upd H5 p (.lst (ws ++ [v]))) := .mut gp trivial
        exact ⟨ws, gp, hl, hlt, (((ex.trans e2).trans e4).trans e5).trans em, _, _, rh5.mutL gp (gr.append (.one rv)), h5⟩
      | false => exact ⟨hlt, (ex.trans e2).trans e4, acc, Hd4, rh4, h4⟩
  · have ei : i = I.ds.length := by omega
    subst ei
    rw [List.drop_length] at l
    exact .inl ⟨r2 (Nat.le_refl _), k _ H' _ Hd' (e1.trans ex) rh' .ref l.2⟩
theorem pd_lc {elt tg iter : Expr} {ifs : List Expr} {scope : Scope} (own : List (Str × Nat)) {w : TID} {g : TgD} {tt : TTD} (hc : X.calm = true) (hN : X.N.Nodup) (hi : PID X cs tg iter w)
    (hg : ∀ (s : Shared) (H : Hp) (C : Addr) (cl : List (Str × Addr)) (fp : List Addr), PGD (X.blk s H scope (compEnvC scope cl C X.env) fp) tg g) (ht : ∀ (s : Shared) (H : Hp) (C : Addr) (cl : List (Str × Addr)) (fp : List Addr), PTsD (X.blk s H scope (compEnvC scope cl C X.env) fp) cs ifs tt)
    (he : ∀ (s : Shared) (H : Hp) (C : Addr) (cl : List (Str × Addr)) (fp : List Addr), PD (X.blk s H scope (compEnvC scope cl C X.env) fp) cs elt te) (ok : BlkOk X.N X.env.scope scope own := by exact blkOk_by (by kernel_rfl))
    (hsl : ∀ i ∈ g.slots, i ∈ own.map (·.2) := by decide) (hs : ∀ x, foldedSetIterable iter X.env x = pure x := by intro _; rfl) : PD X cs (.ListComp elt [⟨tg, iter, ifs, 0⟩] scope pos) (tLcG w g tt te (own.map (·.2))) :=
  ⟨PE.of (pe_lc (g := gT X.K g) hc hN hi.pi ok (fun s H C cl fp => hg s H C cl fp) (fun s H C cl fp => (ht s H C cl fp).pts) (fun s H C cl fp => (he s H C cl fp).pe) hs) fun _ _ _ h => lf_lc hsl h⟩
theorem psd_setLc (i : Nat) {y : Str} {py : Pos} {elt tg iter : Expr} {ifs : List Expr} {scope : Scope} {spos : Pos} (own : List (Str × Nat)) {w : TID} {g : TgD} {tt : TTD} (hc : X.calm = true) (hN : X.N.Nodup) (hi : PID X cs tg iter w)
    (hg : ∀ (s : Shared) (H : Hp) (C : Addr) (cl : List (Str × Addr)) (fp : List Addr), PGD (X.blk s H scope (compEnvC scope cl C X.env) fp) tg g) (ht : ∀ (s : Shared) (H : Hp) (C : Addr) (cl : List (Str × Addr)) (fp : List Addr), PTsD (X.blk s H scope (compEnvC scope cl C X.env) fp) cs ifs tt)
    (he : ∀ (s : Shared) (H : Hp) (C : Addr) (cl : List (Str × Addr)) (fp : List Addr), PD (X.blk s H scope (compEnvC scope cl C X.env) fp) cs elt te) (hy : X.N[i]? = some y := by rfl) (hyl : X.env.scope.names.lookup y = some .local := by rfl)
    (hsw : swapsWith (.ListComp elt [⟨tg, iter, ifs, 0⟩] scope pos) (some (.Name y py)) spos.line X.env = pure true := by exact sw_true rfl rfl rfl (by decide +kernel)) (ok : BlkOk X.N X.env.scope scope own := by exact blkOk_by (by kernel_rfl))
    (hsl : ∀ i ∈ g.slots, i ∈ own.map (·.2) := by decide) (hs : ∀ x, foldedSetIterable iter X.env x = pure x := by intro _; rfl) : PSD X cs (.Assign [.Name y py] (.ListComp elt [⟨tg, iter, ifs, 0⟩] scope pos) spos) (sAsg (tLcG w g tt te (own.map (·.2))) (.nm i)) :=
  ⟨PS.of (ps_setLc (g := gT X.K g) hc hN hy hyl hsw hi.pi ok (fun s H C cl fp => hg s H C cl fp) (fun s H C cl fp => (ht s H C cl fp).pts) (fun s H C cl fp => (he s H C cl fp).pe) hs) fun Dn σ H h => by
    obtain ⟨ρ, Hd, Dd, rs, rh, h, k1, k2, k3, k4⟩ := h
    have h' : lfE ⟨X.K, cs⟩ (tLcG w g tt te (own.map (·.2))) σ H (fun x H1 => gName i x σ H1 Dn.nx) := by
      refine ⟨ρ, Hd, _, rs, rh, h, fun v H1 x Hd1 e1 rh1 rv h1 => ?_⟩
      exact k1 _ _ H1 Hd1 e1 rh1 ((rs.ext e1).set rv i) h1
    exact lf_lc (te := te) hsl h'⟩
/-! ### locks -/
def lkD : DO → Option DO
  | .dK kvs => some (.rdK kvs)
  | .dT kvs => some (.rdT kvs)
  | _ => none
def tLkE (t : TED) : TED := fun ρ H Q => ∃ d c c', H d = some c ∧ lkD c = some c' ∧ t ρ (upD H d c') fun x H' => Q x (upD H' d c)
def sLk (t : TSD) : TSD := fun D ρ H => ∃ d c c', H d = some c ∧ lkD c = some c' ∧ t ⟨fun ρ' H' => D.nx ρ' (upD H' d c), fun x H' => D.rt x (upD H' d c), fun ρ' H' => D.bk ρ' (upD H' d c), fun ρ' H' => D.ct ρ' (upD H' d c)⟩ ρ (upD H d c')
/-- the heap when it is locked, and when it is let go again -/
theorem lock_on {G : Gm} {H : Hp} {Hd : HD} {d : Addr} {c c' : DO} (rh : RelH G H Hd) (hc : Hd d = some c) (hl : lkD c = some c') :
    ∃ u, H d = some u ∧ Mut (some u) ∧ ∀ od, TupX H (upd H d (.frz od u)) ∧ RelH G (upd H d (.frz od u)) (upD Hd d c') ∧
      ∀ H' Hd', TupX (upd H d (.frz od u)) H' → RelH G H' Hd' → H' d = some (.frz od u) ∧ TupX H (upd H' d u) ∧ TupW H' (upd H' d u) ∧ RelH G (upd H' d u) (upD Hd' d c) := by
  have key : ∀ (u : HO), H d = some u → Chg u → Mut (some u) → (∀ od H', TupW H H' → H' d = some (.frz od u) → RelC G H' d c') → (∀ H', TupW H H' → H' d = some u → RelC G H' d c) →
      ∃ u, H d = some u ∧ Mut (some u) ∧ ∀ od, TupX H (upd H d (.frz od u)) ∧ RelH G (upd H d (.frz od u)) (upD Hd d c') ∧
      ∀ H' Hd', TupX (upd H d (.frz od u)) H' → RelH G H' Hd' → H' d = some (.frz od u) ∧ TupX H (upd H' d u) ∧ TupW H' (upd H' d u) ∧ RelH G (upd H' d u) (upD Hd' d c) := by
    intro u hu cu mu h1 h2
    refine ⟨u, hu, mu, fun od => ?_⟩
    have x1 : TupX H (upd H d (.frz od u)) := .mut hu cu
    refine ⟨x1, fun b w e => ?_, fun H' Hd' x2 rh' => ?_⟩
    · by_cases z : b = d
      · subst z
        rw [upD_same] at e
        cases e
        exact h1 od _ x1.w upd_same
      · rw [upD_ne z] at e
        exact (rh b w e).keep x1 (.mut hu cu) (upd_ne z)
    · have hd' : H' d = some (.frz od u) := x2.z _ _ _ upd_same
      have nt : ∀ xs, u ≠ .tup xs := fun xs z => by rw [z] at cu; exact cu
      have nl : ∀ xs, u ≠ .lst xs := fun xs z => by
        have := h2 H ⟨fun _ _ h => h, fun _ _ _ h => h⟩ hu
        cases c with
        | dK _ => obtain ⟨vs, q, _⟩ := this; rw [hu, z] at q; cases q
        | dT _ => obtain ⟨vs, q, _⟩ := this; rw [hu, z] at q; cases q
        | _ => cases hl
      have x3 : TupX H (upd H' d u) := by
        refine ⟨fun a xs q => ?_, fun a o w q => ?_⟩
        · have ne : a ≠ d := fun z => by rw [z, hu] at q; exact nt xs (Option.some.inj q)
          rw [upd_ne ne]
          exact x2.t a xs (by rw [upd_ne ne]; exact q)
        · have ne : a ≠ d := fun z => by
            rw [z, hu] at q
            have := Option.some.inj q
            rw [this] at cu
            exact cu
          rw [upd_ne ne]
          exact x2.z a o w (by rw [upd_ne ne]; exact q)
      have w3 : TupW H' (upd H' d u) := by
        refine ⟨fun a xs q => ?_, fun a o xs q => ?_⟩
        · have ne : a ≠ d := fun z => by rw [z, hd'] at q; cases q
          rw [upd_ne ne]; exact q
        · have ne : a ≠ d := fun z => by
            rw [z, hd'] at q
            exact nl xs (by injection (Option.some.inj q))
          rw [upd_ne ne]; exact q
      refine ⟨hd', x3, w3, fun b w e => ?_⟩
      by_cases z : b = d
      · subst z
        rw [upD_same] at e
        cases e
        exact h2 _ x3.w upd_same
      · rw [upD_ne z] at e
        exact (rh' b w e).keepW w3 ⟨fun a p q => by rw [upd_ne (fun z => by rw [z, hd'] at q; cases q)]; exact q⟩ (upd_ne z)
  cases c with
  | dK kvs =>
    have ec : c' = .rdK kvs := (Option.some.inj hl).symm
    subst ec
    obtain ⟨vs, g, r⟩ := rh _ _ hc
    exact key _ g trivial trivial (fun od H' w q => ⟨od, vs, q, r.extW w⟩) fun H' w q => ⟨vs, q, r.extW w⟩
  | dT kvs =>
    have ec : c' = .rdT kvs := (Option.some.inj hl).symm
    subst ec
    obtain ⟨vs, g, r⟩ := rh _ _ hc
    exact key _ g trivial trivial (fun od H' w q => ⟨od, vs, q, r.extW w⟩) fun H' w q => ⟨vs, q, r.extW w⟩
  | _ => cases hl
theorem RelS.extW {K : PySem.W.Frag} {H H' : Hp} {ρ : StD} {σ : L2.St} (r : RelS K H ρ σ) (e : TupW H H') : RelS K H' ρ σ :=
  ⟨r.len, fun i d h => let ⟨v, h1, h2⟩ := r.at_ i d h; ⟨v, h1, h2.extW e⟩⟩
theorem pd_lock (h : PD X cs e te) : PD X cs e (tLkE te) := ⟨PE.of (pe_lock h.pe) fun σ H Q h => by
  obtain ⟨ρ, Hd, Qd, rs, rh, ⟨d, c, c', hc, hl, h⟩, k⟩ := h
  obtain ⟨u, hu, mu, lk⟩ := lock_on rh hc hl
  refine ⟨d, u, hu, mu, fun od => ?_⟩
  obtain ⟨x1, rh1, un⟩ := lk od
  refine ⟨ρ, _, _, rs.ext x1, rh1, h, fun v H' x Hd' e' rh' rv q => ?_⟩
  obtain ⟨g1, g2, g3, g4⟩ := un H' Hd' e' rh'
  exact ⟨g1, k _ _ _ _ g2 g4 (rv.extW g3) q⟩⟩
theorem psd_lock (h : PSD X cs st t) : PSD X cs st (sLk t) := ⟨PS.of (ps_lock h.ps) fun Dn σ H h => by
  obtain ⟨ρ, Hd, Dd, rs, rh, ⟨d, c, c', hc, hl, h⟩, k1, k2, k3, k4⟩ := h
  obtain ⟨u, hu, mu, lk⟩ := lock_on rh hc hl
  refine ⟨d, u, hu, mu, fun od => ?_⟩
  obtain ⟨x1, rh1, un⟩ := lk od
  refine ⟨ρ, _, _, rs.ext x1, rh1, h, fun σ' ρ' H' Hd' e' rh' rs' q => ?_, fun v H' x Hd' e' rh' rv q => ?_, fun σ' ρ' H' Hd' e' rh' rs' q => ?_, fun σ' ρ' H' Hd' e' rh' rs' q => ?_⟩
  all_goals obtain ⟨g1, g2, g3, g4⟩ := un H' Hd' e' rh'
  · exact ⟨g1, k1 _ _ _ _ g2 g4 (rs'.extW g3) q⟩
  · exact ⟨g1, k2 _ _ _ _ g2 g4 (rv.extW g3) q⟩
  · exact ⟨g1, k3 _ _ _ _ g2 g4 (rs'.extW g3) q⟩
  · exact ⟨g1, k4 _ _ _ _ g2 g4 (rs'.extW g3) q⟩⟩
/-! ### defs -/
abbrev SpD := List D → HD → QD → XD → Prop
def XRel (G : Gm) (H : Hp) (Hd : HD) (d : Option Addr) (fs : List (Str × D)) : Prop := (fs = [] ∧ d = none) ∨ ∃ dd vs, d = some dd ∧ H dd = some (.xd vs) ∧ RKV G.K H fs vs ∧ Hd dd = none
def ToX (G : Gm) (H : Hp) (Ed : XD) (E : XK) : Prop := ∀ C fs H' Hd' d, TupX H H' → RelH G H' Hd' → XRel G H' Hd' d fs → Ed C fs Hd' → E (.ref C) d H'
def lfSp (G : Gm) (sp : SpD) : Sp := fun vs H Q E => ∃ ds Hd Qd Ed, RDs G.K H ds vs ∧ RelH G H Hd ∧ sp ds Hd Qd Ed ∧ To G H Qd Q ∧ ToX G H Ed E
/-- what is wished of an exception, at the slots -/
abbrev WD := Addr → List (Str × D) → StD → HD → Prop
structure Wish (X : Cx) (cs : Addr → Option (List Str)) (W : WX) (wd : WD) : Prop where
  tk : L2N.Takes X W
  lk : ∀ C fs d σ ρ H Hd, TupX X.H_0 H → RelS X.K H ρ σ → RelH ⟨X.K, cs⟩ H Hd → XRel ⟨X.K, cs⟩ H Hd d fs → wd C fs ρ Hd → W (.ref C) d σ H
def noW : WD := fun _ _ _ _ => False
theorem wish0 : Wish X cs (fun _ _ _ _ => False) noW := ⟨takes0N, fun _ _ _ _ _ _ _ _ _ _ _ h => h⟩
theorem Inv.tupX {pins : List (Addr × Obj)} {σ : L2.St} {H : Hp} {s : Shared} (I : Inv X pins σ H s) : TupX X.H_0 H := ⟨I.base.tups, I.base.frzs⟩
end
/-- a def as its callers know it -/
structure Df (P : Program) (w : World) (K : PySem.W.Frag) (mg : Str → Option Value) (base : Heap) (cs : Addr → Option (List Str)) (k : Nat) (f : Addr) (sp : SpD) : Prop where
  ok : ∃ fd ps, FnOk P w K mg base (L2N.CX P w) k f fd ps (lfSp ⟨K, cs⟩ sp) ∧ Binds K fd ps []
  kp : PySem.W.keepIn K (.ref f) = true
theorem Df.mono {P : Program} {w : World} {K : PySem.W.Frag} {mg : Str → Option Value} {base : Heap} {cs : Addr → Option (List Str)} {j k : Nat} {f : Addr} {sp : SpD} (F : Df P w K mg base cs j f sp) (h : j ≤ k) : Df P w K mg base cs k f sp := by
  obtain ⟨⟨fd, ps, F, b⟩, kp⟩ := F
  exact ⟨⟨fd, ps, F.mono h, b⟩, kp⟩
section
variable {X : Cx} {cs : Addr → Option (List Str)} {a b c e : Expr} {ta tb tc te : TED} {pos : Pos} {st : Stmt} {rest body : List Stmt} {t u : TSD}
theorem run_df {W : WX} {wd : WD} {k : Nat} {f : Addr} {sp : SpD} {pins : List (Addr × Obj)} {σ : L2.St} {H : Hp} {s : Shared} {Q : VK} {us : List Value} {vs : List V} {ρ : StD} {Hd : HD} {ds : List D} {Qd : QD} (F : Df X.prog X.w X.K X.mg X.base cs k f sp) (hr : Room k X.A) (wl : Wish X cs W wd)
    (I : Inv X pins σ H s) (r : Vals vs us) (rs : RelS X.K H ρ σ) (rd : RDs X.K H ds vs) (rh : RelH ⟨X.K, cs⟩ H Hd) (h : sp ds Hd Qd (fun C fs Hx => wd C fs ρ Hx)) (k : To ⟨X.K, cs⟩ H Qd Q) : wpAny (model X.prog X.w) X.A (call (.ref f) us) (EP X pins σ Q) X.xe s := by
  obtain ⟨⟨fd, ps, F, hb⟩, _⟩ := F
  refine run_fnS (E := WE W) F hr hb (L2N.passAt wl.tk σ) I r ⟨ds, Hd, Qd, _, rd, rh, h, k, fun C fs H' Hd' d e rh' xr q => ?_⟩
  exact wl.lk C fs d σ ρ H' Hd' ((Inv.tupX I).trans e) (rs.ext e) rh' xr q
def tCal (sp : SpD) (wd : WD) (t : TAD) : TED := fun ρ H Q => t ρ H fun ds H1 => sp ds H1 Q fun C fs Hx => wd C fs ρ Hx
theorem pd_call {W : WX} {wd : WD} {k : Nat} {f : Addr} {sp : SpD} {t : TAD} {x : Str} {p : Pos} {es : List Expr} (F : Df X.prog X.w X.K X.mg X.base cs k f sp) (hr : Room k X.A) (wl : Wish X cs W wd) (hm : X.mg x = some (.ref f)) (ha : PAD X cs (e :: es) t) (hg : Gl X x := by rfl)
    (hdb : (x == ("__debug__" : Str)) = false := by decide) (he : starEach (e :: es) X.env = (false, eval e X.env) :: starEach es X.env := by rfl) (hpl : (backTo pos (starEach es X.env)).any (·.1) = false := by rfl) :
    PD X cs (.Call (.Name x p) (e :: es) [] pos) (tCal sp wd t) := by
  refine ⟨⟨fun pins s σ H Q I h => ?_⟩⟩
  obtain ⟨ρ, Hd, Qd, rs, rh, h, k⟩ := h
  refine wpAny_Call_Name_kw (ld_glob I hg hm ?_ hdb)
  refine PySem.W.callWith_K (h₀ := X.base) I.ok.mod.kin F.kp (thn (ha.pa.run pos pins s σ H (fun vs H1 => ∃ ds Hd1, TupX H H1 ∧ RelH ⟨X.K, cs⟩ H1 Hd1 ∧ RDs X.K H1 ds vs ∧ sp ds Hd1 Qd fun C fs Hx => wd C fs ρ Hx) I
    ⟨ρ, Hd, _, rs, rh, h, fun vs H1 ds Hd1 e1 rh1 rd h1 => ⟨ds, Hd1, e1, rh1, rd, h1⟩⟩) fun us s1 ⟨vs, H1, I1, r, ds, Hd1, e1, rh1, rd, q⟩ => ⟨I1.kIn, ?_⟩) he hpl
  exact run_df F hr wl I1 r (rs.ext e1) rd rh1 q (k.ext e1)
/-- o.m(e, ..) -/
def tMet (C : Addr) (sp : SpD) (wd : WD) (to : TED) (t : TAD) : TED := fun ρ H Q => to ρ H fun x H1 => match x with
  | .ref a => (∃ fs, H1 a = some (.ins C fs)) ∧ t ρ H1 fun ds H2 => sp (.ref a :: ds) H2 Q fun C fs Hx => wd C fs ρ Hx
  | _ => False
theorem meth_at (G : Gm.Ok ⟨X.K, cs⟩) {C : Addr} {ord : List Str} {m : Str} (hC : cs C = some ord) (hno : m ∉ ord) {H : Hp} {Hd : HD} (rh : RelH ⟨X.K, cs⟩ H Hd) {a : Addr} {fs : List D} (e : Hd a = some (.ins C fs)) :
    ∃ dx gs, H a = some (.ins C dx gs) ∧ gs.lookup m = none := by
  obtain ⟨ord', dx, vs, c1, c2, c3, c4⟩ := rh _ _ e
  have eo : ord' = ord := Option.some.inj (c1.symm.trans hC)
  subst eo
  exact ⟨dx, _, c4, zip_none fun h => hno (List.mem_of_mem_take h)⟩
theorem pd_meth {W : WX} {wd : WD} {k : Nat} {f C : Addr} {sp : SpD} {to : TED} {t : TAD} {m : Str} {o : Expr} {apos : Pos} {es : List Expr} {ord : List Str} {pl : Sem Bool} (G : Gm.Ok ⟨X.K, cs⟩) (hC : cs C = some ord) (hm : Meth X.K C m f) (F : Df X.prog X.w X.K X.mg X.base cs k f sp) (hr : Room k X.A) (wl : Wish X cs W wd)
    (ho : PD X cs o to) (ha : PAD X cs (e :: es) t) (hno : m ∉ ord := by decide) (hst : starEach (e :: es) X.env = (false, eval e X.env) :: starEach es X.env := by rfl) (hpl : (backTo pos (starEach es X.env)).any (·.1) = false := by rfl)
    (ht : eval (.Call (.Attribute o m apos) (e :: es) [] pos) X.env = (do
      let ov ← eval o X.env
      standAt apos.atName
      let (f, first) ← holding [ov] (getMethod ov m pl)
      callWith pos f first (backTo pos (starEach (e :: es) X.env)) (backToKw pos (keywordEach [] X.env))) := by rfl) :
    PD X cs (.Call (.Attribute o m apos) (e :: es) [] pos) (tMet C sp wd to t) := by
  refine ⟨⟨fun pins s σ H Q I h => ?_⟩⟩
  obtain ⟨ρ, Hd, Qd, rs, rh, h, k⟩ := h
  refine PySem.W.methodCall_KW (pl := pl) (thn (ho.pe.run pins s σ H (fun v H1 => ∃ a dx gs Hd1, v = .ref a ∧ H1 a = some (.ins C dx gs) ∧ gs.lookup m = none ∧ TupX H H1 ∧ RelH ⟨X.K, cs⟩ H1 Hd1 ∧ t ρ Hd1 fun ds H2 => sp (.ref a :: ds) H2 Qd fun C fs Hx => wd C fs ρ Hx) I
    ⟨ρ, Hd, _, rs, rh, h, fun v H1 x Hd1 e1 rh1 rv h1 => ?_⟩) fun u s1 ⟨v, H1, I1, rv, a, dx, gs, Hd1, ev, ea, l, e1, rh1, q⟩ => ?_) ht
  · cases x with
    | ref a =>
      cases rv
      obtain ⟨⟨fs, ef⟩, h1⟩ := h1
      obtain ⟨dx, gs, g1, g2⟩ := meth_at G hC hno rh1 ef
      exact ⟨a, dx, gs, Hd1, rfl, g1, g2, e1, rh1, h1⟩
    | _ => exact h1.elim
  · subst ev
    obtain rfl : u = Value.ref a := rv
    refine getmeth_ok I1 ea (G.cls C ord hC).1 hm l ?_
    refine PySem.W.callWith_K (first := [.ref a]) (h₀ := X.base) I.ok.mod.kin hm.kp (thn (ha.pa.run pos pins s1 σ H1 (fun vs H2 => ∃ ds Hd2, TupX H1 H2 ∧ RelH ⟨X.K, cs⟩ H2 Hd2 ∧ RDs X.K H2 ds vs ∧ sp (.ref a :: ds) Hd2 Qd fun C fs Hx => wd C fs ρ Hx) I1
      ⟨ρ, Hd1, _, rs.ext e1, rh1, q, fun vs H2 ds Hd2 e2 rh2 rd h2 => ⟨ds, Hd2, e2, rh2, rd, h2⟩⟩) fun us s2 ⟨vs, H2, I2, r, ds, Hd2, e2, rh2, rd, q2⟩ => ⟨I2.kIn, ?_⟩) hst hpl
    exact run_df (us := .ref a :: us) (vs := .ref a :: vs) F hr wl I2 (.cons rfl r) (rs.ext (e1.trans e2)) (.cons .ref rd) rh2 q2 (k.ext (e1.trans e2))
theorem pd_meth0 {W : WX} {wd : WD} {k : Nat} {f C : Addr} {sp : SpD} {to : TED} {m : Str} {o : Expr} {apos : Pos} {ord : List Str} {pl : Sem Bool} (G : Gm.Ok ⟨X.K, cs⟩) (hC : cs C = some ord) (hm : Meth X.K C m f) (F : Df X.prog X.w X.K X.mg X.base cs k f sp) (hr : Room k X.A) (wl : Wish X cs W wd)
    (ho : PD X cs o to) (hno : m ∉ ord := by decide)
    (ht : eval (.Call (.Attribute o m apos) [] [] pos) X.env = (do
      let ov ← eval o X.env
      standAt apos.atName
      let (f, first) ← holding [ov] (getMethod ov m pl)
      callWith pos f first (backTo pos (starEach [] X.env)) (backToKw pos (keywordEach [] X.env))) := by rfl) :
    PD X cs (.Call (.Attribute o m apos) [] [] pos) (tMet C sp wd to tN) := by
  refine ⟨⟨fun pins s σ H Q I h => ?_⟩⟩
  obtain ⟨ρ, Hd, Qd, rs, rh, h, k⟩ := h
  refine PySem.W.methodCall_KW (pl := pl) (thn (ho.pe.run pins s σ H (fun v H1 => ∃ a dx gs Hd1, v = .ref a ∧ H1 a = some (.ins C dx gs) ∧ gs.lookup m = none ∧ TupX H H1 ∧ RelH ⟨X.K, cs⟩ H1 Hd1 ∧ sp [.ref a] Hd1 Qd fun C fs Hx => wd C fs ρ Hx) I
    ⟨ρ, Hd, _, rs, rh, h, fun v H1 x Hd1 e1 rh1 rv h1 => ?_⟩) fun u s1 ⟨v, H1, I1, rv, a, dx, gs, Hd1, ev, ea, l, e1, rh1, q⟩ => ?_) ht
  · cases x with
    | ref a =>
      cases rv
      obtain ⟨⟨fs, ef⟩, h1⟩ := h1
      obtain ⟨dx, gs, g1, g2⟩ := meth_at G hC hno rh1 ef
      exact ⟨a, dx, gs, Hd1, rfl, g1, g2, e1, rh1, h1⟩
    | _ => exact h1.elim
  · subst ev
    obtain rfl : u = Value.ref a := rv
    refine getmeth_ok I1 ea (G.cls C ord hC).1 hm l ?_
    exact PySem.W.callWith_K0 (first := [.ref a]) I1.kIn hm.kp (run_df (us := [.ref a]) (vs := [.ref a]) F hr wl I1 (.cons rfl .nil) (rs.ext e1) (.cons .ref .nil) rh1 q (k.ext e1))
/-- C(e, ..) -/
def tMak (C : Addr) (sp : SpD) (wd : WD) (t : TAD) : TED := fun ρ H Q => t ρ H fun ds H1 => ∀ x, H1 x = none → sp (.ref x :: ds) (upD H1 x (.ins C [])) (fun d H2 => isNon d = true ∧ Q (.ref x) H2) fun C fs Hx => wd C fs ρ Hx
theorem run_mk {W : WX} {wd : WD} {k : Nat} {f C : Addr} {sp : SpD} {pins : List (Addr × Obj)} {σ : L2.St} {H : Hp} {s : Shared} {Q : VK} {us : List Value} {vs : List V} {ρ : StD} {Hd : HD} {ds : List D} {Qd : QD} {ord : List Str} (hC : cs C = some ord) (M : Mk X.K C f) (F : Df X.prog X.w X.K X.mg X.base cs k f sp) (hr : Room (k + 1) X.A) (wl : Wish X cs W wd)
    (I : Inv X pins σ H s) (r : Vals vs us) (rs : RelS X.K H ρ σ) (rd : RDs X.K H ds vs) (rh : RelH ⟨X.K, cs⟩ H Hd) (h : ∀ x, Hd x = none → sp (.ref x :: ds) (upD Hd x (.ins C [])) (fun d H2 => isNon d = true ∧ Qd (.ref x) H2) fun C fs Hx => wd C fs ρ Hx) (k : To ⟨X.K, cs⟩ H Qd Q) :
    wpAny (model X.prog X.w) X.A (call (.ref C) us) (EP X pins σ Q) X.xe s := by
  obtain ⟨⟨fd, ps, F, hb⟩, _⟩ := F
  have n1 := I.hok.fresh (Nat.le_succ s.heap.objs.size)
  have n2 := I.hok.fresh (Nat.le_refl s.heap.objs.size)
  have ne : s.heap.objs.size ≠ s.heap.objs.size + 1 := Nat.ne_of_lt (Nat.lt_succ_self _)
  have I2 := Inv.made (C := C) I
  have x1 : TupX H (upd H s.heap.objs.size (.own (s.heap.objs.size + 1))) := .new n2
  have n1' : upd H s.heap.objs.size (.own (s.heap.objs.size + 1)) (s.heap.objs.size + 1) = none := by rw [upd_ne (Ne.symm ne)]; exact n1
  have x2 : TupX (upd H s.heap.objs.size (.own (s.heap.objs.size + 1))) (upd (upd H s.heap.objs.size (.own (s.heap.objs.size + 1))) (s.heap.objs.size + 1) (.ins C s.heap.objs.size [])) := .new n1'
  have x12 := x1.trans x2
  have rh2 : RelH ⟨X.K, cs⟩ (upd (upd H s.heap.objs.size (.own (s.heap.objs.size + 1))) (s.heap.objs.size + 1) (.ins C s.heap.objs.size [])) (upD Hd (s.heap.objs.size + 1) (.ins C [])) :=
    (rh.newT n2).new (c := .ins C []) n1' ⟨ord, s.heap.objs.size, [], hC, Nat.zero_le _, .nil, by rw [upd_same]; rfl⟩
  have hq : lfSp ⟨X.K, cs⟩ sp (.ref (s.heap.objs.size + 1) :: vs) (upd (upd H s.heap.objs.size (.own (s.heap.objs.size + 1))) (s.heap.objs.size + 1) (.ins C s.heap.objs.size [])) (fun v H2 => v = .non ∧ Q (.ref (s.heap.objs.size + 1)) H2) (WE W σ) := by
    refine ⟨.ref (s.heap.objs.size + 1) :: ds, _, _, _, .cons .ref (rd.ext x12), rh2, h _ (rh.free n1), fun v H' d Hd' e rh' rv q => ?_, fun C fs H' Hd' d e rh' xr q => ?_⟩
    · obtain ⟨q1, q2⟩ := q
      cases d with
      | non =>
        cases rv
        exact ⟨rfl, k _ H' _ Hd' (x12.trans e) rh' .ref q2⟩
      | _ => cases q1
    · exact wl.lk C fs d σ ρ H' Hd' (((Inv.tupX I).trans x12).trans e) (rs.ext (x12.trans e)) rh' xr q
  have r2 : Vals (V.ref (s.heap.objs.size + 1) :: vs) (Value.ref (s.heap.objs.size + 1) :: us) := .cons rfl r
  have hl : (Value.ref (s.heap.objs.size + 1) :: us).length = ps.length := by
    have e := r2.length
    rw [F.len _ _ _ _ hq] at e
    exact e.symm
  have b := hb { s with heap := _ } (Value.ref (s.heap.objs.size + 1) :: us) I2.kIn (by rw [List.append_nil]; exact hl)
  rw [List.append_nil] at b
  refine wpAny_call (make_map (f := f) I.kIn M.makes M.init (beq_iff_eq.mp M.fn) (codeAny_mono (F.run _ X.stack _ _ ⟨Value.ref (s.heap.objs.size + 1) :: us, []⟩ (Value.ref (s.heap.objs.size + 1) :: us) _ _ (WE W σ) (hr.make C us [])
    (I2.env0.make C us []) b r2 hq) fun r s' hq' => ?_))
  cases r with
  | error e => exact L2N.passAt wl.tk σ pins _ _ e s' I2 hq'
  | ok fl =>
    cases fl with
    | ret u =>
      obtain ⟨v, H', I3, rv, ev, q3⟩ := I2.after hq'
      subst ev
      exact ⟨rv, ⟨V.ref (s.heap.objs.size + 1), H', I3, rfl, q3⟩⟩
    | next => exact False.elim hq'
    | brk => exact False.elim hq'
    | cont => exact False.elim hq'
theorem pd_make {W : WX} {wd : WD} {k : Nat} {f C : Addr} {sp : SpD} {t : TAD} {x : Str} {p : Pos} {es : List Expr} {ord : List Str} (hC : cs C = some ord) (M : Mk X.K C f) (F : Df X.prog X.w X.K X.mg X.base cs k f sp) (hr : Room (k + 1) X.A) (wl : Wish X cs W wd) (hm : X.mg x = some (.ref C)) (ha : PAD X cs (e :: es) t) (hg : Gl X x := by rfl)
    (hdb : (x == ("__debug__" : Str)) = false := by decide) (he : starEach (e :: es) X.env = (false, eval e X.env) :: starEach es X.env := by rfl) (hpl : (backTo pos (starEach es X.env)).any (·.1) = false := by rfl) :
    PD X cs (.Call (.Name x p) (e :: es) [] pos) (tMak C sp wd t) := by
  refine ⟨⟨fun pins s σ H Q I h => ?_⟩⟩
  obtain ⟨ρ, Hd, Qd, rs, rh, h, k⟩ := h
  refine wpAny_Call_Name_kw (ld_glob I hg hm ?_ hdb)
  refine PySem.W.callWith_K (h₀ := X.base) I.ok.mod.kin M.kp (thn (ha.pa.run pos pins s σ H (fun vs H1 => ∃ ds Hd1, TupX H H1 ∧ RelH ⟨X.K, cs⟩ H1 Hd1 ∧ RDs X.K H1 ds vs ∧ ∀ x, Hd1 x = none → sp (.ref x :: ds) (upD Hd1 x (.ins C [])) (fun d H2 => isNon d = true ∧ Qd (.ref x) H2) fun C fs Hx => wd C fs ρ Hx) I
    ⟨ρ, Hd, _, rs, rh, h, fun vs H1 ds Hd1 e1 rh1 rd h1 => ⟨ds, Hd1, e1, rh1, rd, h1⟩⟩) fun us s1 ⟨vs, H1, I1, r, ds, Hd1, e1, rh1, rd, q⟩ => ⟨I1.kIn, ?_⟩) he hpl
  exact run_mk hC M F hr wl I1 r (rs.ext e1) rd rh1 q (k.ext e1)
end
end Lt

end
section
set_option Elab.async false
set_option linter.all false
set_option maxRecDepth 100000
set_option maxHeartbeats 2000000
/-! Dl7: built-in functions, methods of lists, the promise of a def. -/
namespace Lt
open PySem PySem.Spec L2
open PyProof.Rows (envOfC)
/-! ### sorting -/
section
variable {α : Type} (le : α → α → Bool)
def insL (x : α) : List α → List α
  | [] => [x]
  | y :: r => if le x y = true then x :: y :: r else y :: insL x r
def srt : List α → List α
  | [] => []
  | x :: r => insL le x (srt r)
theorem insL_perm (x : α) : ∀ l : List α, (insL le x l).Perm (x :: l)
  | [] => List.Perm.refl _
  | y :: r => by
    unfold insL
    split
    · exact List.Perm.refl _
    · exact ((insL_perm x r).cons y).trans (List.Perm.swap x y r)
theorem srt_perm : ∀ l : List α, (srt le l).Perm l
  | [] => List.Perm.refl _
  | x :: r => (insL_perm le x _).trans ((srt_perm r).cons x)
theorem insL_sorted (tot : ∀ a b, le a b = false → le b a = true) (tr : ∀ a b c, le a b = true → le b c = true → le a c = true) (x : α) : ∀ l : List α, l.Pairwise (fun a b => le a b = true) → (insL le x l).Pairwise (fun a b => le a b = true)
  | [], _ => List.pairwise_singleton _ _
  | y :: r, h => by
    obtain ⟨h1, h2⟩ := List.pairwise_cons.mp h
    unfold insL
    split
    · rename_i q
      refine List.pairwise_cons.mpr ⟨fun z hz => ?_, h⟩
      rcases List.mem_cons.mp hz with e | hz
      · rw [e]; exact q
      · exact tr x y z q (h1 z hz)
    · rename_i q
      have q' : le y x = true := tot x y (by simpa using q)
      refine List.pairwise_cons.mpr ⟨fun z hz => ?_, insL_sorted tot tr x r h2⟩
      rcases List.mem_cons.mp ((insL_perm le x r).mem_iff.mp hz) with e | hz
      · rw [e]; exact q'
      · exact h1 z hz
theorem srt_sorted (tot : ∀ a b, le a b = false → le b a = true) (tr : ∀ a b c, le a b = true → le b c = true → le a c = true) : ∀ l : List α, (srt le l).Pairwise (fun a b => le a b = true)
  | [] => List.Pairwise.nil
  | x :: r => insL_sorted le tot tr x _ (srt_sorted tot tr r)
theorem srt_uniq (tot : ∀ a b, le a b = false → le b a = true) (tr : ∀ a b c, le a b = true → le b c = true → le a c = true) (anti : ∀ a b, le a b = true → le b a = true → a = b) {l m : List α} (p : l.Perm m) (s : l.Pairwise (fun a b => le a b = true)) : l = srt le m := by
  have p2 : l.Perm (srt le m) := p.trans (srt_perm le m).symm
  exact p2.eq_of_pairwise (fun a b _ _ h1 h2 => anti a b h1 h2) s (srt_sorted le tot tr m)
end
def leI (a b : Int) : Bool := decide (a ≤ b)
def leP (a b : Int × Int) : Bool := decide (a.1 < b.1 ∨ (a.1 = b.1 ∧ a.2 ≤ b.2))
def sortI (ns : List Int) : List Int := srt leI ns
def sortP (ns : List (Int × Int)) : List (Int × Int) := srt leP ns
theorem sortI_uniq {l m : List Int} (p : l.Perm m) (s : l.Pairwise (· ≤ ·)) : l = sortI m :=
  srt_uniq leI (fun a b h => by unfold leI at *; simp at *; omega) (fun a b c h1 h2 => by unfold leI at *; simp at *; omega) (fun a b h1 h2 => by unfold leI at *; simp at *; omega) p (s.imp fun h => decide_eq_true h)
theorem leP_iff {a b : Int × Int} : leP a b = true ↔ a.1 < b.1 ∨ (a.1 = b.1 ∧ a.2 ≤ b.2) := by unfold leP; rw [decide_eq_true_eq]
theorem sortP_uniq {l m : List (Int × Int)} (p : l.Perm m) (s : l.Pairwise (fun a b => leP a b = true)) : l = sortP m := by
  refine srt_uniq leP (fun a b h => ?_) (fun a b c h1 h2 => ?_) (fun a b h1 h2 => ?_) p s
  · have h' : ¬ leP a b = true := by rw [h]; decide
    rw [leP_iff] at *
    omega
  · rw [leP_iff] at *
    omega
  · rw [leP_iff] at *
    exact Prod.ext (by omega) (by omega)
theorem sortI_perm (l : List Int) : (sortI l).Perm l := srt_perm _ l
theorem sortP_perm (l : List (Int × Int)) : (sortP l).Perm l := srt_perm _ l
theorem sortI_sorted (l : List Int) : (sortI l).Pairwise (· ≤ ·) :=
  (srt_sorted leI (fun a b h => by unfold leI at *; simp at *; omega) (fun a b c h1 h2 => by unfold leI at *; simp at *; omega) l).imp fun h => of_decide_eq_true h
theorem sortP_sorted (l : List (Int × Int)) : (sortP l).Pairwise (fun a b => leP a b = true) := by
  refine srt_sorted leP (fun a b h => ?_) (fun a b c h1 h2 => ?_) l
  · have h' : ¬ leP a b = true := by rw [h]; decide
    rw [leP_iff] at *
    omega
  · rw [leP_iff] at *
    omega
def prD (p : Int × Int) : D := .tup [.int p.1, .int p.2]
section
variable {X : Cx} {cs : Addr → Option (List Str)} {a b c e : Expr} {ta tb tc te : TED} {pos : Pos}
/-! ### built-in functions -/
def CallD (X : Cx) (cs : Addr → Option (List Str)) (f : Value) (r : List D → HD → QD → Prop) : Prop :=
  ∃ r' : List V → Hp → VK → Prop, CallR X f r' ∧ ∀ (H : Hp) (Hd : HD) (ds : List D) (vs : List V) (Qd : QD) (Q : VK), RelH ⟨X.K, cs⟩ H Hd → RDs X.K H ds vs → r ds Hd Qd → To ⟨X.K, cs⟩ H Qd Q → r' vs H Q
def tCb (r : List D → HD → QD → Prop) (t : TAD) : TED := fun ρ H Q => t ρ H fun ds H1 => r ds H1 Q
theorem lf_cb {r : List D → HD → QD → Prop} {t : TAD} {r' : List V → Hp → VK → Prop} (k : ∀ (H : Hp) (Hd : HD) (ds : List D) (vs : List V) (Qd : QD) (Q : VK), RelH ⟨X.K, cs⟩ H Hd → RDs X.K H ds vs → r ds Hd Qd → To ⟨X.K, cs⟩ H Qd Q → r' vs H Q)
    (σ : L2.St) (H : Hp) (Q : VK) (h : lfE ⟨X.K, cs⟩ (tCb r t) σ H Q) : tCB r' (lfA ⟨X.K, cs⟩ t) σ H Q := by
  obtain ⟨ρ, Hd, Qd, rs, rh, h, kq⟩ := h
  refine ⟨ρ, Hd, _, rs, rh, h, fun vs H1 ds Hd1 e1 rh1 rd h1 => ?_⟩
  exact k H1 Hd1 ds vs Qd Q rh1 rd h1 (kq.ext e1)
theorem pd_callB {id : String} {r : List D → HD → QD → Prop} {t : TAD} {x : Str} {p : Pos} {es : List Expr} (hc : CallD X cs (.builtin id) r) (hm : X.mg x = none) (ha : PAD X cs (e :: es) t) (hv : bootBuiltins x = some (.builtin id) := by decide +kernel) (hg : Gl X x := by rfl)
    (hn : x ≠ "__name__" := by decide) (hdb : (x == ("__debug__" : Str)) = false := by decide) (he : starEach (e :: es) X.env = (false, eval e X.env) :: starEach es X.env := by rfl) (hpl : (backTo pos (starEach es X.env)).any (·.1) = false := by rfl) :
    PD X cs (.Call (.Name x p) (e :: es) [] pos) (tCb r t) := by
  obtain ⟨r', hc, k⟩ := hc
  exact ⟨PE.of (pe_callB hc hg hm hv ha.pa hn hdb he hpl) (lf_cb k)⟩
theorem pd_callTy {T : String} {r : List D → HD → QD → Prop} {t : TAD} {x : Str} {p : Pos} {es : List Expr} (hc : CallD X cs (.type T) r) (hm : X.mg x = none) (ha : PAD X cs (e :: es) t) (hv : bootBuiltins x = some (.type T) := by decide +kernel) (hg : Gl X x := by rfl)
    (hn : x ≠ "__name__" := by decide) (hdb : (x == ("__debug__" : Str)) = false := by decide) (he : starEach (e :: es) X.env = (false, eval e X.env) :: starEach es X.env := by rfl) (hpl : (backTo pos (starEach es X.env)).any (·.1) = false := by rfl) :
    PD X cs (.Call (.Name x p) (e :: es) [] pos) (tCb r t) := by
  obtain ⟨r', hc, k⟩ := hc
  exact ⟨PE.of (pe_callTy hc hg hm hv ha.pa hn hdb he hpl) (lf_cb k)⟩
theorem RDs.one_ {K : PySem.W.Frag} {H : Hp} {d : D} {vs : List V} (h : RDs K H [d] vs) : ∃ v, vs = [v] ∧ RD K H d v := by
  cases h with
  | cons r z => cases z; exact ⟨_, rfl, r⟩
theorem RDs.two_ {K : PySem.W.Frag} {H : Hp} {d d' : D} {vs : List V} (h : RDs K H [d, d'] vs) : ∃ v w, vs = [v, w] ∧ RD K H d v ∧ RD K H d' w := by
  cases h with
  | cons r z =>
    obtain ⟨w, rfl, q⟩ := RDs.one_ z
    exact ⟨_, w, rfl, r, q⟩
def rLen : List D → HD → QD → Prop := fun xs H Q => match xs with
  | [.tup ds] => Q (.int (ds.length : Nat)) H
  | [.rl ds] => Q (.int (ds.length : Nat)) H
  | [.str z] => z.length ≤ sizeLine ∧ Q (.int (z.length : Nat)) H
  | [.ref a] => ∃ c, H a = some c ∧ (match c with
    | .lst ds => Q (.int (ds.length : Nat)) H
    | .dK kvs => Q (.int (kvs.length : Nat)) H
    | _ => False)
  | _ => False
theorem call_lenG : CallD X cs (.builtin "len") rLen := by
  refine ⟨_, CallR.or call_len_seq (CallR.or call_len_str call_lenD), fun H Hd ds vs Qd Q rh rd h k => ?_⟩
  match ds, h with
  | [.tup ds], h =>
    obtain ⟨v, rfl, r⟩ := rd.one_
    obtain ⟨p, ws, rfl, hp, r1⟩ := r.tupV
    exact .inl ⟨p, ws, rfl, .inr (SqT.of hp), by rw [← r1.length]; exact k _ H _ Hd (.refl H) rh .int h⟩
  | [.rl ds], h =>
    obtain ⟨v, rfl, r⟩ := rd.one_
    obtain ⟨p, ws, rfl, hp, r1⟩ := r.rlV
    exact .inl ⟨p, ws, rfl, .inl hp.sq, by rw [← r1.length]; exact k _ H _ Hd (.refl H) rh .int h⟩
  | [.str z], h =>
    obtain ⟨v, rfl, r⟩ := rd.one_
    cases r
    exact .inr (.inl ⟨z, rfl, h.1, k _ H _ Hd (.refl H) rh .int h.2⟩)
  | [.ref a], h =>
    obtain ⟨v, rfl, r⟩ := rd.one_
    cases r
    obtain ⟨c, e, h⟩ := h
    cases c with
    | lst ds =>
      obtain ⟨ws, g, r1⟩ := rh _ _ e
      exact .inl ⟨a, ws, rfl, .inl (SqL.of g), by rw [← r1.length]; exact k _ H _ Hd (.refl H) rh .int h⟩
    | dK kvs =>
      obtain ⟨ws, g, r1⟩ := rh _ _ e
      exact .inr (.inr ⟨a, ws, rfl, g, by rw [← r1.length]; exact k _ H _ Hd (.refl H) rh .int h⟩)
    | _ => exact h.elim
def rList : List D → HD → QD → Prop := fun xs H Q => match xs with
  | [.tup ds] => ∀ p, H p = none → Q (.ref p) (upD H p (.lst ds))
  | [.rl ds] => ∀ p, H p = none → Q (.ref p) (upD H p (.lst ds))
  | [.ref a] => ∃ ds, H a = some (.lst ds) ∧ ∀ p, H p = none → Q (.ref p) (upD H p (.lst ds))
  | _ => False
theorem call_listG : CallD X cs (.type "list") rList := by
  refine ⟨_, call_list_of, fun H Hd ds vs Qd Q rh rd h k => ?_⟩
  match ds, h with
  | [.tup ds], h =>
    obtain ⟨v, rfl, r⟩ := rd.one_
    obtain ⟨p, ws, rfl, hp, r1⟩ := r.tupV
    exact ⟨p, ws, rfl, .inr (SqT.of hp), fun q hq => k _ _ _ _ (.new hq) (rh.newL hq r1) .ref (h q (rh.free hq))⟩
  | [.rl ds], h =>
    obtain ⟨v, rfl, r⟩ := rd.one_
    obtain ⟨p, ws, rfl, hp, r1⟩ := r.rlV
    exact ⟨p, ws, rfl, .inl hp.sq, fun q hq => k _ _ _ _ (.new hq) (rh.newL hq r1) .ref (h q (rh.free hq))⟩
  | [.ref a], h =>
    obtain ⟨v, rfl, r⟩ := rd.one_
    cases r
    obtain ⟨ds, e, h⟩ := h
    obtain ⟨ws, g, r1⟩ := rh _ _ e
    exact ⟨a, ws, rfl, .inl (SqL.of g), fun q hq => k _ _ _ _ (.new hq) (rh.newL hq r1) .ref (h q (rh.free hq))⟩
def rTuple : List D → HD → QD → Prop := fun xs H Q => match xs with
  | [.tup ds] => Q (.tup ds) H
  | [.ref a] => ∃ ds, H a = some (.lst ds) ∧ Q (.tup ds) H
  | _ => False
theorem call_tupleG : CallD X cs (.type "tuple") rTuple := by
  refine ⟨_, call_tuple_of, fun H Hd ds vs Qd Q rh rd h k => ?_⟩
  match ds, h with
  | [.tup ds], h =>
    obtain ⟨v, rfl, r⟩ := rd.one_
    obtain ⟨p, ws, rfl, hp, r1⟩ := r.tupV
    exact ⟨p, ws, rfl, .inr ⟨SqT.of hp, k _ H _ Hd (.refl H) rh (.tup hp r1) h⟩⟩
  | [.ref a], h =>
    obtain ⟨v, rfl, r⟩ := rd.one_
    cases r
    obtain ⟨ds, e, h⟩ := h
    obtain ⟨ws, g, r1⟩ := rh _ _ e
    exact ⟨a, ws, rfl, .inl ⟨SqL.of g, fun q hq => k _ _ _ Hd (.new hq) (rh.newT hq) (.tup upd_same (r1.ext (.new hq))) h⟩⟩
def rInt : List D → HD → QD → Prop := fun xs H Q => match xs with
  | [.int i] => Q (.int i) H
  | [.bl b] => Q (.int (if b then 1 else 0)) H
  | _ => False
theorem call_intG : CallD X cs (.type "int") rInt := by
  refine ⟨_, call_int1, fun H Hd ds vs Qd Q rh rd h k => ?_⟩
  match ds, h with
  | [.int i], h =>
    obtain ⟨v, rfl, r⟩ := rd.one_
    cases r
    exact .inl ⟨i, rfl, k _ H _ Hd (.refl H) rh .int h⟩
  | [.bl i], h =>
    obtain ⟨v, rfl, r⟩ := rd.one_
    cases r
    exact .inr ⟨i, rfl, k _ H _ Hd (.refl H) rh .int h⟩
def rStr : List D → HD → QD → Prop := fun xs H Q => match xs with
  | [.int i] => i.natAbs.log2 < 1920 ∧ Q (.str (toString i)) H
  | _ => False
theorem call_strG : CallD X cs (.type "str") rStr := by
  refine ⟨_, call_str_int, fun H Hd ds vs Qd Q rh rd h k => ?_⟩
  match ds, h with
  | [.int i], h =>
    obtain ⟨v, rfl, r⟩ := rd.one_
    cases r
    exact ⟨i, rfl, h.1, k _ H _ Hd (.refl H) rh .str h.2⟩
def rMin2 : List D → HD → QD → Prop := fun xs H Q => match xs with
  | [.int i, .int j] => Q (.int (if j < i then j else i)) H
  | _ => False
def rMax2 : List D → HD → QD → Prop := fun xs H Q => match xs with
  | [.int i, .int j] => Q (.int (if j > i then j else i)) H
  | _ => False
theorem call_minG (hc : X.calm = true) : CallD X cs (.builtin "min") rMin2 := by
  refine ⟨_, call_min2 hc, fun H Hd ds vs Qd Q rh rd h k => ?_⟩
  match ds, h with
  | [.int i, .int j], h =>
    obtain ⟨v, w, rfl, r, q⟩ := rd.two_
    cases r; cases q
    exact ⟨i, j, rfl, k _ H _ Hd (.refl H) rh .int h⟩
theorem call_maxG (hc : X.calm = true) : CallD X cs (.builtin "max") rMax2 := by
  refine ⟨_, call_max2 hc, fun H Hd ds vs Qd Q rh rd h k => ?_⟩
  match ds, h with
  | [.int i, .int j], h =>
    obtain ⟨v, w, rfl, r, q⟩ := rd.two_
    cases r; cases q
    exact ⟨i, j, rfl, k _ H _ Hd (.refl H) rh .int h⟩
def rSum : List D → HD → QD → Prop := fun xs H Q => match xs with
  | [.ref a] => ∃ ns : List Int, H a = some (.lst (ns.map D.int)) ∧ Q (.int ns.sum) H
  | _ => False
theorem call_sumG (hc : X.calm = true) : CallD X cs (.builtin "sum") rSum := by
  refine ⟨_, cr_sum hc, fun H Hd ds vs Qd Q rh rd h k => ?_⟩
  match ds, h with
  | [.ref a], h =>
    obtain ⟨v, rfl, r⟩ := rd.one_
    cases r
    obtain ⟨ns, e, h⟩ := h
    obtain ⟨ws, g, r1⟩ := rh _ _ e
    rw [r1.intsV] at g
    exact ⟨a, ns, rfl, SqL.of g, k _ H _ Hd (.refl H) rh .int h⟩
/-- sorted: of ints, of pairs of ints; of a dict by ints -/
def rSorted : List D → HD → QD → Prop := fun xs H Q => match xs with
  | [.ref a] => ∃ c, H a = some c ∧ (match c with
    | .lst ds => (∃ ns : List Int, ds = ns.map D.int ∧ ∀ p, H p = none → Q (.ref p) (upD H p (.lst ((sortI ns).map D.int)))) ∨
        ∃ ns : List (Int × Int), ds = ns.map prD ∧ ∀ p, H p = none → Q (.ref p) (upD H p (.lst ((sortP ns).map prD)))
    | .dK kvs => ∃ ns : List Int, kvs.map (·.1) = ns.map Sum.inl ∧ ns.length < 64 ∧ ∀ p, H p = none → Q (.ref p) (upD H p (.lst ((sortI ns).map D.int)))
    | _ => False)
  | _ => False
def prOf (H : Hp) : V → Int × Int
  | .ref t => (match H t with
    | some (.tup [.int i, .int j]) => (i, j)
    | _ => (0, 0))
  | _ => (0, 0)
theorem prs_ok {K : PySem.W.Frag} {H : Hp} : ∀ {ns : List (Int × Int)} {vs : List V}, RDs K H (ns.map prD) vs → (∀ x ∈ vs, ∃ t, x = V.ref t ∧ H t = some (.tup [.int (prOf H x).1, .int (prOf H x).2])) ∧ vs.map (prOf H) = ns
  | [], _, .nil => ⟨fun _ h => (by cases h), rfl⟩
  | p :: ns, v :: vs, .cons r t => by
    obtain ⟨h1, h2⟩ := prs_ok t
    obtain ⟨q, ws, rfl, hq, r1⟩ := r.tupV
    obtain ⟨w1, w2, rfl, q1, q2⟩ := r1.two_
    cases q1; cases q2
    have e : prOf H (.ref q) = p := by
      show (match H q with
        | some (.tup [.int i, .int j]) => (i, j)
        | _ => (0, 0)) = p
      rw [hq]
    refine ⟨fun x hx => ?_, by rw [List.map_cons, h2, e]⟩
    rcases List.mem_cons.mp hx with z | hx
    · subst z
      exact ⟨q, rfl, by rw [e]; exact hq⟩
    · exact h1 x hx
theorem prs_of {K : PySem.W.Frag} {H : Hp} : ∀ {vs : List V}, (∀ x ∈ vs, ∃ t, x = V.ref t ∧ H t = some (.tup [.int (prOf H x).1, .int (prOf H x).2])) → RDs K H ((vs.map (prOf H)).map prD) vs
  | [], _ => .nil
  | v :: vs, h => by
    obtain ⟨t, e, ht⟩ := h v (List.mem_cons_self ..)
    refine .cons ?_ (prs_of fun x hx => h x (List.mem_cons_of_mem _ hx))
    rw [e] at ht ⊢
    exact .tup ht (.cons .int (.cons .int .nil))
theorem call_sortedG (hc : X.calm = true) : CallD X cs (.builtin "sorted") rSorted := by
  refine ⟨_, CallR.or cr_sortedI (CallR.or cr_sortedPO (call_sortedDI hc)), fun H Hd ds vs Qd Q rh rd h k => ?_⟩
  match ds, h with
  | [.ref a], h =>
    obtain ⟨v, rfl, r⟩ := rd.one_
    cases r
    obtain ⟨c, e, h⟩ := h
    cases c with
    | lst ds =>
      obtain ⟨ws, g, r1⟩ := rh _ _ e
      rcases h with ⟨ns, rfl, h⟩ | ⟨ns, rfl, h⟩
      · rw [r1.intsV] at g
        refine .inl ⟨a, ns, rfl, SqL.of g, fun ns' p hp hs hn => ?_⟩
        rw [sortI_uniq hp hs]
        exact k _ _ _ _ (.new hn) (rh.newL hn (RDs.ints _)) .ref (h p (rh.free hn))
      · obtain ⟨h1, h2⟩ := prs_ok r1
        refine .inr (.inl ⟨a, ws, prOf H, rfl, SqL.of g, h1, fun ys p srtd stb hn => ?_⟩)
        have hp : ys.Perm ws := stb.perm
        have hy : ∀ x ∈ ys, ∃ t, x = V.ref t ∧ H t = some (.tup [.int (prOf H x).1, .int (prOf H x).2]) := fun x hx => h1 x (hp.mem_iff.mp hx)
        have q := prs_of (K := X.K) hy
        have es : ys.map (prOf H) = sortP ns := by
          refine sortP_uniq ?_ ?_
          · rw [← h2]
            exact hp.map _
          · rw [List.pairwise_map]
            refine srtd.imp fun {x y} h => ?_
            have z := SrtO.lexB_no.mp h
            rw [leP_iff]
            omega
        rw [es] at q
        exact k _ _ _ _ (.new hn) (rh.newL hn q) .ref (h p (rh.free hn))
    | dK kvs =>
      obtain ⟨ws, g, r1⟩ := rh _ _ e
      obtain ⟨ns, hk, hl, h⟩ := h
      refine .inr (.inr ⟨a, ws, ns, rfl, .inl g, by rw [← r1.keys]; exact hk, hl, fun ns' p hp hs hn => ?_⟩)
      rw [sortI_uniq hp hs]
      exact k _ _ _ _ (.new hn) (rh.newL hn (RDs.ints _)) .ref (h p (rh.free hn))
    | _ => exact h.elim
/-- isinstance with a built-in class -/
inductive TyD (H : HD) : D → String → Prop where
  | non : TyD H .non "NoneType"
  | bl (b : Bool) : TyD H (.bl b) "bool"
  | int (i : Int) : TyD H (.int i) "int"
  | str (x : Str) : TyD H (.str x) "str"
  | tup (ds : List D) : TyD H (.tup ds) "tuple"
  | lst {p : Addr} {ds : List D} : H p = some (.lst ds) → TyD H (.ref p) "list"
  | dK {p : Addr} {ds : List (Key × D)} : H p = some (.dK ds) → TyD H (.ref p) "dict"
  | dT {p : Addr} {ds : List (List Key × D)} : H p = some (.dT ds) → TyD H (.ref p) "dict"
def rIsi : List D → HD → QD → Prop := fun xs H Q => match xs with
  | [x, .ty T] => ∃ n b, TyD H x n ∧ kitB n T = some b ∧ Q (.bl b) H
  | _ => False
theorem call_isiG : CallD X cs (.builtin "isinstance") rIsi := by
  refine ⟨_, call_isi, fun H Hd ds vs Qd Q rh rd h k => ?_⟩
  match ds, h with
  | [x, .ty T], h =>
    obtain ⟨v, w, rfl, r, q⟩ := rd.two_
    cases q
    obtain ⟨n, b, ty, e, h⟩ := h
    refine ⟨v, .ty T, .type n, .type T, b, rfl, ?_, ?_, kit_ty e, k _ H _ Hd (.refl H) rh .bl h⟩
    · first | exact .ty | exact .ty _ | exact rfl | constructor
    · cases ty with
      | non => cases r; exact .base .non
      | bl => cases r; exact .base (.bl _)
      | int => cases r; exact .base (.int _)
      | str => cases r; exact .base (.str _)
      | tup => obtain ⟨a, ws, rfl, hp, _⟩ := r.tupV; exact .base (.tup hp)
      | lst e0 => cases r; obtain ⟨ws, g, _⟩ := rh _ _ e0; exact .base (.lst g)
      | dK e0 => cases r; obtain ⟨ws, g, _⟩ := rh _ _ e0; exact .base (.dK g)
      | dT e0 => cases r; obtain ⟨ws, g, _⟩ := rh _ _ e0; exact .base (.dT g)
/-! ### list(range(..)) -/
def tLr1 (ta : TED) : TED := fun ρ H Q => ta ρ H fun x H1 => match x with
  | .int n => (0 ≤ n ∧ n ≤ 16777216) ∧ ∀ p, H1 p = none → Q (.ref p) (upD H1 p (.lst (rngD 0 n.toNat)))
  | _ => False
def tLr2 (ta tb : TED) : TED := fun ρ H Q => ta ρ H fun x H1 => tb ρ H1 fun y H2 => match x, y with
  | .int i, .int j => (0 ≤ i ∧ j ≤ 16777216 ∧ i ≤ 16777216 ∧ 0 ≤ j) ∧ ∀ p, H2 p = none → Q (.ref p) (upD H2 p (.lst (rngD i (j - i).toNat)))
  | _, _ => False
theorem rng_rd {K : PySem.W.Frag} {H : Hp} (i j : Int) : RDs K H (rngD i (j - i).toNat) (rgV i j) := by
  unfold rngD rgV
  have go : ∀ l : List Nat, RDs K H (l.map fun k => D.int (i + (k : Nat))) (l.map fun k => V.int (i + (k : Nat))) := by
    intro l
    induction l with
    | nil => exact .nil
    | cons x l ih => exact .cons .int ih
  exact go _
theorem pd_lr1 {p p' pos' : Pos} (hc : X.calm = true) (hl : X.mg "list" = none) (hr : X.mg "range" = none) (ha : PD X cs a ta) (gl : Gl X "list" := by rfl) (gr : Gl X "range" := by rfl) (na : starEach [a] X.env = (false, eval a X.env) :: starEach [] X.env := by rfl)
    (nb : starEach [.Call (.Name "range" p) [a] [] pos'] X.env = (false, eval (.Call (.Name "range" p) [a] [] pos') X.env) :: starEach [] X.env := by rfl) : PD X cs (.Call (.Name "list" p') [.Call (.Name "range" p) [a] [] pos'] [] pos) (tLr1 ta) :=
  ⟨PE.of (pe_listRg hc gl hl (prg_1 gr hr ha.pe na) nb) fun σ H Q h => by
    obtain ⟨ρ, Hd, Qd, rs, rh, h, k⟩ := h
    refine ⟨ρ, Hd, _, rs, rh, h, fun v H1 x Hd1 e1 rh1 rv h1 => ?_⟩
    cases x with
    | int n =>
      cases rv
      obtain ⟨⟨g1, g2⟩, h1⟩ := h1
      refine ⟨n, rfl, RgOk.of_le (by omega) g2 (by omega) g1, fun q hq => ?_⟩
      have z := rng_rd (K := X.K) (H := H1) 0 n
      rw [Int.sub_zero] at z
      exact k _ _ _ _ (e1.trans (.new hq)) (rh1.newL hq z) .ref (h1 q (rh1.free hq))
    | _ => exact h1.elim⟩
theorem pd_lr2 {p p' pos' : Pos} (hc : X.calm = true) (hl : X.mg "list" = none) (hr : X.mg "range" = none) (ha : PD X cs a ta) (hb : PD X cs b tb) (gl : Gl X "list" := by rfl) (gr : Gl X "range" := by rfl) (na : starEach [a, b] X.env = (false, eval a X.env) :: starEach [b] X.env := by rfl)
    (nb : starEach [b] X.env = (false, eval b X.env) :: starEach [] X.env := by rfl) (hp : (backTo pos' (starEach [b] X.env)).any (·.1) = false := by rfl)
    (nc : starEach [.Call (.Name "range" p) [a, b] [] pos'] X.env = (false, eval (.Call (.Name "range" p) [a, b] [] pos') X.env) :: starEach [] X.env := by rfl) : PD X cs (.Call (.Name "list" p') [.Call (.Name "range" p) [a, b] [] pos'] [] pos) (tLr2 ta tb) :=
  ⟨PE.of (pe_listRg hc gl hl (prg_2 gr hr ha.pe hb.pe na nb hp) nc) fun σ H Q h => by
    obtain ⟨ρ, Hd, Qd, rs, rh, h, k⟩ := h
    refine ⟨ρ, Hd, _, rs, rh, h, fun v H1 x Hd1 e1 rh1 rv h1 => ?_⟩
    refine ⟨ρ, Hd1, _, rs.ext e1, rh1, h1, fun w H2 y Hd2 e2 rh2 rw h2 => ?_⟩
    cases x with
    | int i =>
      cases rv
      cases y with
      | int j =>
        cases rw
        obtain ⟨⟨g1, g2, g3, g4⟩, h2⟩ := h2
        refine ⟨i, j, rfl, rfl, RgOk.of_le g1 g2 g3 g4, fun q hq => ?_⟩
        exact k _ _ _ _ ((e1.trans e2).trans (.new hq)) (rh2.newL hq (rng_rd i j)) .ref (h2 q (rh2.free hq))
      | _ => exact h2.elim
    | _ => exact h2.elim⟩
/-! ### methods of lists -/
def isL (x : D) (H : HD) : Prop := match x with
  | .ref a => ∃ ds, H a = some (.lst ds)
  | _ => False
def tBm (r : D → List D → HD → QD → Prop) (to : TED) (t : TAD) : TED := fun ρ H Q => to ρ H fun x H1 => isL x H1 ∧ t ρ H1 fun xs H2 => r x xs H2 Q
def MtDL (X : Cx) (cs : Addr → Option (List Str)) (id : String) (r : D → List D → HD → QD → Prop) : Prop :=
  ∃ r' : V → List V → Hp → VK → Prop, MtR X id r' ∧ ∀ (H : Hp) (Hd : HD) (x : D) (xs : List D) (v : V) (vs : List V) (Qd : QD) (Q : VK), RelH ⟨X.K, cs⟩ H Hd → RD X.K H x v → RDs X.K H xs vs → r x xs Hd Qd → To ⟨X.K, cs⟩ H Qd Q → r' v vs H Q
theorem isL_ty {H : Hp} {Hd : HD} {x : D} {v : V} (rh : RelH ⟨X.K, cs⟩ H Hd) (r : RD X.K H x v) (h : isL x Hd) : tyV X.K "list" v H := by
  cases x with
  | ref a =>
    cases r
    obtain ⟨ds, e⟩ := h
    obtain ⟨ws, g, _⟩ := rh _ _ e
    exact .inl ⟨rfl, ws, SqL.of g⟩
  | _ => exact h.elim
theorem pd_bm {id : String} {name : Str} {r : D → List D → HD → QD → Prop} {o : Expr} {to : TED} {t : TAD} {apos : Pos} {es : List Expr} (slot : Slot "list" name id) (hty : typeOf (.builtin id) = pure (.type "method_descriptor")) (hm : MtDL X cs id r) (ho : PD X cs o to) (ha : PAD X cs (e :: es) t)
    (hbase : attributeBase o name X.env (eval o X.env) = eval o X.env := by rfl)
    (hfew : ((backTo pos (starEach (e :: es) X.env)).all (fun x => !x.1) && (backToKw pos (keywordEach [] X.env)).all (fun x => x.1.isSome)
      && decide ((e :: es).length + ([] : List Keyword).length + (if ([] : List Keyword).isEmpty then 0 else 1) < 30)) = true := by rfl)
    (hline : (apos.endLine == pos.line) = true := by rfl) (hs : starEach (e :: es) X.env = (false, eval e X.env) :: starEach es X.env := by rfl) (hplain : (backTo pos (starEach es X.env)).any (·.1) = false := by rfl) :
    PD X cs (.Call (.Attribute o name apos) (e :: es) [] pos) (tBm r to t) := by
  obtain ⟨r', hm, k'⟩ := hm
  refine ⟨PE.of (pe_bm PySem.F.plainAttrs_list slot hty hm ho.pe ha.pa hbase hfew hline hs hplain) fun σ H Q h => ?_⟩
  obtain ⟨ρ, Hd, Qd, rs, rh, h, k⟩ := h
  refine ⟨ρ, Hd, _, rs, rh, h, fun v H1 x Hd1 e1 rh1 rv h1 => ?_⟩
  refine ⟨isL_ty rh1 rv h1.1, ρ, Hd1, _, rs.ext e1, rh1, h1.2, fun vs H2 xs Hd2 e2 rh2 rvs h2 => ?_⟩
  exact k' H2 Hd2 x xs v vs Qd Q rh2 (rv.ext e2) rvs h2 (k.ext (e1.trans e2))
theorem pd_bm0 {id : String} {name : Str} {r : D → List D → HD → QD → Prop} {o : Expr} {to : TED} {apos : Pos} (slot : Slot "list" name id) (hty : typeOf (.builtin id) = pure (.type "method_descriptor")) (hm : MtDL X cs id r) (ho : PD X cs o to)
    (hbase : attributeBase o name X.env (eval o X.env) = eval o X.env := by rfl) (hline : (apos.endLine == pos.line) = true := by rfl) : PD X cs (.Call (.Attribute o name apos) [] [] pos) (tBm r to tN) := by
  obtain ⟨r', hm, k'⟩ := hm
  refine ⟨PE.of (pe_bm0 PySem.F.plainAttrs_list slot hty hm ho.pe hbase hline) fun σ H Q h => ?_⟩
  obtain ⟨ρ, Hd, Qd, rs, rh, h, k⟩ := h
  refine ⟨ρ, Hd, _, rs, rh, h, fun v H1 x Hd1 e1 rh1 rv h1 => ?_⟩
  refine ⟨isL_ty rh1 rv h1.1, ?_⟩
  exact k' H1 Hd1 x [] v [] Qd Q rh1 rv .nil h1.2 (k.ext e1)
def rApp : D → List D → HD → QD → Prop := fun x xs H Q => match x, xs with
  | .ref l, [y] => ∃ ds, H l = some (.lst ds) ∧ ds.length ≤ 1000000 ∧ Q .non (upD H l (.lst (ds ++ [y])))
  | _, _ => False
theorem m_append : MtDL X cs "list.append" rApp := by
  refine ⟨_, mt_append, fun H Hd x xs v vs Qd Q rh rx rxs h k => ?_⟩
  match x, xs, h with
  | .ref l, [y], h =>
    cases rx
    obtain ⟨w, rfl, ry⟩ := rxs.one_
    obtain ⟨ds, e, hl, h⟩ := h
    obtain ⟨ws, g, r⟩ := rh _ _ e
    exact ⟨l, ws, w, rfl, rfl, g, by rw [← r.length]; exact Nat.lt_of_le_of_lt hl (by decide), k _ _ _ _ (.mut g trivial) (rh.mutL g (r.append (.one ry))) .non h⟩
def rPop0 : D → List D → HD → QD → Prop := fun x xs H Q => match x, xs with
  | .ref l, [] => ∃ ds y, H l = some (.lst ds) ∧ ds[ds.length - 1]? = some y ∧ Q y (upD H l (.lst ds.dropLast))
  | _, _ => False
theorem m_pop0 : MtDL X cs "list.pop" rPop0 := by
  refine ⟨_, mt_pop, fun H Hd x xs v vs Qd Q rh rx rxs h k => ?_⟩
  match x, xs, h with
  | .ref l, [], h =>
    cases rx; cases rxs
    obtain ⟨ds, y, e, hy, h⟩ := h
    obtain ⟨ws, g, r⟩ := rh _ _ e
    obtain ⟨w, hw, ry⟩ := r.get hy
    exact ⟨l, ws, w, rfl, rfl, g, by rw [← r.length]; exact hw, k _ _ _ _ (.mut g trivial) (rh.mutL g r.dropLast) (ry.ext (.mut g trivial)) h⟩
def rPopI : D → List D → HD → QD → Prop := fun x xs H Q => match x, xs with
  | .ref l, [.int i] => ∃ ds y, H l = some (.lst ds) ∧ 0 ≤ i ∧ i < 1000000 ∧ ds[i.toNat]? = some y ∧ Q y (upD H l (.lst (ds.eraseIdx i.toNat)))
  | _, _ => False
theorem m_popI : MtDL X cs "list.pop" rPopI := by
  refine ⟨_, mt_popAt, fun H Hd x xs v vs Qd Q rh rx rxs h k => ?_⟩
  match x, xs, h with
  | .ref l, [.int i], h =>
    cases rx
    obtain ⟨w, rfl, ry⟩ := rxs.one_
    cases ry
    obtain ⟨ds, y, e, h0, h1, hy, h⟩ := h
    obtain ⟨ws, g, r⟩ := rh _ _ e
    obtain ⟨w, hw, ry⟩ := r.get hy
    have hlt := (List.getElem?_eq_some_iff.mp hw).1
    have sx := (ixN_seq (show ixN ws.length i = some i.toNat by unfold ixN; rw [if_pos h0, if_pos (by omega)])).1
    exact ⟨l, ws, i, i.toNat, w, rfl, rfl, g, by omega, by omega, sx, hw, k _ _ _ _ (.mut g trivial) (rh.mutL g (r.eraseIdx _)) (ry.ext (.mut g trivial)) h⟩
def rIns : D → List D → HD → QD → Prop := fun x xs H Q => match x, xs with
  | .ref l, [.int i, y] => ∃ ds, H l = some (.lst ds) ∧ ds.length ≤ 1000000 ∧ 0 ≤ i ∧ i < 1000000 ∧ Q .non (upD H l (.lst (ds.take i.toNat ++ [y] ++ ds.drop i.toNat)))
  | _, _ => False
theorem m_insert : MtDL X cs "list.insert" rIns := by
  refine ⟨_, mt_insert, fun H Hd x xs v vs Qd Q rh rx rxs h k => ?_⟩
  match x, xs, h with
  | .ref l, [.int i, y], h =>
    cases rx
    obtain ⟨w1, w2, rfl, q1, q2⟩ := rxs.two_
    cases q1
    obtain ⟨ds, e, hl, h0, h1, h⟩ := h
    obtain ⟨ws, g, r⟩ := rh _ _ e
    exact ⟨l, ws, i, w2, rfl, rfl, g, by rw [← r.length]; exact Nat.lt_of_le_of_lt hl (by decide), h0, by omega, k _ _ _ _ (.mut g trivial) (rh.mutL g (((r.take _).append (.one q2)).append (r.drop _))) .non h⟩
def rClr : D → List D → HD → QD → Prop := fun x xs H Q => match x, xs with
  | .ref l, [] => ∃ ds, H l = some (.lst ds) ∧ Q .non (upD H l (.lst []))
  | _, _ => False
theorem m_clear : MtDL X cs "list.clear" rClr := by
  refine ⟨_, mt_clear, fun H Hd x xs v vs Qd Q rh rx rxs h k => ?_⟩
  match x, xs, h with
  | .ref l, [], h =>
    cases rx; cases rxs
    obtain ⟨ds, e, h⟩ := h
    obtain ⟨ws, g, r⟩ := rh _ _ e
    exact ⟨l, ws, rfl, rfl, g, k _ _ _ _ (.mut g trivial) (rh.mutL g .nil) .non h⟩
/-! ### d.get(k, x) -/
def tGet2 (td ty tx : TED) : TED := fun ρ H Q => td ρ H fun x H1 => (match x with
  | .ref a => (∃ c, H1 a = some c ∧ (match c with
      | .dK _ => True
      | .dT _ => True
      | _ => False)) ∧ ty ρ H1 fun y H2 => tx ρ H2 fun z H3 => DG H3 a y fun o => Q (o.getD z) H3
  | _ => False)
theorem pd_get2 {o f : Expr} {td ty tx : TED} {apos : Pos} (hu : X.A.units + 1 < cLine) (ho : PD X cs o td) (he : PD X cs e ty) (hf : PD X cs f tx) (m : M2 X o "get" apos e f pos) : PD X cs (.Call (.Attribute o "get" apos) [e, f] [] pos) (tGet2 td ty tx) := ⟨PE.of (pe_dget2 hu ho.pe he.pe hf.pe m) fun σ H Q h => by
  obtain ⟨ρ, Hd, Qd, rs, rh, h, k⟩ := h
  refine ⟨ρ, Hd, _, rs, rh, h, fun v H1 x Hd1 e1 rh1 rv h1 => ?_⟩
  cases x with
  | ref a =>
    cases rv
    obtain ⟨⟨c, ec, hc⟩, h1⟩ := h1
    refine ⟨a, rfl, ?_, ρ, Hd1, _, rs.ext e1, rh1, h1, fun w H2 y Hd2 e2 rh2 rw h2 => ?_⟩
    · cases c with
      | dK kvs => obtain ⟨ws, g, _⟩ := rh1 _ _ ec; exact .inl ⟨ws, .inl g⟩
      | dT kvs => obtain ⟨ws, g, _⟩ := rh1 _ _ ec; exact .inr ⟨ws, .inl g⟩
      | _ => exact hc.elim
    · refine ⟨ρ, Hd2, _, rs.ext (e1.trans e2), rh2, h2, fun u H3 z Hd3 e3 rh3 ru h3 => ?_⟩
      obtain ⟨o, g, q⟩ := h3.get rh3 (rw.ext e3)
      refine ⟨o, g, ?_⟩
      have e13 := (e1.trans e2).trans e3
      rcases q with ⟨rfl, q⟩ | ⟨v', d', rfl, r, q⟩
      · exact k _ H3 _ Hd3 e13 rh3 ru q
      · exact k _ H3 _ Hd3 e13 rh3 r q
  | _ => exact h1.elim⟩
end
/-! ### a def keeps its promise -/
def startD (N : List Str) (ds : List D) : StD := ds.map some ++ List.replicate (N.length - ds.length) none
section
variable {P : Program} {w : World} {K : PySem.W.Frag} {mg : Str → Option Value} {base : Heap} {cs : Addr → Option (List Str)}
/-- what an exception that leaves the def is wished: Ed of the promise -/
def WdE (Ed : XD) : WD := fun C fs _ H => Ed C fs H
theorem fn_ok {x qual : Str} {st : Stmt} {f : Addr} {fd : FuncData} {N ps : List Str} {k : Nat} (sp : SpD) (F : Fun K x qual st f fd) (S : FnScope N ps (defScope st)) (len : ∀ ds H Q E, sp ds H Q E → ds.length = ps.length)
    (hbody : ∀ (cdv : Value) (A : Around) (outer : List Env) (s : Shared) (H : Hp) (E : XK) (Ed : XD), Room k (A.deeper (envOfC qual (defScope st) s.heap.objs.size f cdv)) →
      Wish (cxOf (L2N.CX P w) P w K mg base N qual (defScope st) f cdv A outer s H E) cs (fun cls d _ H => E cls d H) (WdE Ed) →
      PassesOwn (model (cxOf (L2N.CX P w) P w K mg base N qual (defScope st) f cdv A outer s H E).prog (cxOf (L2N.CX P w) P w K mg base N qual (defScope st) f cdv A outer s H E).w) (cxOf (L2N.CX P w) P w K mg base N qual (defScope st) f cdv A outer s H E).A (cxOf (L2N.CX P w) P w K mg base N qual (defScope st) f cdv A outer s H E).env (cxOf (L2N.CX P w) P w K mg base N qual (defScope st) f cdv A outer s H E).xe →
      ∃ t, PSsD (cxOf (L2N.CX P w) P w K mg base N qual (defScope st) f cdv A outer s H E) cs (defBody st) t ∧ ∀ ds Hd Qd, sp ds Hd Qd Ed → t { nx := fun _ H' => Qd .non H', rt := Qd } (startD N ds) Hd) :
    FnOk P w K mg base (L2N.CX P w) (k + 1) f fd ps (lfSp ⟨K, cs⟩ sp) := by
  refine fun_okN F S (fun vs H Q E h => ?_) (fun cdv A outer s H vs Q E hr h => ?_)
  · obtain ⟨ds, Hd, Qd, Ed, rd, _, h, _⟩ := h
    rw [← rd.length]
    exact len _ _ _ _ h
  · obtain ⟨ds, Hd, Qd, Ed, rd, rh, h, k1, k2⟩ := h
    obtain ⟨t, ht, q⟩ := hbody cdv A outer s H E Ed hr ⟨L2N.takes_of rfl rfl rfl rfl, fun C fs d σ ρ H' Hd' ex rs rh' xr z => k2 C fs H' Hd' d ex rh' xr z⟩ (passes_of rfl)
    refine ⟨_, ht.ps, startD N ds, Hd, { nx := fun _ H' => Qd .non H', rt := Qd }, RelS.start rd N, rh, q ds Hd Qd h, fun σ ρ H' Hd' e rh' rs' z => ?_, k1, fun _ _ _ _ _ _ _ z => z.elim, fun _ _ _ _ _ _ _ z => z.elim⟩
    exact k1 .non H' .non Hd' e rh' .non z
/-- a def of the text as it stands, and how its arguments bind -/
def FB (K : PySem.W.Frag) (x qual : Str) (st : Stmt) (f : Addr) (ps : List Str) : Prop := ∃ fd, Fun K x qual st f fd ∧ Binds K fd ps []
theorem df_of {x qual : Str} {st : Stmt} {f : Addr} {N ps : List Str} {k : Nat} (sp : SpD) (F : FB K x qual st f ps) (S : FnScope N ps (defScope st)) (len : ∀ ds H Q E, sp ds H Q E → ds.length = ps.length)
    (hbody : ∀ (fd : FuncData) (cdv : Value) (A : Around) (outer : List Env) (s : Shared) (H : Hp) (E : XK) (Ed : XD), Room k (A.deeper (envOfC qual (defScope st) s.heap.objs.size f cdv)) →
      Wish (cxOf (L2N.CX P w) P w K mg base N qual (defScope st) f cdv A outer s H E) cs (fun cls d _ H => E cls d H) (WdE Ed) →
      PassesOwn (model (cxOf (L2N.CX P w) P w K mg base N qual (defScope st) f cdv A outer s H E).prog (cxOf (L2N.CX P w) P w K mg base N qual (defScope st) f cdv A outer s H E).w) (cxOf (L2N.CX P w) P w K mg base N qual (defScope st) f cdv A outer s H E).A (cxOf (L2N.CX P w) P w K mg base N qual (defScope st) f cdv A outer s H E).env (cxOf (L2N.CX P w) P w K mg base N qual (defScope st) f cdv A outer s H E).xe →
      ∃ t, PSsD (cxOf (L2N.CX P w) P w K mg base N qual (defScope st) f cdv A outer s H E) cs (defBody st) t ∧ ∀ ds Hd Qd, sp ds Hd Qd Ed → t { nx := fun _ H' => Qd .non H', rt := Qd } (startD N ds) Hd) :
    Df P w K mg base cs (k + 1) f sp := by
  obtain ⟨fd, F, b⟩ := F
  exact ⟨⟨fd, ps, fn_ok sp F S len fun cdv A outer s H E Ed hr wl hp => hbody fd cdv A outer s H E Ed hr wl hp, b⟩, F.kp⟩
end
end Lt

end
section
set_option Elab.async false
set_option linter.all false
set_option maxRecDepth 100000
set_option maxHeartbeats 2000000
/-! Dl8: small words for readings. -/
namespace Lt
open PySem PySem.Spec L2
theorem _root_.L2.Room.units65 {k : Nat} {A : Around} (r : Room k A) : A.units + 65 < cLine := by have := r.un; omega
section
variable {X : Cx} {cs : Addr → Option (List Str)} {st : Stmt}
def sNever : TSD := fun _ _ _ => False
theorem psd_never : PSD X cs st sNever := ⟨PS.of ps_never fun Dn σ H h => by
  obtain ⟨ρ, Hd, Dd, rs, rh, h, _⟩ := h
  exact h⟩
end
/-- a loop by an invariant -/
theorem loop_inv {I : ItD} {tg : TgD} {tb : TSD} {D : EndsD} {ρ : StD} {H : HD} (W : Nat → StD → HD → Prop) (h0 : W 0 ρ H)
    (hs : ∀ i d ρ H, I.ds[i]? = some d → W i ρ H → I.stay H ∧ ∀ N : StD → HD → Prop, (∀ ρ H, W (i + 1) ρ H → N ρ H) → match tg.asg d ρ with
      | some ρ' => tb { D with nx := N, ct := N, bk := D.nx } ρ' H
      | none => False)
    (hd : ∀ ρ H, W I.ds.length ρ H → I.stay H ∧ D.nx ρ H) : loopD I tg tb D I.ds ρ H := by
  have go : ∀ (n i : Nat) (ρ : StD) (H : HD), I.ds.length - i = n → i ≤ I.ds.length → W i ρ H → loopD I tg tb D (I.ds.drop i) ρ H := by
    intro n
    induction n with
    | zero =>
      intro i ρ H e hi w
      have e2 : i = I.ds.length := by omega
      subst e2
      rw [List.drop_length]
      exact hd ρ H w
    | succ n ih =>
      intro i ρ H e hi w
      have hlt : i < I.ds.length := by omega
      rw [List.drop_eq_getElem_cons hlt]
      obtain ⟨h1, h2⟩ := hs i _ ρ H (List.getElem?_eq_getElem hlt) w
      exact ⟨h1, h2 _ fun ρ H q => ih (i + 1) ρ H (by omega) hlt q⟩
  have := go _ 0 ρ H rfl (Nat.zero_le _) h0
  rwa [List.drop_zero] at this
/-- a comprehension by an invariant -/
theorem lc_inv {I : ItD} {tg : TgD} {tt : TTD} {te : TED} {ρ0 : StD} {p : Addr} {Q : QD} {H : HD} (W : Nat → List D → HD → Prop) (h0 : W 0 [] H)
    (hs : ∀ i d acc H, I.ds[i]? = some d → W i acc H → I.stay H ∧ ∀ N : List D → HD → Prop, (∀ acc H, W (i + 1) acc H → N acc H) → match tg.asg d ρ0 with
      | some ρ' => tt ρ' H fun b H3 => if b = true then te ρ' H3 fun y H4 => H4 p = some (.lst acc) ∧ Nat.ble acc.length 100000 = true ∧ N (acc ++ [y]) (upD H4 p (.lst (acc ++ [y]))) else N acc H3
      | none => False)
    (hd : ∀ acc H, W I.ds.length acc H → I.stay H ∧ Q (.ref p) H) : lcD I tg tt te ρ0 p Q I.ds [] H := by
  have go : ∀ (n i : Nat) (acc : List D) (H : HD), I.ds.length - i = n → i ≤ I.ds.length → W i acc H → lcD I tg tt te ρ0 p Q (I.ds.drop i) acc H := by
    intro n
    induction n with
    | zero =>
      intro i acc H e hi w
      have e2 : i = I.ds.length := by omega
      subst e2
      rw [List.drop_length]
      exact hd acc H w
    | succ n ih =>
      intro i acc H e hi w
      have hlt : i < I.ds.length := by omega
      rw [List.drop_eq_getElem_cons hlt]
      obtain ⟨h1, h2⟩ := hs i _ acc H (List.getElem?_eq_getElem hlt) w
      exact ⟨h1, h2 _ fun acc H q => ih (i + 1) acc H (by omega) hlt q⟩
  have := go _ 0 [] H rfl (Nat.zero_le _) h0
  rwa [List.drop_zero] at this
/-! ### heaps -/
/-- all cells stay -/
def Ext (H H' : HD) : Prop := ∀ q c, H q = some c → H' q = some c
theorem Ext.refl (H : HD) : Ext H H := fun _ _ h => h
theorem Ext.trans {H H1 H2 : HD} (a : Ext H H1) (b : Ext H1 H2) : Ext H H2 := fun q c h => b q c (a q c h)
theorem Ext.new {H : HD} {p : Addr} {c : DO} (h : H p = none) : Ext H (upD H p c) := fun q d e => upD_old e h
/-- a cell that is not of the heap ahead is changed -/
theorem Ext.up {H H' : HD} {p : Addr} {c : DO} (e : Ext H H') (h : H p = none) : Ext H (upD H' p c) := fun q d k => by
  rw [upD_ne (neD k h)]
  exact e q d k
theorem Ext.none {H H' : HD} {p : Addr} (e : Ext H H') (h : H' p = none) : H p = none := by
  cases z : H p with
  | none => rfl
  | some c => rw [e p c z] at h; cases h
/-- all cells but one stay -/
def ExtE (a : Addr) (H H' : HD) : Prop := ∀ q c, q ≠ a → H q = some c → H' q = some c
theorem ExtE.refl (a : Addr) (H : HD) : ExtE a H H := fun _ _ _ h => h
theorem Ext.but {a : Addr} {H H' : HD} (h : Ext H H') : ExtE a H H' := fun q c _ e => h q c e
theorem ExtE.trans {a : Addr} {H H1 H2 : HD} (x : ExtE a H H1) (y : ExtE a H1 H2) : ExtE a H H2 := fun q c n h => y q c n (x q c n h)
theorem ExtE.here {a : Addr} {H H' : HD} {c : DO} (x : ExtE a H H') : ExtE a H (upD H' a c) := fun q d n h => by rw [upD_ne n]; exact x q d n h
theorem ExtE.up {a : Addr} {H H' : HD} {p : Addr} {c : DO} (e : ExtE a H H') (h : H p = none) : ExtE a H (upD H' p c) := fun q d n k => by
  rw [upD_ne (neD k h)]
  exact e q d n k
theorem Ext.ofMake {H H' : HD} {x : Addr} {c : DO} (h : H x = Option.none) (e : ExtE x (upD H x c) H') : Ext H H' := fun q d k => e q d (neD k h) (upD_old k h)
theorem eq_pure_ints {ns : List Int} : D.pures (ns.map D.int) = true := by
  induction ns with
  | nil => rfl
  | cons n r ih => exact ih
theorem py_ints {ns : List Int} : D.pys (ns.map D.int) = ns.map PyData.int := by
  induction ns with
  | nil => rfl
  | cons n r ih => show PyData.int n :: D.pys (r.map D.int) = _; rw [ih]; rfl
theorem any_ints {ns : List Int} {i : Int} : ((ns.map PyData.int).any fun z => PyData.eqv z (.int i)) = decide (i ∈ ns) := by
  induction ns with
  | nil => rfl
  | cons n r ih =>
    rw [List.map_cons, List.any_cons, ih]
    show ((n == i) || decide (i ∈ r)) = _
    by_cases h : n = i
    · subst h; simp
    · have : ¬ i = n := fun z => h z.symm
      simp [h, this]
theorem shaped_ints {ns : List Int} : SeqAt.shaped (.list (ns.map PyData.int)) = true := by
  have h1 : PyData.canLayAll0 (ns.map PyData.int) = true := by
    induction ns with
    | nil => rfl
    | cons n r ih => exact ih
  have h2 : PyData.depthAll (ns.map PyData.int) = 0 := by
    induction ns with
    | nil => rfl
    | cons n r ih =>
      show max (PyData.depth (.int n)) (PyData.depthAll (r.map PyData.int)) = 0
      rw [ih]
      · rfl
      · exact h1
  show (PyData.canLayAll0 (ns.map PyData.int) && decide (PyData.depthAll (ns.map PyData.int) + 1 ≤ 64)) = true
  rw [h1, h2]
  rfl
/-- x in a list of ints -/
theorem inInts {g : Bool → Bool} {H : HD} {a : Addr} {ns : List Int} {i : Int} {Q : QD} (e : H a = some (.lst (ns.map D.int))) (q : Q (.bl (g (decide (i ∈ ns)))) H) : rInG g (.int i) (.ref a) H Q := by
  refine ⟨_, e, ?_⟩
  refine ⟨.int i, ns.map PyData.int, .int, by rw [← py_ints]; exact PyAs.of H eq_pure_ints, rfl, shaped_ints, ?_⟩
  rw [any_ints]
  exact q
theorem ixL {H : HD} {a : Addr} {ds : List D} {j : Nat} {d : D} {Q : QD} (e : H a = some (.lst ds)) (h : ds[j]? = some d) (q : Q d H) : rIx (.ref a) (.int (j : Int)) H Q :=
  ⟨_, e, _, d, rfl, atI_nat h, q⟩
end Lt

end
section
set_option Elab.async false
set_option linter.all false
set_option maxRecDepth 100000
set_option maxHeartbeats 2000000
/-! Dl9: equality and membership of data, roads. -/
namespace Lt
open PySem PySem.Spec L2
/-- the own classes' addresses -/
structure CA where
  Web : Addr
  Hand : Addr
  Net : Addr
  WebError : Addr
  BadWeb : Addr
  NoHand : Addr
  NoRoad : Addr
  NoLetter : Addr
  BadText : Addr
structure Rd where
  o : Int
  t : Int
  c : Int
deriving DecidableEq
def roD (r : Rd) : D := .tup [.int r.o, .int r.t, .int r.c]
theorem roD_def (r : Rd) : roD r = .tup [.int r.o, .int r.t, .int r.c] := rfl
theorem prD_def (p : Int × Int) : prD p = .tup [.int p.1, .int p.2] := rfl
/-! ### shapes -/
def Low (d : D) : Prop := d.pure = true ∧ d.py.canLay0 = true ∧ d.py.depth ≤ 3
theorem low_int {i : Int} : Low (.int i) := ⟨rfl, rfl, by show (0 : Nat) ≤ 3; decide⟩
theorem low_non : Low .non := ⟨rfl, rfl, by show (0 : Nat) ≤ 3; decide⟩
theorem low_bl {i : Bool} : Low (.bl i) := ⟨rfl, rfl, by show (0 : Nat) ≤ 3; decide⟩
theorem low_ro (r : Rd) : Low (roD r) := ⟨rfl, rfl, by show max 0 (max 0 (max 0 0)) + 1 ≤ 3; decide⟩
theorem low_pr (p : Int × Int) : Low (prD p) := ⟨rfl, rfl, by show max 0 (max 0 0) + 1 ≤ 3; decide⟩
theorem lows : ∀ {ds : List D}, (∀ d ∈ ds, Low d) → D.pures ds = true ∧ PyData.canLayAll0 (D.pys ds) = true ∧ PyData.depthAll (D.pys ds) ≤ 3
  | [], _ => ⟨rfl, rfl, by show (0 : Nat) ≤ 3; decide⟩
  | d :: r, h => by
    obtain ⟨h1, h2, h3⟩ := lows fun z hz => h z (List.mem_cons_of_mem _ hz)
    obtain ⟨g1, g2, g3⟩ := h d (List.mem_cons_self ..)
    refine ⟨?_, ?_, ?_⟩
    · show (d.pure && D.pures r) = true
      rw [g1, h1]; rfl
    · show (d.py.canLay0 && PyData.canLayAll0 (D.pys r)) = true
      rw [g2, h2]; rfl
    · show max d.py.depth (PyData.depthAll (D.pys r)) ≤ 3
      omega
theorem shapedL {ds : List D} (h : ∀ d ∈ ds, Low d) : SeqAt.shaped (.list (D.pys ds)) = true := by
  obtain ⟨_, h2, h3⟩ := lows h
  show (PyData.canLayAll0 (D.pys ds) && decide (PyData.depthAll (D.pys ds) + 1 ≤ 64)) = true
  rw [h2]
  simp
  omega
theorem shapedLow {d : D} (h : Low d) : SeqAt.shaped d.py = true := by
  obtain ⟨_, h2, h3⟩ := h
  show (d.py.canLay0 && decide (d.py.depth ≤ 64)) = true
  rw [h2]
  simp
  omega
theorem pys_map {α : Type} (f : α → D) : ∀ xs : List α, D.pys (xs.map f) = xs.map fun x => (f x).py
  | [] => rfl
  | x :: r => by show (f x).py :: D.pys (r.map f) = _; rw [pys_map f r]; rfl
theorem lowMap {α : Type} {f : α → D} (h : ∀ x, Low (f x)) {xs : List α} : ∀ d ∈ xs.map f, Low d := fun d hd => by
  obtain ⟨x, _, rfl⟩ := List.mem_map.mp hd
  exact h x
/-! ### equality -/
theorem eqv_int {i j : Int} : PyData.eqv (.int i) (.int j) = decide (i = j) := by
  show (i == j) = _
  by_cases h : i = j <;> simp [h]
theorem eqv_ro {r s : Rd} : PyData.eqv (roD r).py (roD s).py = decide (r = s) := by
  show (PyData.eqv (.int r.o) (.int s.o) && (PyData.eqv (.int r.t) (.int s.t) && (PyData.eqv (.int r.c) (.int s.c) && true))) = _
  rw [eqv_int, eqv_int, eqv_int]
  cases r; cases s
  simp
theorem eqv_pr {r s : Int × Int} : PyData.eqv (prD r).py (prD s).py = decide (r = s) := by
  show (PyData.eqv (.int r.1) (.int s.1) && (PyData.eqv (.int r.2) (.int s.2) && true)) = _
  rw [eqv_int, eqv_int]
  cases r; cases s
  simp
theorem eqvAll_map {α : Type} [DecidableEq α] {f : α → D} (h : ∀ x y, PyData.eqv (f x).py (f y).py = decide (x = y)) : ∀ xs ys : List α, PyData.eqvAll (D.pys (xs.map f)) (D.pys (ys.map f)) = decide (xs = ys)
  | [], [] => rfl
  | [], _ :: _ => rfl
  | _ :: _, [] => rfl
  | x :: xs, y :: ys => by
    show (PyData.eqv (f x).py (f y).py && PyData.eqvAll (D.pys (xs.map f)) (D.pys (ys.map f))) = _
    rw [h, eqvAll_map h xs ys]
    by_cases h1 : x = y <;> by_cases h2 : xs = ys <;> simp [h1, h2]
theorem any_map {α : Type} [DecidableEq α] {f : α → D} (h : ∀ x y, PyData.eqv (f x).py (f y).py = decide (x = y)) (x : α) : ∀ xs : List α, ((D.pys (xs.map f)).any fun z => PyData.eqv z (f x).py) = decide (x ∈ xs)
  | [] => rfl
  | y :: ys => by
    show (PyData.eqv (f y).py (f x).py || (D.pys (ys.map f)).any fun z => PyData.eqv z (f x).py) = _
    rw [h, any_map h x ys]
    by_cases h1 : y = x
    · subst h1; simp
    · have h2 : ¬ x = y := fun z => h1 z.symm
      simp [h1, h2]
/-- two lists of like things -/
theorem eqL {α : Type} [DecidableEq α] {f : α → D} (hl : ∀ x, Low (f x)) (he : ∀ x y, PyData.eqv (f x).py (f y).py = decide (x = y)) {H : HD} {a b : Addr} {xs ys : List α} {Q : QD} (ea : H a = some (.lst (xs.map f))) (eb : H b = some (.lst (ys.map f))) (q : Q (.bl (decide (xs = ys))) H) : rEq (.ref a) (.ref b) H Q := by
  refine ⟨_, _, .lst ea (.of H (lows (lowMap hl)).1), .lst eb (.of H (lows (lowMap hl)).1), shapedL (lowMap hl), shapedL (lowMap hl), ?_⟩
  show Q (.bl (PyData.eqvAll _ _)) H
  rw [eqvAll_map he]
  exact q
theorem neL {α : Type} [DecidableEq α] {f : α → D} (hl : ∀ x, Low (f x)) (he : ∀ x y, PyData.eqv (f x).py (f y).py = decide (x = y)) {H : HD} {a b : Addr} {xs ys : List α} {Q : QD} (ea : H a = some (.lst (xs.map f))) (eb : H b = some (.lst (ys.map f))) (q : Q (.bl (!decide (xs = ys))) H) : rNe (.ref a) (.ref b) H Q := by
  refine ⟨_, _, .lst ea (.of H (lows (lowMap hl)).1), .lst eb (.of H (lows (lowMap hl)).1), shapedL (lowMap hl), shapedL (lowMap hl), ?_⟩
  show Q (.bl (!PyData.eqvAll _ _)) H
  rw [eqvAll_map he]
  exact q
/-- a list of like things and an empty one -/
theorem eqNil {ds : List D} (hl : ∀ d ∈ ds, Low d) {H : HD} {a b : Addr} {Q : QD} (ea : H a = some (.lst ds)) (eb : H b = some (.lst [])) (q : Q (.bl ds.isEmpty) H) : rEq (.ref a) (.ref b) H Q := by
  refine ⟨_, _, .lst ea (.of H (lows hl).1), .lst eb (.of H rfl), shapedL hl, rfl, ?_⟩
  cases ds with
  | nil => exact q
  | cons d r => exact q
theorem neNil {ds : List D} (hl : ∀ d ∈ ds, Low d) {H : HD} {a b : Addr} {Q : QD} (ea : H a = some (.lst ds)) (eb : H b = some (.lst [])) (q : Q (.bl (!ds.isEmpty)) H) : rNe (.ref a) (.ref b) H Q := by
  refine ⟨_, _, .lst ea (.of H (lows hl).1), .lst eb (.of H rfl), shapedL hl, rfl, ?_⟩
  cases ds with
  | nil => exact q
  | cons d r => exact q
/-- two pairs of ints -/
theorem eqT2 {a b x y : Int} {H : HD} {Q : QD} (q : Q (.bl (decide (a = x) && decide (b = y))) H) : rEq (.tup [.int a, .int b]) (.tup [.int x, .int y]) H Q := by
  refine ⟨_, _, .of H (low_pr (a, b)).1, .of H (low_pr (x, y)).1, shapedLow (low_pr (a, b)), shapedLow (low_pr (x, y)), ?_⟩
  have e : PyData.eqv (prD (a, b)).py (prD (x, y)).py = (decide (a = x) && decide (b = y)) := by
    rw [eqv_pr]
    by_cases h1 : a = x <;> by_cases h2 : b = y <;> simp [h1, h2]
  have e' : PyData.eqv (D.tup [D.int a, D.int b]).py (D.tup [D.int x, D.int y]).py = (decide (a = x) && decide (b = y)) := e
  rw [e']
  exact q
theorem inL {α : Type} [DecidableEq α] {f : α → D} (hl : ∀ x, Low (f x)) (he : ∀ x y, PyData.eqv (f x).py (f y).py = decide (x = y)) {g : Bool → Bool} {H : HD} {a : Addr} {x : α} {xs : List α} {Q : QD} (ea : H a = some (.lst (xs.map f))) (q : Q (.bl (g (decide (x ∈ xs)))) H) : rInG g (f x) (.ref a) H Q := by
  refine ⟨_, ea, ?_⟩
  refine ⟨_, _, .of H (hl x).1, .of H (lows (lowMap hl)).1, shapedLow (hl x), shapedL (lowMap hl), ?_⟩
  rw [any_map he]
  exact q
mutual
theorem pyA_uniq {H : HD} : ∀ {d : D} {p : PyData}, PyA H d p → d.pure = true → p = d.py
  | _, _, .non, _ => rfl
  | _, _, .bl, _ => rfl
  | _, _, .int, _ => rfl
  | _, _, .str, _ => rfl
  | _, _, .tup h, e => congrArg PyData.tuple (pyAs_uniq h e)
  | _, _, .rl h, e => congrArg PyData.list (pyAs_uniq h e)
  | _, _, .lst _ _, e => by cases e
theorem pyAs_uniq {H : HD} : ∀ {ds : List D} {ps : List PyData}, PyAs H ds ps → D.pures ds = true → ps = D.pys ds
  | _, _, .nil, _ => rfl
  | _, _, .cons (d := d) (ds := r) h g, e => by
    have e' : (d.pure && D.pures r) = true := e
    obtain ⟨e1, e2⟩ := Bool.and_eq_true_iff.mp e'
    rw [pyA_uniq h e1, pyAs_uniq g e2]
    rfl
end
theorem cut2 {x y z : D} : cutD [x, y, z] none (some 2) = [x, y] := rfl
theorem ble_of {n m : Nat} (h : n ≤ m) : Nat.ble n m = true := Nat.ble_eq_true_of_le h
theorem getRo {rs : List Rd} {i : Nat} {r : Rd} (h : rs[i]? = some r) : (rs.map roD)[i]? = some (roD r) := by rw [List.getElem?_map, h]; rfl
theorem getMap {α : Type} {f : α → D} {rs : List α} {i : Nat} {d : D} (h : (rs.map f)[i]? = some d) : ∃ r, rs[i]? = some r ∧ d = f r := by
  rw [List.getElem?_map] at h
  cases e : rs[i]? with
  | none => rw [e] at h; cases h
  | some r => rw [e] at h; exact ⟨r, rfl, (Option.some.inj h).symm⟩
end Lt

end
section
set_option Elab.async false
set_option linter.all false
set_option maxRecDepth 100000
set_option maxHeartbeats 2000000
set_option smartUnfolding false
/-! Dl10: the transformers by equations, for stepping by simp. -/
namespace Lt
open PySem PySem.Spec L2
/-! ### which kind of value -/
def asB : D → (Bool → Prop) → Prop
  | .bl b, k => k b
  | _, _ => False
def asI : D → (Int → Prop) → Prop
  | .int b, k => k b
  | _, _ => False
def asR : D → (Addr → Prop) → Prop
  | .ref b, k => k b
  | _, _ => False
def slot : Option (Option D) → (D → Prop) → Prop
  | some (some d), k => k d
  | _, _ => False
def gt1 : Option D → (D → Prop) → Prop
  | some d, k => k d
  | none, _ => False
theorem u_asB {b : Bool} {k : Bool → Prop} : asB (.bl b) k = k b := rfl
theorem u_asI {b : Int} {k : Int → Prop} : asI (.int b) k = k b := rfl
theorem u_asR {b : Addr} {k : Addr → Prop} : asR (.ref b) k = k b := rfl
theorem u_slot {b : D} {k : D → Prop} : slot (some (some b)) k = k b := rfl
theorem u_gt1 {b : D} {k : D → Prop} : gt1 (some b) k = k b := rfl
/-! ### targets -/
def goA (tg : TgD) (d : D) (ρ : StD) (k : StD → Prop) : Prop := match tg.asg d ρ with
  | some ρ' => k ρ'
  | none => False
def goAs (ts : List TgD) (ds : List D) (ρ : StD) (k : StD → Prop) : Prop := match TgD.asgs ts ds ρ with
  | some ρ' => k ρ'
  | none => False
theorem u_goA_nm {i : Nat} {d : D} {ρ : StD} {k : StD → Prop} : goA (.nm i) d ρ k = k (ρ.set i (some d)) := by unfold goA; rw [TgD.asg]
theorem u_goA_tp {ts : List TgD} {ds : List D} {ρ : StD} {k : StD → Prop} : goA (.tp ts) (.tup ds) ρ k = goAs ts ds ρ k := by unfold goA goAs; rw [TgD.asg]
theorem u_goAs_nil {ρ : StD} {k : StD → Prop} : goAs [] [] ρ k = k ρ := by unfold goAs; rw [TgD.asgs]
theorem u_goAs_cons {t : TgD} {ts : List TgD} {d : D} {ds : List D} {ρ : StD} {k : StD → Prop} : goAs (t :: ts) (d :: ds) ρ k = goA t d ρ fun ρ' => goAs ts ds ρ' k := by
  unfold goAs goA; rw [TgD.asgs]; cases t.asg d ρ <;> rfl
section
variable {ρ : StD} {H : HD} {Q : QD} {QT : Bool → HD → Prop} {QA : List D → HD → Prop} {QO : Option Int → HD → Prop} {R : ItD → HD → Prop} {te to ti ta tb tc td : TED} {tt uu : TTD} {t u : TSD} {tr : TAD} {w : TID} {E : EndsD} {C : Addr} {i j : Int} {x y : D} {a b : Addr} {ds es : List D} {z z' : Str} {p q : Bool} {sp : SpD} {wd : WD} {tl th : TOD}
theorem u_sSeq : sSeq t u E ρ H = t { E with nx := u E } ρ H := rfl
theorem u_sNx : sNx E ρ H = E.nx ρ H := rfl
theorem u_sDrop : sDrop te E ρ H = te ρ H fun _ H1 => E.nx ρ H1 := rfl
theorem u_sRet : sRet te E ρ H = te ρ H E.rt := rfl
theorem u_sRetN : sRetN E ρ H = E.rt .non H := rfl
theorem u_sIf : sIf tt t u E ρ H = tt ρ H fun b H1 => if b = true then t E ρ H1 else u E ρ H1 := rfl
theorem u_sAsg {tg : TgD} : sAsg te tg E ρ H = te ρ H fun x H1 => goA tg x ρ fun ρ' => E.nx ρ' H1 := rfl
/-- storing at an index -/
def sbC (E : EndsD) (ρ : StD) (H : HD) (a : Addr) (i v : D) : DO → Prop
  | .lst ds => ∃ k j, i = .int k ∧ ixN ds.length k = some j ∧ E.nx ρ (upD H a (.lst (ds.set j v)))
  | .dK kvs => ∃ k, keyD i = some k ∧ kvs.length < sizeLine ∧ E.nx ρ (upD H a (.dK (putP kvs k v)))
  | .dT kvs => ∃ ks k, i = .tup ks ∧ keysD ks = some k ∧ kvs.length < sizeLine ∧ E.nx ρ (upD H a (.dT (putP kvs k v)))
  | _ => False
theorem u_sSub : sSub te to ti E ρ H = te ρ H fun v H1 => to ρ H1 fun o H2 => ti ρ H2 fun i H3 => asR o fun a => ∃ c, H3 a = some c ∧ sbC E ρ H3 a i v c := rfl
theorem u_sbC_lst {v : D} : sbC E ρ H a (.int i) v (.lst ds) = ∃ j, ixN ds.length i = some j ∧ E.nx ρ (upD H a (.lst (ds.set j v))) := by
  refine propext ⟨fun ⟨k, j, h1, h2, h3⟩ => ?_, fun ⟨j, h2, h3⟩ => ⟨i, j, rfl, h2, h3⟩⟩
  cases h1; exact ⟨j, h2, h3⟩
theorem u_sbC_dK {v : D} {kvs : List (Key × D)} : sbC E ρ H a (.int i) v (.dK kvs) = (kvs.length < sizeLine ∧ E.nx ρ (upD H a (.dK (putP kvs (.inl i) v)))) := by
  refine propext ⟨fun ⟨k, h1, h2, h3⟩ => ?_, fun ⟨h2, h3⟩ => ⟨_, rfl, h2, h3⟩⟩
  cases h1; exact ⟨h2, h3⟩
theorem u_sbC_dT {v : D} {kvs : List (List Key × D)} : sbC E ρ H a (.tup [.int i, .int j]) v (.dT kvs) = (kvs.length < sizeLine ∧ E.nx ρ (upD H a (.dT (putP kvs [.inl i, .inl j] v)))) := by
  refine propext ⟨fun ⟨ks, k, h0, h1, h2, h3⟩ => ?_, fun ⟨h2, h3⟩ => ⟨_, _, rfl, rfl, h2, h3⟩⟩
  cases h0; cases h1; exact ⟨h2, h3⟩
theorem u_sFl {n : Nat} : sFl C n te to E ρ H = te ρ H fun v H1 => to ρ H1 fun o H2 => asR o fun a => ∃ fs, H2 a = some (.ins C fs) ∧ n ≤ fs.length ∧ E.nx ρ (upD H2 a (.ins C (putI n v fs))) := by
  simp only [sFl, Nat.ble_eq]
  rfl
theorem u_sFor {tg : TgD} : sFor w tg t E ρ H = w ρ H fun I H1 => loopD I tg t E I.ds ρ H1 := rfl
theorem u_tV {n : Nat} : tV n ρ H Q = slot (ρ[n]?) fun d => Q d H := by
  unfold tV slot
  cases ρ[n]? with
  | none => rfl
  | some o => cases o <;> rfl
theorem u_tK {d : D} : tK d ρ H Q = Q d H := rfl
theorem u_tO {r : R2D} : tO r ta tb ρ H Q = ta ρ H fun x H1 => tb ρ H1 fun y H2 => r x y H2 Q := rfl
theorem u_tNeg : tNeg ta ρ H Q = ta ρ H fun x H1 => asI x fun i => Q (.int (-i)) H1 := rfl
theorem u_tPn : tPn ρ H QO = QO none H := rfl
theorem u_tPs : tPs te ρ H QO = te ρ H fun x H1 => asI x fun i => QO (some i) H1 := rfl
theorem u_tSlD : tSlD te tl th ρ H Q = te ρ H fun x H1 => tl ρ H1 fun l H2 => th ρ H2 fun u H3 => rSl x l u H3 Q := rfl
theorem u_rSl_tup {lo hi : Option Int} : rSl (.tup ds) lo hi H Q = Q (.tup (cutD ds lo hi)) H := rfl
theorem u_rSl_rl {lo hi : Option Int} : rSl (.rl ds) lo hi H Q = ∀ p, H p = none → Q (.ref p) (upD H p (.lst (cutD ds lo hi))) := rfl
theorem u_rSl_ref {lo hi : Option Int} : rSl (.ref a) lo hi H Q = ∃ ds, H a = some (.lst ds) ∧ ∀ p, H p = none → Q (.ref p) (upD H p (.lst (cutD ds lo hi))) := rfl
theorem u_tFl {n : Nat} : tFl C n ta ρ H Q = ta ρ H fun x H1 => asR x fun a => ∃ fs, H1 a = some (.ins C fs) ∧ gt1 (fs[n]?) fun d => Q d H1 := by
  show (ta ρ H _) = (ta ρ H _)
  congr 1
theorem u_tN : tN ρ H QA = QA [] H := rfl
theorem u_tC : tC te tr ρ H QA = te ρ H fun x H1 => tr ρ H1 fun xs H2 => QA (x :: xs) H2 := rfl
theorem u_tTp : tTp tr ρ H Q = tr ρ H fun ds H1 => ds.length ≤ 1000 ∧ Q (.tup ds) H1 := by simp only [tTp, Nat.ble_eq]
theorem u_tLs : tLs tr ρ H Q = tr ρ H fun ds H1 => ds.length ≤ 1000 ∧ ∀ p, H1 p = none → Q (.ref p) (upD H1 p (.lst ds)) := by simp only [tLs, Nat.ble_eq]
theorem u_tDK : tDK ρ H Q = ∀ p, H p = none → Q (.ref p) (upD H p (.dK [])) := rfl
theorem u_tDT : tDT ρ H Q = ∀ p, H p = none → Q (.ref p) (upD H p (.dT [])) := rfl
theorem u_tTs : tTs te ρ H QT = te ρ H fun x H1 => asB x fun b => QT b H1 := rfl
theorem u_tChn {r r' : R2D} : tChn r r' ta tb tc ρ H Q = ta ρ H fun x H1 => tb ρ H1 fun y H2 => r x y H2 fun z H3 => asB z fun k => if k = true then tc ρ H3 fun w H4 => r' y w H4 Q else Q (.bl false) H3 := rfl
theorem u_tChn3 {r1 r2 r3 : R2D} : tChn3 r1 r2 r3 ta tb tc td ρ H Q = ta ρ H fun x H1 => tb ρ H1 fun y H2 => r1 x y H2 fun z H3 => asB z fun k => if k = true then tc ρ H3 fun w H4 => r2 y w H4 fun z2 H5 => asB z2 fun k2 => if k2 = true then td ρ H5 fun u H6 => r3 w u H6 Q else Q (.bl false) H5 else Q (.bl false) H3 := rfl
theorem u_tAn : tAn tt uu ρ H QT = tt ρ H fun c H1 => if c = true then uu ρ H1 QT else QT false H1 := rfl
theorem u_tOr : tOr tt uu ρ H QT = tt ρ H fun c H1 => if c = true then QT true H1 else uu ρ H1 QT := rfl
theorem u_tNt : tNt tt ρ H QT = tt ρ H fun c H1 => QT (!c) H1 := rfl
theorem u_tIfE : tIfE tt ta tb ρ H Q = tt ρ H fun c H1 => if c = true then ta ρ H1 Q else tb ρ H1 Q := rfl
theorem u_tAnV : tAnV ta tb ρ H Q = ta ρ H fun x H1 => asB x fun c => if c = true then tb ρ H1 Q else Q (.bl false) H1 := rfl
theorem u_tOrV : tOrV ta tb ρ H Q = ta ρ H fun x H1 => asB x fun c => if c = true then Q (.bl true) H1 else tb ρ H1 Q := rfl
theorem u_tNtV : tNtV ta ρ H Q = ta ρ H fun x H1 => asB x fun c => Q (.bl (!c)) H1 := rfl
theorem u_rAdd_int : rAdd (.int i) (.int j) H Q = Q (.int (i + j)) H := rfl
theorem u_rAdd_str : rAdd (.str z) (.str z') H Q = (z.length + z'.length ≤ sizeLine ∧ Q (.str (z ++ z')) H) := rfl
theorem u_rAdd_tup : rAdd (.tup ds) (.tup es) H Q = (ds.length + es.length ≤ sizeLine ∧ Q (.tup (ds ++ es)) H) := rfl
theorem u_rAdd_ref : rAdd (.ref a) (.ref b) H Q = ∃ xs ys, H a = some (.lst xs) ∧ H b = some (.lst ys) ∧ xs.length + ys.length ≤ sizeLine ∧ ∀ p, H p = none → Q (.ref p) (upD H p (.lst (xs ++ ys))) := rfl
theorem u_rSub : rSub (.int i) (.int j) H Q = Q (.int (i - j)) H := rfl
theorem u_rMod : rMod (.int i) (.int j) H Q = (0 < j ∧ Q (.int (i % j)) H) := rfl
theorem u_rDiv : rDiv (.int i) (.int j) H Q = (CDiv i j ∧ Q (.int (i / j)) H) := rfl
theorem u_rPow : rPow (.int i) (.int j) H Q = (CPow i j ∧ Q (.int (i ^ j.toNat)) H) := rfl
theorem u_rLt : rLt (.int i) (.int j) H Q = Q (.bl (decide (i < j))) H := rfl
theorem u_rLe : rLe (.int i) (.int j) H Q = Q (.bl (decide (i ≤ j))) H := rfl
theorem u_rGt : rGt (.int i) (.int j) H Q = Q (.bl (decide (j < i))) H := rfl
theorem u_rGe : rGe (.int i) (.int j) H Q = Q (.bl (decide (j ≤ i))) H := rfl
theorem u_rMul_int : rMul (.int i) (.int j) H Q = (CMul i j ∧ Q (.int (i * j)) H) := rfl
theorem u_rMul_ref : rMul (.ref a) (.int j) H Q = ∃ xs, H a = some (.lst xs) ∧ -(2 ^ 63) ≤ j ∧ j < 2 ^ 63 ∧ xs.length * j.toNat ≤ sizeLine ∧ ∀ p, H p = none → Q (.ref p) (upD H p (.lst (List.replicate j.toNat xs).flatten)) := rfl
theorem u_rEq_int : rEq (.int i) (.int j) H Q = Q (.bl (decide (i = j))) H := rfl
theorem u_rEq_str : rEq (.str z) (.str z') H Q = Q (.bl (decide (z = z'))) H := rfl
theorem u_rEq_bl : rEq (.bl p) (.bl q) H Q = Q (.bl (decide (p = q))) H := rfl
theorem u_rEq_nn : rEq .non .non H Q = Q (.bl true) H := rfl
theorem u_rEq_in : rEq (.int i) .non H Q = Q (.bl false) H := rfl
theorem u_rEq_ni : rEq .non (.int i) H Q = Q (.bl false) H := rfl
theorem u_rNe_int : rNe (.int i) (.int j) H Q = Q (.bl (!decide (i = j))) H := rfl
theorem u_rNe_str : rNe (.str z) (.str z') H Q = Q (.bl (!decide (z = z'))) H := rfl
theorem u_rNe_bl : rNe (.bl p) (.bl q) H Q = Q (.bl (!decide (p = q))) H := rfl
theorem u_rNe_nn : rNe .non .non H Q = Q (.bl false) H := rfl
theorem u_rNe_in : rNe (.int i) .non H Q = Q (.bl true) H := rfl
theorem u_rNe_ni : rNe .non (.int i) H Q = Q (.bl true) H := rfl
theorem u_rEq_t2 {k l : Int} : rEq (.tup [.int i, .int j]) (.tup [.int k, .int l]) H Q = Q (.bl (decide (i = k) && decide (j = l))) H := by
  refine propext ⟨fun h => ?_, eqT2⟩
  obtain ⟨p, q, h1, h2, _, _, h⟩ := h
  have e : PyData.eqv (prD (i, j)).py (prD (k, l)).py = (decide (i = k) && decide (j = l)) := by
    rw [eqv_pr]
    by_cases h1 : i = k <;> by_cases h2 : j = l <;> simp [h1, h2]
  cases h1 with
  | tup h1 => cases h1 with
    | cons a1 a2 => cases a1; cases a2 with
      | cons b1 b2 => cases b1; cases b2; cases h2 with
        | tup h2 => cases h2 with
          | cons a1 a2 => cases a1; cases a2 with
            | cons b1 b2 => cases b1; cases b2; rw [← e]; exact h
theorem u_rIsN : rIsN x .non H Q = Q (.bl (isNon x)) H := rfl
theorem u_rIsN_bl : rIsN (.bl p) (.bl q) H Q = Q (.bl (decide (p = q))) H := rfl
theorem u_rNotN : rNotN x .non H Q = Q (.bl (!isNon x)) H := rfl
theorem u_rNotN_bl : rNotN (.bl p) (.bl q) H Q = Q (.bl (!decide (p = q))) H := rfl
theorem u_isNon_non : isNon .non = true := rfl
theorem u_isNon_int : isNon (.int i) = false := rfl
theorem u_isNon_ref : isNon (.ref a) = false := rfl
theorem u_isNon_tup : isNon (.tup ds) = false := rfl
theorem u_isNon_bl : isNon (.bl p) = false := rfl
theorem u_isNon_str : isNon (.str z) = false := rfl
/-- what a dict holds -/
def dgC (y : D) (P : Option D → Prop) : DO → Prop
  | .dK kvs => ∃ k, keyD y = some k ∧ P (lookP kvs k)
  | .rdK kvs => ∃ k, keyD y = some k ∧ P (lookP kvs k)
  | .dT kvs => ∃ ds k, y = .tup ds ∧ keysD ds = some k ∧ P (lookP kvs k)
  | .rdT kvs => ∃ ds k, y = .tup ds ∧ keysD ds = some k ∧ P (lookP kvs k)
  | _ => False
theorem u_DG {P : Option D → Prop} : DG H a y P = ∃ c, H a = some c ∧ dgC y P c := rfl
theorem u_dgC_K {P : Option D → Prop} {kvs : List (Key × D)} : dgC (.int i) P (.dK kvs) = P (lookP kvs (.inl i)) := propext ⟨fun ⟨k, h1, h⟩ => by cases h1; exact h, fun h => ⟨_, rfl, h⟩⟩
theorem u_dgC_rK {P : Option D → Prop} {kvs : List (Key × D)} : dgC (.int i) P (.rdK kvs) = P (lookP kvs (.inl i)) := propext ⟨fun ⟨k, h1, h⟩ => by cases h1; exact h, fun h => ⟨_, rfl, h⟩⟩
theorem u_dgC_T {P : Option D → Prop} {kvs : List (List Key × D)} : dgC (.tup [.int i, .int j]) P (.dT kvs) = P (lookP kvs [.inl i, .inl j]) := propext ⟨fun ⟨ds, k, h0, h1, h⟩ => by cases h0; cases h1; exact h, fun h => ⟨_, _, rfl, rfl, h⟩⟩
theorem u_dgC_rT {P : Option D → Prop} {kvs : List (List Key × D)} : dgC (.tup [.int i, .int j]) P (.rdT kvs) = P (lookP kvs [.inl i, .inl j]) := propext ⟨fun ⟨ds, k, h0, h1, h⟩ => by cases h0; cases h1; exact h, fun h => ⟨_, _, rfl, rfl, h⟩⟩
/-- x in a cell's things -/
def inC (g : Bool → Bool) (x : D) (H : HD) (a : Addr) (Q : QD) : DO → Prop
  | .lst ds => ∃ p ps, PyA H x p ∧ PyAs H ds ps ∧ SeqAt.shaped p = true ∧ SeqAt.shaped (.list ps) = true ∧ Q (.bl (g (ps.any fun z => PyData.eqv z p))) H
  | c => dgC x (fun o => Q (.bl (g o.isSome)) H) c
theorem u_rInG_ref {g : Bool → Bool} : rInG g x (.ref a) H Q = ∃ c, H a = some c ∧ inC g x H a Q c := by
  unfold rInG inC DG
  refine propext ⟨fun ⟨c, h1, h2⟩ => ⟨c, h1, ?_⟩, fun ⟨c, h1, h2⟩ => ⟨c, h1, ?_⟩⟩
  · cases c with
    | lst ds => exact h2
    | _ => obtain ⟨c', e, h2⟩ := h2; rw [h1] at e; cases e; exact h2
  · cases c with
    | lst ds => exact h2
    | _ => exact ⟨_, h1, h2⟩
theorem u_inC_K {g : Bool → Bool} {kvs : List (Key × D)} : inC g (.int i) H a Q (.dK kvs) = Q (.bl (g (lookP kvs (.inl i)).isSome)) H := u_dgC_K (P := fun o => Q (.bl (g o.isSome)) H)
theorem u_inC_rK {g : Bool → Bool} {kvs : List (Key × D)} : inC g (.int i) H a Q (.rdK kvs) = Q (.bl (g (lookP kvs (.inl i)).isSome)) H := u_dgC_rK (P := fun o => Q (.bl (g o.isSome)) H)
theorem u_inC_T {g : Bool → Bool} {kvs : List (List Key × D)} : inC g (.tup [.int i, .int j]) H a Q (.dT kvs) = Q (.bl (g (lookP kvs [.inl i, .inl j]).isSome)) H := u_dgC_T (P := fun o => Q (.bl (g o.isSome)) H)
theorem inC_like {α : Type} [DecidableEq α] {f : α → D} (hl : ∀ x, Low (f x)) (he : ∀ x y, PyData.eqv (f x).py (f y).py = decide (x = y)) {g : Bool → Bool} {x : α} {xs : List α} : inC g (f x) H a Q (.lst (xs.map f)) = Q (.bl (g (decide (x ∈ xs)))) H := by
  refine propext ⟨fun ⟨p, ps, h1, h2, h3, h4, h⟩ => ?_, fun h => ⟨_, _, .of H (hl x).1, .of H (lows (lowMap hl)).1, shapedLow (hl x), shapedL (lowMap hl), by rw [any_map he]; exact h⟩⟩
  have e1 : ∀ {d : D} {p : PyData}, PyA H d p → d.pure = true → p = d.py := fun {d p} h hp => pyA_uniq h hp
  have e2 := pyAs_uniq h2 (lows (lowMap hl)).1
  have e3 := e1 h1 (hl x).1
  subst e2 e3
  rw [any_map he] at h
  exact h
theorem u_inC_ints {g : Bool → Bool} {ns : List Int} : inC g (.int i) H a Q (.lst (ns.map D.int)) = Q (.bl (g (decide (i ∈ ns)))) H := inC_like (fun _ => low_int) (fun _ _ => eqv_int)
theorem u_inC_prs {g : Bool → Bool} {ns : List (Int × Int)} : inC g (.tup [.int i, .int j]) H a Q (.lst (ns.map prD)) = Q (.bl (g (decide ((i, j) ∈ ns)))) H := by
  have h := inC_like (f := prD) (x := (i, j)) (H := H) (Q := Q) (a := a) (g := g) (xs := ns) low_pr (fun _ _ => eqv_pr)
  refine h.trans ?_
  congr
theorem u_rInG_tup {g : Bool → Bool} {ns : List Int} : rInG g (.int i) (.tup (ns.map D.int)) H Q = Q (.bl (g (decide (i ∈ ns)))) H := by
  have e1 : (ns.map D.int).all flatD = true := by simp [flatD]
  have e2 : inF (.int i) (ns.map D.int) = decide (i ∈ ns) := by
    induction ns with
    | nil => rfl
    | cons n r ih =>
      have ih' := ih (by simp [flatD])
      unfold inF at ih' ⊢
      rw [List.map_cons, List.any_cons, ih']
      show ((n == i) || decide (i ∈ r)) = _
      by_cases h : n = i
      · subst h; simp
      · have : ¬ i = n := fun z => h z.symm
        simp [h, this]
  unfold rInG
  simp only [e1, e2, flatD, true_and]
/-! ### subscripts -/
def ixC (y : D) (H : HD) (Q : QD) : DO → Prop
  | .lst ds => ∃ i d, y = .int i ∧ L2.atI ds i = some d ∧ Q d H
  | c => dgC y (fun o => ∃ d, o = some d ∧ Q d H) c
theorem u_rIx_ref : rIx (.ref a) y H Q = ∃ c, H a = some c ∧ ixC y H Q c := by
  show (∃ c, H a = some c ∧ _) = _
  refine propext ⟨fun ⟨c, h1, h2⟩ => ⟨c, h1, ?_⟩, fun ⟨c, h1, h2⟩ => ⟨c, h1, ?_⟩⟩
  · cases c with
    | lst ds => exact h2
    | _ => obtain ⟨c', e, h2⟩ := h2; rw [h1] at e; cases e; exact h2
  · cases c with
    | lst ds => exact h2
    | _ => exact ⟨_, h1, h2⟩
theorem u_ixC_lst : ixC (.int i) H Q (.lst ds) = ∃ d, L2.atI ds i = some d ∧ Q d H := propext ⟨fun ⟨k, d, h1, h2, h⟩ => by cases h1; exact ⟨d, h2, h⟩, fun ⟨d, h2, h⟩ => ⟨i, d, rfl, h2, h⟩⟩
theorem u_ixC_K {kvs : List (Key × D)} : ixC (.int i) H Q (.dK kvs) = ∃ d, lookP kvs (.inl i) = some d ∧ Q d H := u_dgC_K (P := fun o => ∃ d, o = some d ∧ Q d H)
theorem u_ixC_rK {kvs : List (Key × D)} : ixC (.int i) H Q (.rdK kvs) = ∃ d, lookP kvs (.inl i) = some d ∧ Q d H := u_dgC_rK (P := fun o => ∃ d, o = some d ∧ Q d H)
theorem u_ixC_T {kvs : List (List Key × D)} : ixC (.tup [.int i, .int j]) H Q (.dT kvs) = ∃ d, lookP kvs [.inl i, .inl j] = some d ∧ Q d H := u_dgC_T (P := fun o => ∃ d, o = some d ∧ Q d H)
theorem u_ixC_rT {kvs : List (List Key × D)} : ixC (.tup [.int i, .int j]) H Q (.rdT kvs) = ∃ d, lookP kvs [.inl i, .inl j] = some d ∧ Q d H := u_dgC_rT (P := fun o => ∃ d, o = some d ∧ Q d H)
theorem u_rIx_tup : rIx (.tup ds) (.int i) H Q = ∃ d, L2.atI ds i = some d ∧ Q d H := propext ⟨fun ⟨k, d, h1, h2, h⟩ => by cases h1; exact ⟨d, h2, h⟩, fun ⟨d, h2, h⟩ => ⟨i, d, rfl, h2, h⟩⟩
theorem u_rIx_rl : rIx (.rl ds) (.int i) H Q = ∃ d, L2.atI ds i = some d ∧ Q d H := propext ⟨fun ⟨k, d, h1, h2, h⟩ => by cases h1; exact ⟨d, h2, h⟩, fun ⟨d, h2, h⟩ => ⟨i, d, rfl, h2, h⟩⟩
theorem u_at0 : L2.atI (x :: ds) 0 = some x := by
  have h := L2.atI_nat (xs := x :: ds) (j := 0) (v := x) rfl
  exact h
theorem u_at1 : L2.atI (x :: y :: ds) 1 = some y := by
  have h := L2.atI_nat (xs := x :: y :: ds) (j := 1) (v := y) rfl
  exact h
theorem u_at2 {z : D} : L2.atI (x :: y :: z :: ds) 2 = some z := by
  have h := L2.atI_nat (xs := x :: y :: z :: ds) (j := 2) (v := z) rfl
  exact h
theorem u_at3 {z z' : D} : L2.atI (x :: y :: z :: z' :: ds) 3 = some z' := by
  have h := L2.atI_nat (xs := x :: y :: z :: z' :: ds) (j := 3) (v := z') rfl
  exact h
/-! ### iterables -/
def lsI (H : HD) (R : ItD → HD → Prop) : D → Prop
  | .ref a => ∃ ds, H a = some (.lst ds) ∧ R ⟨ds, fun H => H a = some (.lst ds)⟩ H
  | .rl ds => R ⟨ds, fun _ => True⟩ H
  | _ => False
def tpI (H : HD) (R : ItD → HD → Prop) : D → Prop
  | .tup ds => R ⟨ds, fun _ => True⟩ H
  | _ => False
theorem u_iLs : iLs te ρ H R = te ρ H fun x H1 => lsI H1 R x := rfl
theorem u_lsI_ref : lsI H R (.ref a) = ∃ ds, H a = some (.lst ds) ∧ R ⟨ds, fun H => H a = some (.lst ds)⟩ H := rfl
theorem u_lsI_rl : lsI H R (.rl ds) = R ⟨ds, fun _ => True⟩ H := rfl
theorem u_iTp : iTp te ρ H R = te ρ H fun x H1 => tpI H1 R x := rfl
theorem u_tpI : tpI H R (.tup ds) = R ⟨ds, fun _ => True⟩ H := rfl
def r1I (H : HD) (R : ItD → HD → Prop) : List D → Prop
  | [.int j] => (-(2 ^ 62) ≤ j ∧ j < 2 ^ 62) ∧ R ⟨rngD 0 j.toNat, fun _ => True⟩ H
  | _ => False
def r2I (H : HD) (R : ItD → HD → Prop) : List D → Prop
  | [.int i, .int j] => (-(2 ^ 62) ≤ i ∧ i < 2 ^ 62 ∧ -(2 ^ 62) ≤ j ∧ j < 2 ^ 62) ∧ R ⟨rngD i (j - i).toNat, fun _ => True⟩ H
  | _ => False
theorem u_iR1 : iR1 tr ρ H R = tr ρ H fun xs H1 => r1I H1 R xs := rfl
theorem u_r1I : r1I H R [.int j] = ((-(2 ^ 62) ≤ j ∧ j < 2 ^ 62) ∧ R ⟨rngD 0 j.toNat, fun _ => True⟩ H) := rfl
theorem u_iR2 : iR2 tr ρ H R = tr ρ H fun xs H1 => r2I H1 R xs := rfl
theorem u_r2I : r2I H R [.int i, .int j] = ((-(2 ^ 62) ≤ i ∧ i < 2 ^ 62 ∧ -(2 ^ 62) ≤ j ∧ j < 2 ^ 62) ∧ R ⟨rngD i (j - i).toNat, fun _ => True⟩ H) := rfl
def enI (H : HD) (R : ItD → HD → Prop) : List D → Prop
  | [.ref a] => ∃ ds, H a = some (.lst ds) ∧ R ⟨enumD 0 ds, fun H => H a = some (.lst ds)⟩ H
  | _ => False
theorem u_iEn : iEn tr ρ H R = tr ρ H fun xs H1 => enI H1 R xs := rfl
theorem u_enI : enI H R [.ref a] = ∃ ds, H a = some (.lst ds) ∧ R ⟨enumD 0 ds, fun H => H a = some (.lst ds)⟩ H := rfl
def kyC (H : HD) (R : ItD → HD → Prop) : DO → Prop
  | .rdK kvs => R ⟨kvs.map fun p => kD p.1, fun _ => True⟩ H
  | .rdT kvs => R ⟨kvs.map fun p => .tup (p.1.map kD), fun _ => True⟩ H
  | _ => False
theorem u_iKy : iKy te ρ H R = te ρ H fun x H1 => asR x fun a => ∃ c, H1 a = some c ∧ kyC H1 R c := rfl
theorem u_kyC_K {kvs : List (Key × D)} : kyC H R (.rdK kvs) = R ⟨kvs.map fun p => kD p.1, fun _ => True⟩ H := rfl
theorem u_kyC_T {kvs : List (List Key × D)} : kyC H R (.rdT kvs) = R ⟨kvs.map fun p => .tup (p.1.map kD), fun _ => True⟩ H := rfl
theorem u_tYs : tYs ρ H QT = QT true H := rfl
theorem u_tLcG {tg : TgD} {vs : List Nat} : tLcG w tg tt te vs ρ H Q = w ρ H fun I H1 => ∀ p, H1 p = none → lcD I tg tt te (wipeD ρ vs) p Q I.ds [] (upD H1 p (.lst [])) := rfl
theorem u_wipe_nil : wipeD ρ [] = ρ := rfl
theorem u_wipe_cons {n : Nat} {vs : List Nat} : wipeD ρ (n :: vs) = (wipeD ρ vs).set n none := rfl
/-! ### calls -/
theorem u_tCal : tCal sp wd tr ρ H Q = tr ρ H fun ds H1 => sp ds H1 Q fun C fs Hx => wd C fs ρ Hx := rfl
theorem u_tMet : tMet C sp wd to tr ρ H Q = to ρ H fun x H1 => asR x fun a => (∃ fs, H1 a = some (.ins C fs)) ∧ tr ρ H1 fun ds H2 => sp (.ref a :: ds) H2 Q fun C fs Hx => wd C fs ρ Hx := rfl
theorem u_tMak : tMak C sp wd tr ρ H Q = tr ρ H fun ds H1 => ∀ x, H1 x = none → sp (.ref x :: ds) (upD H1 x (.ins C [])) (fun d H2 => isNon d = true ∧ Q (.ref x) H2) fun C fs Hx => wd C fs ρ Hx := rfl
theorem u_WdE {Ed : XD} {fs : List (Str × D)} : WdE Ed C fs ρ H = Ed C fs H := rfl
theorem u_noW {fs : List (Str × D)} : noW C fs ρ H = False := rfl
theorem u_tCb {r : List D → HD → QD → Prop} : tCb r tr ρ H Q = tr ρ H fun ds H1 => r ds H1 Q := rfl
def lnC (H : HD) (Q : QD) : DO → Prop
  | .lst ds => Q (.int (ds.length : Nat)) H
  | .dK kvs => Q (.int (kvs.length : Nat)) H
  | _ => False
theorem u_rLen_tup : rLen [.tup ds] H Q = Q (.int (ds.length : Nat)) H := rfl
theorem u_rLen_rl : rLen [.rl ds] H Q = Q (.int (ds.length : Nat)) H := rfl
theorem u_rLen_str : rLen [.str z] H Q = (z.length ≤ sizeLine ∧ Q (.int (z.length : Nat)) H) := rfl
theorem u_rLen_ref : rLen [.ref a] H Q = ∃ c, H a = some c ∧ lnC H Q c := rfl
theorem u_lnC_lst : lnC H Q (.lst ds) = Q (.int (ds.length : Nat)) H := rfl
theorem u_lnC_dK {kvs : List (Key × D)} : lnC H Q (.dK kvs) = Q (.int (kvs.length : Nat)) H := rfl
theorem u_rList_tup : rList [.tup ds] H Q = ∀ p, H p = none → Q (.ref p) (upD H p (.lst ds)) := rfl
theorem u_rList_rl : rList [.rl ds] H Q = ∀ p, H p = none → Q (.ref p) (upD H p (.lst ds)) := rfl
theorem u_rList_ref : rList [.ref a] H Q = ∃ ds, H a = some (.lst ds) ∧ ∀ p, H p = none → Q (.ref p) (upD H p (.lst ds)) := rfl
theorem u_rTuple_tup : rTuple [.tup ds] H Q = Q (.tup ds) H := rfl
theorem u_rTuple_ref : rTuple [.ref a] H Q = ∃ ds, H a = some (.lst ds) ∧ Q (.tup ds) H := rfl
theorem u_rInt_int : rInt [.int i] H Q = Q (.int i) H := rfl
theorem u_rInt_bl : rInt [.bl p] H Q = Q (.int (if p then 1 else 0)) H := rfl
theorem u_rStr : rStr [.int i] H Q = (i.natAbs.log2 < 1920 ∧ Q (.str (toString i)) H) := rfl
theorem u_rMin2 : rMin2 [.int i, .int j] H Q = Q (.int (if j < i then j else i)) H := rfl
theorem u_rMax2 : rMax2 [.int i, .int j] H Q = Q (.int (if j > i then j else i)) H := rfl
theorem u_rSum : rSum [.ref a] H Q = ∃ ns : List Int, H a = some (.lst (ns.map D.int)) ∧ Q (.int ns.sum) H := rfl
theorem rSum_of {ns : List Int} (h : H a = some (.lst (ns.map D.int))) (q : Q (.int ns.sum) H) : rSum [.ref a] H Q := ⟨ns, h, q⟩
theorem rSorted_ints {ns : List Int} (h : H a = some (.lst (ns.map D.int))) (q : ∀ p, H p = none → Q (.ref p) (upD H p (.lst ((sortI ns).map D.int)))) : rSorted [.ref a] H Q := ⟨_, h, .inl ⟨ns, rfl, q⟩⟩
theorem rSorted_prs {ns : List (Int × Int)} (h : H a = some (.lst (ns.map prD))) (q : ∀ p, H p = none → Q (.ref p) (upD H p (.lst ((sortP ns).map prD)))) : rSorted [.ref a] H Q := ⟨_, h, .inr ⟨ns, rfl, q⟩⟩
theorem u_tLr1 : tLr1 ta ρ H Q = ta ρ H fun x H1 => asI x fun n => (0 ≤ n ∧ n ≤ 16777216) ∧ ∀ p, H1 p = none → Q (.ref p) (upD H1 p (.lst (rngD 0 n.toNat))) := rfl
theorem u_tLr2 : tLr2 ta tb ρ H Q = ta ρ H fun x H1 => tb ρ H1 fun y H2 => asI x fun i => asI y fun j => (0 ≤ i ∧ j ≤ 16777216 ∧ i ≤ 16777216 ∧ 0 ≤ j) ∧ ∀ p, H2 p = none → Q (.ref p) (upD H2 p (.lst (rngD i (j - i).toNat))) := by
  refine congrArg (ta ρ H) (funext fun x => funext fun H1 => congrArg (tb ρ H1) (funext fun y => funext fun H2 => ?_))
  cases x <;> first | rfl | (cases y <;> rfl)
theorem u_tBm {r : D → List D → HD → QD → Prop} : tBm r to tr ρ H Q = to ρ H fun x H1 => asR x fun a => (∃ ds, H1 a = some (.lst ds)) ∧ tr ρ H1 fun xs H2 => r (.ref a) xs H2 Q := by
  refine congrArg (to ρ H) (funext fun x => funext fun H1 => ?_)
  cases x <;> first | rfl | (simp only [isL, false_and]; rfl)
theorem u_rApp : rApp (.ref a) [y] H Q = ∃ ds, H a = some (.lst ds) ∧ ds.length ≤ 1000000 ∧ Q .non (upD H a (.lst (ds ++ [y]))) := rfl
theorem u_rPop0 : rPop0 (.ref a) [] H Q = ∃ ds, H a = some (.lst ds) ∧ ∃ y, ds[ds.length - 1]? = some y ∧ Q y (upD H a (.lst ds.dropLast)) := propext ⟨fun ⟨ds, y, h1, h2⟩ => ⟨ds, h1, y, h2⟩, fun ⟨ds, h1, y, h2⟩ => ⟨ds, y, h1, h2⟩⟩
theorem u_rPopI : rPopI (.ref a) [.int i] H Q = ∃ ds, H a = some (.lst ds) ∧ 0 ≤ i ∧ i < 1000000 ∧ ∃ y, ds[i.toNat]? = some y ∧ Q y (upD H a (.lst (ds.eraseIdx i.toNat))) := propext ⟨fun ⟨ds, y, h1, h2, h3, h4⟩ => ⟨ds, h1, h2, h3, y, h4⟩, fun ⟨ds, h1, h2, h3, y, h4⟩ => ⟨ds, y, h1, h2, h3, h4⟩⟩
theorem u_rIns : rIns (.ref a) [.int i, y] H Q = ∃ ds, H a = some (.lst ds) ∧ ds.length ≤ 1000000 ∧ 0 ≤ i ∧ i < 1000000 ∧ Q .non (upD H a (.lst (ds.take i.toNat ++ [y] ++ ds.drop i.toNat))) := rfl
theorem u_rClr : rClr (.ref a) [] H Q = ∃ ds, H a = some (.lst ds) ∧ Q .non (upD H a (.lst [])) := rfl
def isD : DO → Prop
  | .dK _ => True
  | .dT _ => True
  | _ => False
theorem u_tGet2 : tGet2 te ta tb ρ H Q = te ρ H fun x H1 => asR x fun a => (∃ c, H1 a = some c ∧ isD c) ∧ ta ρ H1 fun y H2 => tb ρ H2 fun z H3 => DG H3 a y fun o => Q (o.getD z) H3 := by
  show (te ρ H _) = (te ρ H _)
  congr 1
theorem u_isD_K {kvs : List (Key × D)} : isD (.dK kvs) = True := rfl
theorem u_isD_T {kvs : List (List Key × D)} : isD (.dT kvs) = True := rfl
/-- any fact of a heap in a goal -/
theorem ex_cell {c : DO} {k : DO → Prop} (h : H a = some c) (q : k c) : ∃ c, H a = some c ∧ k c := ⟨c, h, q⟩
theorem loop_inv' {I : ItD} {tg : TgD} {tb : TSD} {D : EndsD} {ρ : StD} {H : HD} (W : Nat → StD → HD → Prop) (h0 : W 0 ρ H)
    (hs : ∀ i d ρ H, I.ds[i]? = some d → W i ρ H → I.stay H ∧ ∀ N B : StD → HD → Prop, (∀ ρ H, W (i + 1) ρ H → N ρ H) → (∀ ρ H, D.nx ρ H → B ρ H) → goA tg d ρ fun ρ' => tb { nx := N, rt := D.rt, ct := N, bk := B } ρ' H)
    (hd : ∀ ρ H, W I.ds.length ρ H → I.stay H ∧ D.nx ρ H) : loopD I tg tb D I.ds ρ H := loop_inv W h0 (fun i d ρ H h w => by
  obtain ⟨h1, h2⟩ := hs i d ρ H h w
  exact ⟨h1, fun N hN => h2 N D.nx hN fun _ _ h => h⟩) hd
theorem lc_inv' {I : ItD} {tg : TgD} {tt : TTD} {te : TED} {ρ0 : StD} {p : Addr} {Q : QD} {H : HD} (W : Nat → List D → HD → Prop) (h0 : W 0 [] H)
    (hs : ∀ i d acc H, I.ds[i]? = some d → W i acc H → I.stay H ∧ ∀ N : List D → HD → Prop, (∀ acc H, W (i + 1) acc H → N acc H) → goA tg d ρ0 fun ρ' => tt ρ' H fun b H3 => if b = true then te ρ' H3 fun y H4 => H4 p = some (.lst acc) ∧ acc.length ≤ 100000 ∧ N (acc ++ [y]) (upD H4 p (.lst (acc ++ [y]))) else N acc H3)
    (hd : ∀ acc H, W I.ds.length acc H → I.stay H ∧ Q (.ref p) H) : lcD I tg tt te ρ0 p Q I.ds [] H := lc_inv W h0 (fun i d acc H h w => by
  obtain ⟨h1, h2⟩ := hs i d acc H h w
  refine ⟨h1, fun N hN => ?_⟩
  have h3 := h2 N hN
  simp only [Nat.ble_eq]
  exact h3) hd
end
end Lt

end
section
set_option Elab.async false
set_option linter.all false
set_option maxRecDepth 100000
set_option maxHeartbeats 2000000
/-! Dl11: comprehensions that filter and map. -/
namespace Lt
open PySem PySem.Spec L2
theorem filter_take {α : Type} {f : α → Bool} {xs : List α} {i : Nat} {x : α} (h : xs[i]? = some x) : (xs.take (i + 1)).filter f = (xs.take i).filter f ++ (if f x = true then [x] else []) := by
  obtain ⟨hi, e⟩ := List.getElem?_eq_some_iff.mp h
  rw [List.take_succ_eq_append_getElem hi, List.filter_append, e]
  by_cases q : f x = true <;> simp [q]
theorem map_take {α β : Type} {f : α → β} {xs : List α} {i : Nat} {x : α} (h : xs[i]? = some x) : (xs.take (i + 1)).map f = (xs.take i).map f ++ [f x] := by
  obtain ⟨hi, e⟩ := List.getElem?_eq_some_iff.mp h
  rw [List.take_succ_eq_append_getElem hi, List.map_append, e]
  rfl
/-- [g x for x in xs if P x] -/
theorem lc_fm {α : Type} (f g : α → D) (P : α → Bool) {xs : List α} {stay : HD → Prop} {tg : TgD} {tt : TTD} {te : TED} {ρ0 : StD} {p : Addr} {Q : QD} {Hd : HD} (hp : Hd p = none) (hl : xs.length ≤ 100000) (hst : ∀ H, Ext Hd H → stay H)
    (step : ∀ (i : Nat) (x : α) (H : HD) (K : D → HD → Prop) (K' : HD → Prop), xs[i]? = some x → Ext Hd H → (P x = true → ∀ H', Ext H H' → K (g x) H') → (P x = false → ∀ H', Ext H H' → K' H') → goA tg (f x) ρ0 fun ρ' => tt ρ' H fun b H3 => if b = true then te ρ' H3 fun y H4 => K y H4 else K' H3)
    (fin : ∀ H, Ext Hd H → H p = some (.lst ((xs.filter P).map g)) → Q (.ref p) H) : lcD ⟨xs.map f, stay⟩ tg tt te ρ0 p Q (xs.map f) [] (upD Hd p (.lst [])) := by
  refine lc_inv' (I := ⟨xs.map f, stay⟩) (fun i acc H => acc = ((xs.take i).filter P).map g ∧ Ext Hd H ∧ H p = some (.lst acc)) ⟨rfl, .new hp, upD_same⟩ ?_ ?_
  · rintro i d acc H hd ⟨ea, e, hpa⟩
    obtain ⟨x, hx, rfl⟩ := getMap hd
    refine ⟨hst H e, fun N hN => ?_⟩
    refine step i x H _ _ hx e (fun hP H' e' => ⟨e' _ _ hpa, ?_, hN _ _ ⟨?_, (e.trans e').up hp, upD_same⟩⟩) fun hP H' e' => hN _ _ ⟨?_, e.trans e', e' _ _ hpa⟩
    · rw [ea, List.length_map]
      have := List.length_filter_le P (xs.take i)
      have := List.length_take_le i xs
      have := (List.getElem?_eq_some_iff.mp hx).1
      rw [List.length_take] at *
      omega
    · rw [filter_take hx, hP, ea]; simp
    · rw [filter_take hx, hP, ea]; simp
  · rintro acc H ⟨ea, e, hpa⟩
    refine ⟨hst H e, fin H e ?_⟩
    rw [hpa, ea]
    show some (DO.lst ((List.filter P (xs.take (xs.map f).length)).map g)) = _
    rw [List.length_map, List.take_length]
/-- [g x for x in xs] -/
theorem lc_map {α : Type} (f g : α → D) {xs : List α} {stay : HD → Prop} {tg : TgD} {te : TED} {ρ0 : StD} {p : Addr} {Q : QD} {Hd : HD} (hp : Hd p = none) (hl : xs.length ≤ 100000) (hst : ∀ H, Ext Hd H → stay H)
    (step : ∀ (i : Nat) (x : α) (H : HD) (K : D → HD → Prop), xs[i]? = some x → Ext Hd H → (∀ H', Ext H H' → K (g x) H') → goA tg (f x) ρ0 fun ρ' => te ρ' H fun y H4 => K y H4)
    (fin : ∀ H, Ext Hd H → H p = some (.lst (xs.map g)) → Q (.ref p) H) : lcD ⟨xs.map f, stay⟩ tg tYs te ρ0 p Q (xs.map f) [] (upD Hd p (.lst [])) := by
  refine lc_fm f g (fun _ => true) hp hl hst (fun i x H K K' hx e h1 h2 => ?_) (fun H e h => fin H e ?_)
  · simp only [u_tYs, if_true]
    exact step i x H K hx e (h1 rfl)
  · rw [h, List.filter_eq_self.mpr (fun _ _ => rfl)]
end Lt

end
section
set_option Elab.async false
set_option linter.all false
set_option maxRecDepth 100000
set_option maxHeartbeats 2000000
/-! Dl12: more rules. -/
namespace Lt
open PySem PySem.Spec L2
section
variable {X : Cx} {cs : Addr → Option (List Str)} {a b c e : Expr} {ta tb tc te : TED} {pos : Pos}
/-- {k: v}, the key an int -/
def tDisp1 (tk tv : TED) : TED := fun ρ H Q => ∀ p, H p = none → tk ρ (upD H p (.dK [])) fun x H1 => tv ρ H1 fun y H2 => H2 p = some (.dK []) ∧ asI x fun i => Q (.ref p) (upD H2 p (.dK [(.inl i, y)]))
theorem u_tDisp1 {ρ : StD} {H : HD} {Q : QD} : tDisp1 ta tb ρ H Q = ∀ p, H p = none → ta ρ (upD H p (.dK [])) fun x H1 => tb ρ H1 fun y H2 => H2 p = some (.dK []) ∧ asI x fun i => Q (.ref p) (upD H2 p (.dK [(.inl i, y)])) := rfl
theorem pd_disp1 (hk : PD X cs a ta) (hv : PD X cs b tb) : PD X cs (.Dict [some a] [b] pos) (tDisp1 ta tb) := by
  refine ⟨PE.of (pe_disp (pps_cons hk.pe hv.pe pps_nil) rfl rfl (by simp) (by simp)) fun σ H Q h => ?_⟩
  obtain ⟨ρ, Hd, Qd, rs, rh, h, k⟩ := h
  intro p hp
  have eN : TupX H (upd H p (.dK [])) := .new hp
  refine ⟨ρ, _, _, rs.ext eN, rh.new (c := .dK []) hp ⟨[], upd_same, .nil⟩, h p (rh.free hp), fun v H1 x Hd1 e1 rh1 rv h1 => ?_⟩
  refine ⟨ρ, Hd1, _, rs.ext (eN.trans e1), rh1, h1, fun w H2 y Hd2 e2 rh2 rw h2 => ?_⟩
  obtain ⟨g, h2⟩ := h2
  obtain ⟨vs, g', r⟩ := rh2 _ _ g
  have evs : vs = [] := by cases r; rfl
  subst evs
  cases x with
  | int i =>
    cases rv
    refine ⟨g', [(.inl i, w)], rfl, by simp, ?_⟩
    have em : TupX H2 (upd H2 p (.dK (mergeK [] [(.inl i, w)]))) := .mut g' trivial
    refine k _ _ _ _ (((eN.trans e1).trans e2).trans em) (rh2.mut (c := .dK [(.inl i, y)]) g' trivial ⟨_, upd_same, ?_⟩) .ref h2
    exact .cons ⟨rfl, rw.ext em⟩ .nil
  | _ => exact h2.elim
end
theorem u_ixN41 : ixN 4 1 = some 1 := rfl
theorem u_ixN42 : ixN 4 2 = some 2 := rfl
theorem u_ixN43 : ixN 4 3 = some 3 := rfl
end Lt

end
section
set_option Elab.async false
set_option linter.all false
set_option maxRecDepth 100000
set_option maxHeartbeats 2000000
/-! Dl13: texts. -/
namespace Lt
open PySem PySem.Spec L2
section
variable {X : Cx} {cs : Addr → Option (List Str)} {a b c e : Expr} {ta tb tc te to : TED} {pos : Pos}
def rSplit (x y : D) (H : HD) (Q : QD) : Prop := match x, y with
  | .str a, .str b => (b.length == 0) = false ∧ a.length + 2 ≤ sizeLine ∧ ∀ p, H p = none → Q (.ref p) (upD H p (.lst ((Txt.split a b).map D.str)))
  | _, _ => False
def isS (x : D) : Prop := match x with
  | .str _ => True
  | _ => False
def tSplit (to te : TED) : TED := fun ρ H Q => to ρ H fun x H1 => isS x ∧ te ρ H1 fun y H2 => rSplit x y H2 Q
def rJn (x y : D) (H : HD) (Q : QD) : Prop := match x, y with
  | .str a, .ref p => ∃ ys : List Str, H p = some (.lst (ys.map D.str)) ∧ (ys.map (·.length)).sum + ys.length * a.length ≤ 16777216 ∧ Q (.str (Txt.join a ys)) H
  | _, _ => False
def tJn (to te : TED) : TED := fun ρ H Q => to ρ H fun x H1 => isS x ∧ te ρ H1 fun y H2 => rJn x y H2 Q
theorem pd_split {o : Expr} {apos : Pos} (ho : PD X cs o to) (he : PD X cs e te) (hs : starEach [e] X.env = [(false, eval e X.env)] := by rfl) (hbase : attributeBase o "split" X.env (eval o X.env) = eval o X.env := by rfl) (hline : (apos.endLine == pos.line) = true := by rfl) :
    PD X cs (.Call (.Attribute o "split" apos) [e] [] pos) (tSplit to te) := by
  refine ⟨PE.of (pe_split ho.pe he.pe hs hbase hline) fun σ H Q h => ?_⟩
  obtain ⟨ρ, Hd, Qd, rs, rh, h, k⟩ := h
  refine ⟨ρ, Hd, _, rs, rh, h, fun v H1 x Hd1 e1 rh1 rv h1 => ?_⟩
  obtain ⟨hx, h1⟩ := h1
  cases x with
  | str a =>
    cases rv
    refine ⟨⟨a, rfl⟩, ρ, Hd1, _, rs.ext e1, rh1, h1, fun w H2 y Hd2 e2 rh2 rw h2 => ?_⟩
    cases y with
    | str b =>
      cases rw
      obtain ⟨g1, g2, h2⟩ := h2
      exact ⟨a, b, rfl, rfl, g1, g2, fun p hp => k _ _ _ _ ((e1.trans e2).trans (.new hp)) (rh2.newL hp (RDs.strs _)) .ref (h2 p (rh2.free hp))⟩
    | _ => exact h2.elim
  | _ => exact hx.elim
theorem pd_join {o : Expr} {apos : Pos} (ho : PD X cs o to) (he : PD X cs e te) (hs : starEach [e] X.env = [(false, eval e X.env)] := by rfl) (hbase : attributeBase o "join" X.env (eval o X.env) = eval o X.env := by rfl) (hline : (apos.endLine == pos.line) = true := by rfl) :
    PD X cs (.Call (.Attribute o "join" apos) [e] [] pos) (tJn to te) := by
  refine ⟨PE.of (pe_join ho.pe he.pe hs hbase hline) fun σ H Q h => ?_⟩
  obtain ⟨ρ, Hd, Qd, rs, rh, h, k⟩ := h
  refine ⟨ρ, Hd, _, rs, rh, h, fun v H1 x Hd1 e1 rh1 rv h1 => ?_⟩
  obtain ⟨hx, h1⟩ := h1
  cases x with
  | str a =>
    cases rv
    refine ⟨⟨a, rfl⟩, ρ, Hd1, _, rs.ext e1, rh1, h1, fun w H2 y Hd2 e2 rh2 rw h2 => ?_⟩
    cases y with
    | ref p =>
      cases rw
      obtain ⟨ys, g, hz, h2⟩ := h2
      obtain ⟨vs, g', r⟩ := rh2 _ _ g
      rw [r.strsV] at g'
      exact ⟨a, p, ys, rfl, rfl, .inl (SqL.of g'), hz, k _ _ _ _ (e1.trans e2) rh2 .str h2⟩
    | _ => exact h2.elim
  | _ => exact hx.elim
/-- int of a number, a truth value, a text -/
def rIntT : List D → HD → QD → Prop := fun xs H Q => match xs with
  | [.str a] => ∃ n, PySem.intText? a = some n ∧ a.length ≤ 640 ∧ Q (.int n) H
  | xs => rInt xs H Q
theorem call_intT : CallD X cs (.type "int") rIntT := by
  obtain ⟨r', hc, k'⟩ := call_intG (X := X) (cs := cs)
  refine ⟨_, CallR.or hc call_int_str, fun H Hd ds vs Qd Q rh rd h k => ?_⟩
  match ds, h with
  | [.str z], h =>
    obtain ⟨v, rfl, r⟩ := rd.one_
    cases r
    obtain ⟨n, h1, h2, h⟩ := h
    exact .inr ⟨z, n, rfl, h1, h2, k _ H _ Hd (.refl H) rh .int h⟩
  | [.int i], h => exact .inl (k' H Hd _ vs Qd Q rh rd h k)
  | [.bl i], h => exact .inl (k' H Hd _ vs Qd Q rh rd h k)
def sgD (c : Nat) : D := .str ⟨#[c]⟩
def srI (H : HD) (R : ItD → HD → Prop) : D → Prop
  | .str x => R ⟨x.cps.toList.map sgD, fun _ => True⟩ H
  | _ => False
def iSr (te : TED) : TID := fun ρ H R => te ρ H fun x H1 => srI H1 R x
theorem pid_str {tg : Expr} (he : PD X cs e te) : PID X cs tg e (iSr te) := ⟨PI.of (pi_str he.pe) fun σ H R h => by
  obtain ⟨ρ, Hd, Rd, rs, rh, h, k⟩ := h
  refine ⟨ρ, Hd, _, rs, rh, h, fun v H1 x Hd1 e1 rh1 rv h1 => ?_⟩
  cases x with
  | str x =>
    cases rv
    refine ⟨x, rfl, k _ H1 _ Hd1 e1 rh1 (fun i H' Hd' ex rh' st => ?_) h1⟩
    refine ⟨fun d hd => ?_, fun hl => ?_⟩
    · obtain ⟨c, hc, rfl⟩ := getMap hd
      rw [Array.getElem?_toList] at hc
      refine ⟨(Array.getElem?_eq_some_iff.mp hc).1, fun y H2 q => ?_⟩
      obtain ⟨rfl, c', hc', rfl⟩ := q
      rw [hc] at hc'
      cases hc'
      exact ⟨.refl _, rh', .str⟩
    · rw [List.length_map, Array.length_toList] at hl
      exact hl
  | _ => exact h1.elim⟩
end
section
variable {ρ : StD} {H : HD} {Q : QD} {R : ItD → HD → Prop} {te to : TED} {p : Addr} {z z' : Str} {i : Int}
theorem u_isS : isS (.str z) = True := rfl
theorem u_tSplit : tSplit to te ρ H Q = to ρ H fun x H1 => isS x ∧ te ρ H1 fun y H2 => rSplit x y H2 Q := rfl
theorem u_rSplit : rSplit (.str z) (.str z') H Q = ((z'.length == 0) = false ∧ z.length + 2 ≤ sizeLine ∧ ∀ p, H p = none → Q (.ref p) (upD H p (.lst ((Txt.split z z').map D.str)))) := rfl
theorem u_tJn : tJn to te ρ H Q = to ρ H fun x H1 => isS x ∧ te ρ H1 fun y H2 => rJn x y H2 Q := rfl
theorem rJn_def : rJn (.str z) (.ref p) H Q = ∃ ys : List Str, H p = some (.lst (ys.map D.str)) ∧ (ys.map (·.length)).sum + ys.length * z.length ≤ 16777216 ∧ Q (.str (Txt.join z ys)) H := rfl
theorem u_rIntT_str : rIntT [.str z] H Q = ∃ n, PySem.intText? z = some n ∧ z.length ≤ 640 ∧ Q (.int n) H := rfl
theorem u_rIntT_int : rIntT [.int i] H Q = Q (.int i) H := rfl
theorem u_iSr : iSr te ρ H R = te ρ H fun x H1 => srI H1 R x := rfl
theorem u_srI : srI H R (.str z) = R ⟨z.cps.toList.map sgD, fun _ => True⟩ H := rfl
theorem u_rInG_str {g : Bool → Bool} {c : Nat} : rInG g (.str ⟨#[c]⟩) (.str z) H Q = Q (.bl (g (decide (c ∈ z.cps.toList)))) H := by
  refine propext ⟨fun ⟨c', h1, h⟩ => ?_, fun h => ⟨c, rfl, h⟩⟩
  injection h1 with h1
  injection h1 with h1
  have e : c = c' := by injection h1 with h1; injection h1
  subst e
  exact h
theorem u_rIx_str : rIx (.str z) (.int i) H Q = ∃ c, z.length ≤ sizeLine ∧ L2.atI z.cps.toList i = some c ∧ Q (.str ⟨#[c]⟩) H := propext ⟨fun ⟨k, c, h1, h2, h3, h⟩ => by cases h1; exact ⟨c, h2, h3, h⟩, fun ⟨c, h2, h3, h⟩ => ⟨i, c, rfl, h2, h3, h⟩⟩
/-! ### isinstance -/
def isiC (T : String) (H : HD) (Q : QD) : DO → Prop
  | .lst _ => ∃ b, kitB "list" T = some b ∧ Q (.bl b) H
  | .dK _ => ∃ b, kitB "dict" T = some b ∧ Q (.bl b) H
  | .dT _ => ∃ b, kitB "dict" T = some b ∧ Q (.bl b) H
  | _ => False
theorem isi_of {x : D} {T n : String} (hu : ∀ m, TyD H x m ↔ m = n) : rIsi [x, .ty T] H Q = ∃ b, kitB n T = some b ∧ Q (.bl b) H :=
  propext ⟨fun ⟨m, b, h1, h2, h⟩ => by rw [(hu m).mp h1] at h2; exact ⟨b, h2, h⟩, fun ⟨b, h2, h⟩ => ⟨n, b, (hu n).mpr rfl, h2, h⟩⟩
theorem u_isi_non {T : String} : rIsi [.non, .ty T] H Q = ∃ b, kitB "NoneType" T = some b ∧ Q (.bl b) H := isi_of fun m => ⟨fun h => by cases h; rfl, fun h => by rw [h]; exact .non⟩
theorem u_isi_bl {T : String} {b : Bool} : rIsi [.bl b, .ty T] H Q = ∃ b, kitB "bool" T = some b ∧ Q (.bl b) H := isi_of fun m => ⟨fun h => by cases h; rfl, fun h => by rw [h]; exact .bl _⟩
theorem u_isi_int {T : String} : rIsi [.int i, .ty T] H Q = ∃ b, kitB "int" T = some b ∧ Q (.bl b) H := isi_of fun m => ⟨fun h => by cases h; rfl, fun h => by rw [h]; exact .int _⟩
theorem u_isi_str {T : String} : rIsi [.str z, .ty T] H Q = ∃ b, kitB "str" T = some b ∧ Q (.bl b) H := isi_of fun m => ⟨fun h => by cases h; rfl, fun h => by rw [h]; exact .str _⟩
theorem u_isi_tup {T : String} {ds : List D} : rIsi [.tup ds, .ty T] H Q = ∃ b, kitB "tuple" T = some b ∧ Q (.bl b) H := isi_of fun m => ⟨fun h => by cases h; rfl, fun h => by rw [h]; exact .tup _⟩
theorem u_isi_ref {T : String} : rIsi [.ref p, .ty T] H Q = ∃ c, H p = some c ∧ isiC T H Q c := by
  refine propext ⟨fun ⟨m, b, h1, h2, h⟩ => ?_, fun ⟨c, hc, h⟩ => ?_⟩
  · cases h1 with
    | lst e => exact ⟨_, e, b, h2, h⟩
    | dK e => exact ⟨_, e, b, h2, h⟩
    | dT e => exact ⟨_, e, b, h2, h⟩
  · cases c with
    | lst ds => obtain ⟨b, h2, h⟩ := h; exact ⟨_, b, .lst hc, h2, h⟩
    | dK ds => obtain ⟨b, h2, h⟩ := h; exact ⟨_, b, .dK hc, h2, h⟩
    | dT ds => obtain ⟨b, h2, h⟩ := h; exact ⟨_, b, .dT hc, h2, h⟩
    | _ => exact h.elim
theorem u_isiC_lst {T : String} {ds : List D} : isiC T H Q (.lst ds) = ∃ b, kitB "list" T = some b ∧ Q (.bl b) H := rfl
theorem u_isiC_dK {T : String} {ds : List (Key × D)} : isiC T H Q (.dK ds) = ∃ b, kitB "dict" T = some b ∧ Q (.bl b) H := rfl
theorem u_isiC_dT {T : String} {ds : List (List Key × D)} : isiC T H Q (.dT ds) = ∃ b, kitB "dict" T = some b ∧ Q (.bl b) H := rfl
theorem u_kit_NoneType_bool : kitB "NoneType" "bool" = some false := by decide +kernel
theorem u_kit_NoneType_int : kitB "NoneType" "int" = some false := by decide +kernel
theorem u_kit_NoneType_str : kitB "NoneType" "str" = some false := by decide +kernel
theorem u_kit_NoneType_tuple : kitB "NoneType" "tuple" = some false := by decide +kernel
theorem u_kit_NoneType_list : kitB "NoneType" "list" = some false := by decide +kernel
theorem u_kit_NoneType_dict : kitB "NoneType" "dict" = some false := by decide +kernel
theorem u_kit_bool_bool : kitB "bool" "bool" = some true := by decide +kernel
theorem u_kit_bool_int : kitB "bool" "int" = some true := by decide +kernel
theorem u_kit_bool_str : kitB "bool" "str" = some false := by decide +kernel
theorem u_kit_bool_tuple : kitB "bool" "tuple" = some false := by decide +kernel
theorem u_kit_bool_list : kitB "bool" "list" = some false := by decide +kernel
theorem u_kit_bool_dict : kitB "bool" "dict" = some false := by decide +kernel
theorem u_kit_int_bool : kitB "int" "bool" = some false := by decide +kernel
theorem u_kit_int_int : kitB "int" "int" = some true := by decide +kernel
theorem u_kit_int_str : kitB "int" "str" = some false := by decide +kernel
theorem u_kit_int_tuple : kitB "int" "tuple" = some false := by decide +kernel
theorem u_kit_int_list : kitB "int" "list" = some false := by decide +kernel
theorem u_kit_int_dict : kitB "int" "dict" = some false := by decide +kernel
theorem u_kit_str_bool : kitB "str" "bool" = some false := by decide +kernel
theorem u_kit_str_int : kitB "str" "int" = some false := by decide +kernel
theorem u_kit_str_str : kitB "str" "str" = some true := by decide +kernel
theorem u_kit_str_tuple : kitB "str" "tuple" = some false := by decide +kernel
theorem u_kit_str_list : kitB "str" "list" = some false := by decide +kernel
theorem u_kit_str_dict : kitB "str" "dict" = some false := by decide +kernel
theorem u_kit_tuple_bool : kitB "tuple" "bool" = some false := by decide +kernel
theorem u_kit_tuple_int : kitB "tuple" "int" = some false := by decide +kernel
theorem u_kit_tuple_str : kitB "tuple" "str" = some false := by decide +kernel
theorem u_kit_tuple_tuple : kitB "tuple" "tuple" = some true := by decide +kernel
theorem u_kit_tuple_list : kitB "tuple" "list" = some false := by decide +kernel
theorem u_kit_tuple_dict : kitB "tuple" "dict" = some false := by decide +kernel
theorem u_kit_list_bool : kitB "list" "bool" = some false := by decide +kernel
theorem u_kit_list_int : kitB "list" "int" = some false := by decide +kernel
theorem u_kit_list_str : kitB "list" "str" = some false := by decide +kernel
theorem u_kit_list_tuple : kitB "list" "tuple" = some false := by decide +kernel
theorem u_kit_list_list : kitB "list" "list" = some true := by decide +kernel
theorem u_kit_list_dict : kitB "list" "dict" = some false := by decide +kernel
theorem u_kit_dict_bool : kitB "dict" "bool" = some false := by decide +kernel
theorem u_kit_dict_int : kitB "dict" "int" = some false := by decide +kernel
theorem u_kit_dict_str : kitB "dict" "str" = some false := by decide +kernel
theorem u_kit_dict_tuple : kitB "dict" "tuple" = some false := by decide +kernel
theorem u_kit_dict_list : kitB "dict" "list" = some false := by decide +kernel
theorem u_kit_dict_dict : kitB "dict" "dict" = some true := by decide +kernel
end
/-- a def that nobody calls -/
theorem df_false {P : Program} {w : World} {K : PySem.W.Frag} {mg : Str → Option Value} {base : Heap} {cs : Addr → Option (List Str)} {x qual : Str} {st : Stmt} {f : Addr} {N ps : List Str} {k : Nat} (F : FB K x qual st f ps) (S : FnScope N ps (defScope st)) : Df P w K mg base cs (k + 1) f (fun _ _ _ _ => False) := by
  obtain ⟨fd, F, b⟩ := F
  refine ⟨⟨fd, ps, fun_okN F S (fun vs H Q E h => ?_) (fun cdv A outer s H vs Q E hr h => ?_), b⟩, F.kp⟩
  · obtain ⟨_, _, _, _, _, _, h, _⟩ := h
    exact h.elim
  · obtain ⟨_, _, _, _, _, _, h, _⟩ := h
    exact h.elim
end Lt

end
section
set_option Elab.async false
set_option linter.all false
set_option maxRecDepth 100000
set_option maxHeartbeats 2000000
/-! DlH: from the head's facts to the layer. -/
namespace Lt
open PySem PySem.Spec L2
section
variable {K : PySem.W.Frag}
theorem fun_of {x qual : Str} {st : Stmt} {f : Addr} {fd : FuncData} (F : FunD K x qual (defArgs st) (defBody st) (defScope st) [] [] f fd) : Fun K x qual st f fd := by
  obtain ⟨oc, od, dV, kV, doc, pm, an, cdv, ct, osl, rfl, lk, hcd, hD, hK⟩ := F.ex
  rcases hD with ⟨_, rfl⟩ | ⟨e, _⟩
  · exact ⟨⟨oc, od, kV, doc, pm, an, cdv, ct, osl, rfl, lk, hcd⟩, F.kp⟩
  · exact absurd rfl e
theorem fb_of {x qual : Str} {st : Stmt} {f : Addr} {ps : List Str} (F : ∃ fd, FunD K x qual (defArgs st) (defBody st) (defScope st) [] [] f fd)
    (h : ∀ (kV doc pm : Value) (an : Option Addr) (cdv ct : Value) (us : List Value), us.length = ps.length → bindArgs (PySem.W.fnOf x qual (defArgs st) (defBody st) (defScope st) .none kV doc pm an cdv ct) ⟨us, []⟩ = pure (ps.zip us)) : FB K x qual st f ps := by
  obtain ⟨fd, F⟩ := F
  exact ⟨fd, fun_of F, F.bindsN h⟩
theorem ne_of_facts {a b : Addr} {m : Str} {f : Addr} (h : Meth K a m f) (g : NoAttr K b m) : b ≠ a := fun z => by
  have h1 := h.at_
  have h2 : PySem.W.findIn K (.ref b) m = some none := g
  rw [z, h1] at h2
  cases h2
end
/-- a law whose defs may let exceptions through to each other -/
theorem walk_ofD {l : PySem.W.OpenLaw} {n k : Nat} {q : Program} {loose : List Str} {XP : (Str → Option Value) → Heap → Prop} {YP : World → Heap → Prop} {d : DefRec} {x : Str}
    (hn : l.most = some n) (hn2 : n ≤ sizeLine) (hdf : d.params.defaults = []) (hr : Room k callerA)
    (F : ∀ (w : World) (mg : Str → Option Value) (fa : Addr) (h : Heap), YP w h → h.Ns mainGlobals mg → mg d.name = some (.ref fa) →
      ∃ (K : PySem.W.Frag) (fd : FuncData) (sp : Sp), K.In h ∧ (∀ (s : Shared) (u : Value), BindsTo s fd ⟨[u], []⟩ [(x, u)]) ∧
        (∀ (H : Hp) (a : Addr) (ns : List Int), ns.length ≤ n → Only H → SqL K H a (ns.map V.int) → sp [.ref a] H (fun v _ => v = .bl true) fun _ _ _ => False) ∧
        ∀ base : Heap, K.In base → base.Ns mainGlobals mg → FnOk l.prog w K mg base (L2N.CX l.prog w) k fa fd [x] sp) :
    PySem.W.WalkO q loose XP YP l.row.toRowW d [] (fun f vs => PySem.call f vs) := by
  refine Att.attach_call hn hdf fun w s₀ s₁ mg mb fa o pm cd doc a vs ns G Y ho hd hcd hmg hobj hints hlen hg => ?_
  obtain ⟨K, fd, sp, KX, hb, hsp, hF⟩ := F w mg fa _ Y G.T.g hmg
  exact law_call KX G.T.g G.T.b G.T.builtins G.T.nolimit hg hobj hints (Nat.le_trans hlen hn2) hr hF hb (fun H hO hS => hsp H a ns hlen hO hS) fun H e s' c => by
    obtain ⟨_, _, _, _, _, _, _, _, _, _, _, _, _, h⟩ := c
theorem sqR_of {K : PySem.W.Frag} {H : Hp} {a : Addr} {xs : List V} (hO : Only H) (h : SqL K H a xs) : SqR K H a xs := by
  rcases h with h | h
  · rcases h with h | h
    · rcases hO a with z | ⟨o, ys, z⟩
      · rw [z] at h; cases h
      · rw [z] at h; cases h
    · exact .inl h
  · exact .inr h
theorem law_start {K : PySem.W.Frag} {cs : Addr → Option (List Str)} {H : Hp} {a : Addr} {ns : List Int} {sp : SpD} (hO : Only H) (h : SqL K H a (ns.map V.int)) (q : sp [.rl (ns.map D.int)] (fun _ => none) (fun d _ => d = .bl true) (fun _ _ _ => False)) :
    lfSp ⟨K, cs⟩ sp [.ref a] H (fun v _ => v = .bl true) fun _ _ _ => False := by
  refine ⟨_, _, _, _, .cons (.rl (sqR_of hO h) (RDs.ints ns)) .nil, fun _ _ e => (by cases e), q, fun v H' d Hd' _ _ r e => ?_, fun C fs H' Hd' d _ _ _ z => z⟩
  subst e
  cases r
  rfl
end Lt

end
section
set_option Elab.async false
set_option linter.all false
set_option maxRecDepth 100000
set_option maxHeartbeats 2000000
/-! Dl14: max and min of a list of data. -/
namespace Lt
open PySem PySem.Spec L2
section
variable {X : Cx} {cs : Addr → Option (List Str)}
theorem vals_at {vs : List V} {us : List Value} (r : Vals vs us) {i : Nat} {u : Value} (h : us[i]? = some u) : ∃ v, vs[i]? = some v ∧ RelV v u := by
  induction r generalizing i with
  | nil => simp at h
  | cons a b ih =>
    cases i with
    | zero =>
      rw [List.getElem?_cons_zero] at h
      cases h
      exact ⟨_, rfl, a⟩
    | succ i =>
      obtain ⟨v, h1, h2⟩ := ih (by simpa using h)
      exact ⟨v, by simpa using h1, h2⟩
theorem cr_maxData (hc : X.calm = true) (hu : X.A.units + 64 < cLine) : CallR X (.builtin "max") (fun vs H Q => ∃ (a : Addr) (its : List V) (x : PyData) (xs : List PyData), vs = [V.ref a] ∧ SqL X.K H a its ∧ DpAll X.K H its (x :: xs) ∧ PySem.W.AlikeAll (x :: xs) ∧ PyData.depthAll (x :: xs) ≤ 60 ∧
    ∀ (i : Nat) v, its[i]? = some v → (x :: xs)[i]? = some (PySem.W.maxD x xs) → Q v H) := by
  intro pins s σ H vs us Q I r h
  obtain ⟨a, its, x, xs, rfl, hs, hd, ha, hdp, q⟩ := h
  obtain ⟨us', rv, hl, _⟩ := I.list hs
  rw [Vals.ref1 r]
  obtain ⟨as, ra⟩ := Dp.readsAll I _ _ _ hd rv
  refine PySem.W.max_list_data (vs := us'.toArray) (I.ok.hd hc) hl.isList (by simpa using ra) ha (by omega) fun i v h' tk bs hv rd hk => ?_
  rw [List.getElem?_toArray] at hv
  obtain ⟨w, hw, rw⟩ := vals_at rv hv
  obtain ⟨cs', r2, hi, hm, _⟩ := PySem.W.readsAll_at ra i v hv
  have e := (Reads.unique (PySem.W.reads_keeps hk r2) _ _ rd).1
  have e2 : (x :: xs)[i]? = some (PySem.W.maxD x xs) := by
    rw [← e, List.getD_eq_getElem?_getD, List.getElem?_eq_getElem hi]
    rfl
  exact ⟨w, H, I.kept hk, rw, q i w hw e2⟩
theorem cr_minData (hc : X.calm = true) (hu : X.A.units + 64 < cLine) : CallR X (.builtin "min") (fun vs H Q => ∃ (a : Addr) (its : List V) (x : PyData) (xs : List PyData), vs = [V.ref a] ∧ SqL X.K H a its ∧ DpAll X.K H its (x :: xs) ∧ PySem.W.AlikeAll (x :: xs) ∧ PyData.depthAll (x :: xs) ≤ 60 ∧
    ∀ (i : Nat) v, its[i]? = some v → (x :: xs)[i]? = some (PySem.W.minD x xs) → Q v H) := by
  intro pins s σ H vs us Q I r h
  obtain ⟨a, its, x, xs, rfl, hs, hd, ha, hdp, q⟩ := h
  obtain ⟨us', rv, hl, _⟩ := I.list hs
  rw [Vals.ref1 r]
  obtain ⟨as, ra⟩ := Dp.readsAll I _ _ _ hd rv
  refine PySem.W.min_list_data (vs := us'.toArray) (I.ok.hd hc) hl.isList (by simpa using ra) ha (by omega) fun i v h' tk bs hv rd hk => ?_
  rw [List.getElem?_toArray] at hv
  obtain ⟨w, hw, rw⟩ := vals_at rv hv
  obtain ⟨cs', r2, hi, hm, _⟩ := PySem.W.readsAll_at ra i v hv
  have e := (Reads.unique (PySem.W.reads_keeps hk r2) _ _ rd).1
  have e2 : (x :: xs)[i]? = some (PySem.W.minD x xs) := by
    rw [← e, List.getD_eq_getElem?_getD, List.getElem?_eq_getElem hi]
    rfl
  exact ⟨w, H, I.kept hk, rw, q i w hw e2⟩
def rMax1 : List D → HD → QD → Prop := fun xs H Q => match xs with
  | [.ref a] => ∃ ds x ps, H a = some (.lst ds) ∧ PyAs H ds (x :: ps) ∧ PySem.W.AlikeAll (x :: ps) ∧ PyData.depthAll (x :: ps) ≤ 60 ∧ ∀ (i : Nat) d, ds[i]? = some d → (x :: ps)[i]? = some (PySem.W.maxD x ps) → Q d H
  | _ => False
theorem call_max1G (hc : X.calm = true) (hu : X.A.units + 64 < cLine) : CallD X cs (.builtin "max") rMax1 := by
  refine ⟨_, cr_maxData hc hu, fun H Hd ds vs Qd Q rh rd h k => ?_⟩
  match ds, h with
  | [.ref a], h =>
    obtain ⟨v, rfl, r⟩ := rd.one_
    cases r
    obtain ⟨ds, x, ps, e, hp, ha, hd, h⟩ := h
    obtain ⟨ws, g, r1⟩ := rh _ _ e
    refine ⟨a, ws, x, ps, rfl, SqL.of g, PyAs.dp rh hp r1, ha, hd, fun i v hv he => ?_⟩
    obtain ⟨d, hd1, rd1⟩ := r1.getV hv
    exact k _ H _ Hd (.refl H) rh rd1 (h i d hd1 he)
def rMin1 : List D → HD → QD → Prop := fun xs H Q => match xs with
  | [.ref a] => ∃ ds x ps, H a = some (.lst ds) ∧ PyAs H ds (x :: ps) ∧ PySem.W.AlikeAll (x :: ps) ∧ PyData.depthAll (x :: ps) ≤ 60 ∧ ∀ (i : Nat) d, ds[i]? = some d → (x :: ps)[i]? = some (PySem.W.minD x ps) → Q d H
  | _ => False
theorem call_min1G (hc : X.calm = true) (hu : X.A.units + 64 < cLine) : CallD X cs (.builtin "min") rMin1 := by
  refine ⟨_, cr_minData hc hu, fun H Hd ds vs Qd Q rh rd h k => ?_⟩
  match ds, h with
  | [.ref a], h =>
    obtain ⟨v, rfl, r⟩ := rd.one_
    cases r
    obtain ⟨ds, x, ps, e, hp, ha, hd, h⟩ := h
    obtain ⟨ws, g, r1⟩ := rh _ _ e
    refine ⟨a, ws, x, ps, rfl, SqL.of g, PyAs.dp rh hp r1, ha, hd, fun i v hv he => ?_⟩
    obtain ⟨d, hd1, rd1⟩ := r1.getV hv
    exact k _ H _ Hd (.refl H) rh rd1 (h i d hd1 he)
end
end Lt

end
section
set_option Elab.async false
set_option linter.all false
set_option maxRecDepth 100000
set_option maxHeartbeats 2000000
/-! Dl15: max of a list of pairs. -/
namespace Lt
open PySem PySem.Spec L2
theorem dataLt_pr (p q : Int × Int) : PySem.W.dataLt (prD p).py (prD q).py = decide (p.1 < q.1 ∨ (p.1 = q.1 ∧ p.2 < q.2)) := by
  show PySem.W.dataLt (.tuple [.int p.1, .int p.2]) (.tuple [.int q.1, .int q.2]) = _
  rw [PySem.W.dataLt_tuple]
  by_cases e : p.1 = q.1
  · rw [PySem.W.dataLt_all_yes rfl (by rw [eqv_int]; simp [e])]
    by_cases e2 : p.2 = q.2
    · rw [PySem.W.dataLt_all_yes rfl (by rw [eqv_int]; simp [e2])]
      have : ¬ (p.1 < q.1 ∨ (p.1 = q.1 ∧ p.2 < q.2)) := by omega
      rw [decide_eq_false this]
      rfl
    · rw [PySem.W.dataLt_all_no rfl (by rw [eqv_int]; simp [e2]), PySem.W.dataLt_int]
      refine decide_eq_decide.mpr ?_
      omega
  · rw [PySem.W.dataLt_all_no rfl (by rw [eqv_int]; simp [e]), PySem.W.dataLt_int]
    refine decide_eq_decide.mpr ?_
    omega
theorem maxD_prs : ∀ (ns : List (Int × Int)) (p : Int × Int), ∃ m ∈ p :: ns, PySem.W.maxD (prD p).py (D.pys (ns.map prD)) = (prD m).py ∧ ∀ x ∈ p :: ns, leP x m = true
  | [], p => ⟨p, by simp, rfl, fun x hx => by rw [List.mem_singleton.mp hx, leP_iff]; omega⟩
  | q :: ns, p => by
    have e : PySem.W.maxD (prD p).py (D.pys ((q :: ns).map prD)) = PySem.W.maxD (if PySem.W.dataLt (prD p).py (prD q).py then (prD q).py else (prD p).py) (D.pys (ns.map prD)) := rfl
    rw [dataLt_pr] at e
    by_cases h : p.1 < q.1 ∨ (p.1 = q.1 ∧ p.2 < q.2)
    · rw [if_pos (decide_eq_true h)] at e
      obtain ⟨m, h1, h2, h3⟩ := maxD_prs ns q
      refine ⟨m, List.mem_cons_of_mem _ h1, e.trans h2, fun x hx => ?_⟩
      rcases List.mem_cons.mp hx with z | z
      · have := h3 q (List.mem_cons_self ..)
        rw [leP_iff] at *
        subst z
        omega
      · exact h3 x z
    · rw [if_neg (by simpa using h)] at e
      obtain ⟨m, h1, h2, h3⟩ := maxD_prs ns p
      refine ⟨m, ?_, e.trans h2, fun x hx => ?_⟩
      · rcases List.mem_cons.mp h1 with z | z
        · rw [z]; exact List.mem_cons_self ..
        · exact List.mem_cons_of_mem _ (List.mem_cons_of_mem _ z)
      · have hp := h3 p (List.mem_cons_self ..)
        rcases List.mem_cons.mp hx with z | z
        · rw [z]; exact hp
        · rcases List.mem_cons.mp z with z | z
          · rw [leP_iff] at *
            subst z
            omega
          · exact h3 x (List.mem_cons_of_mem _ z)
theorem py_pr_inj {p q : Int × Int} (h : (prD p).py = (prD q).py) : p = q := by
  have e : PyData.eqv (prD p).py (prD q).py = true := by
    rw [h, eqv_pr]; simp
  rw [eqv_pr] at e
  simpa using e
theorem alike_prs {ns : List (Int × Int)} : PySem.W.AlikeAll (D.pys (ns.map prD)) := by
  rw [pys_map]
  refine ⟨fun x hx y hy => ?_, fun x hx => ?_⟩
  · obtain ⟨p, _, rfl⟩ := List.mem_map.mp hx
    obtain ⟨q, _, rfl⟩ := List.mem_map.mp hy
    rfl
  · obtain ⟨p, _, rfl⟩ := List.mem_map.mp hx
    intro h; cases h
theorem rMax1_prs {H : HD} {a : Addr} {ns : List (Int × Int)} {Q : QD} (h : H a = some (.lst (ns.map prD))) (hne : ns ≠ []) (q : ∀ m ∈ ns, (∀ x ∈ ns, leP x m = true) → Q (prD m) H) : rMax1 [.ref a] H Q := by
  cases ns with
  | nil => exact absurd rfl hne
  | cons p ns =>
    refine ⟨_, (prD p).py, D.pys (ns.map prD), h, ?_, alike_prs (ns := p :: ns), ?_, fun i d hd hm => ?_⟩
    · exact PyAs.of H (lows (lowMap low_pr (xs := p :: ns))).1
    · have := (lows (lowMap low_pr (xs := p :: ns))).2.2
      exact Nat.le_trans this (by decide)
    · obtain ⟨m, h1, h2, h3⟩ := maxD_prs ns p
      obtain ⟨x, hx, rfl⟩ := getMap hd
      have e : (D.pys ((p :: ns).map prD))[i]? = some (prD m).py := by rw [← h2]; exact hm
      rw [pys_map, List.getElem?_map, hx] at e
      have := py_pr_inj (Option.some.inj e)
      subst this
      exact q x h1 h3
end Lt

end
section
set_option Elab.async false
set_option linter.all false
set_option maxRecDepth 100000
set_option maxHeartbeats 2000000
/-! Dl16: a, b = x, y. -/
namespace Lt
open PySem PySem.Spec L2
section
variable {X : Cx} {cs : Addr → Option (List Str)}
theorem asg2_inv {i j : Nat} {ds : List D} {ρ ρ' : StD} (h : (TgD.tp [.nm i, .nm j]).asg (.tup ds) ρ = some ρ') : ∃ x y, ds = [x, y] ∧ ρ' = (ρ.set i (some x)).set j (some y) := by
  match ds, h with
  | [x, y], h =>
    simp only [TgD.asg, TgD.asgs] at h
    exact ⟨x, y, rfl, (Option.some.inj h).symm⟩
  | [], h => simp [TgD.asg, TgD.asgs] at h
  | [x], h => simp [TgD.asg, TgD.asgs] at h
  | x :: y :: z :: r, h => simp [TgD.asg, TgD.asgs] at h
theorem asg3_inv {i j l : Nat} {ds : List D} {ρ ρ' : StD} (h : (TgD.tp [.nm i, .nm j, .nm l]).asg (.tup ds) ρ = some ρ') : ∃ x y z, ds = [x, y, z] ∧ ρ' = ((ρ.set i (some x)).set j (some y)).set l (some z) := by
  match ds, h with
  | [x, y, z], h =>
    simp only [TgD.asg, TgD.asgs] at h
    exact ⟨x, y, z, rfl, (Option.some.inj h).symm⟩
  | [], h => simp [TgD.asg, TgD.asgs] at h
  | [x], h => simp [TgD.asg, TgD.asgs] at h
  | [x, y], h => simp [TgD.asg, TgD.asgs] at h
  | x :: y :: z :: u :: r, h => simp [TgD.asg, TgD.asgs] at h
theorem psd_par (i j : Nat) {x y : Str} {a b : Expr} {ta : TAD} {px py pt pos : Pos} {kt k2 pt2} (hc : X.calm = true) (hN : X.N.Nodup) (ha : PAD X cs [a, b] ta) (hi : X.N[i]? = some x := by rfl) (hj : X.N[j]? = some y := by rfl) (hij : i ≠ j := by decide)
    (hx : X.env.scope.names.lookup x = some .local := by rfl) (hy : X.env.scope.names.lookup y = some .local := by rfl)
    (hw : swappedStores [.Tuple [.Name x px, .Name y py] kt pt] (.Tuple [a, b] k2 pt2) X.env = pure (some [x, y]) := by rfl)
    (hs : swapsWithSole [.Tuple [.Name x px, .Name y py] kt pt] (.Tuple [a, b] k2 pt2) pos.line X.env = pure false := by rfl) :
    PSD X cs (.Assign [.Tuple [.Name x px, .Name y py] kt pt] (.Tuple [a, b] k2 pt2) pos) (sAsg (tTp ta) (.tp [.nm i, .nm j])) := ⟨PS.of (ps_par hc hN hi hj hij hx hy ha.pa hw hs) fun Dn σ H h => by
  obtain ⟨ρ, Hd, Dd, rs, rh, h, k1, k2, k3, k4⟩ := h
  refine ⟨ρ, Hd, _, rs, rh, h, fun vs H1 ds Hd1 e1 rh1 rv h1 => ?_⟩
  obtain ⟨_, h1⟩ := h1
  cases z : (TgD.tp [.nm i, .nm j]).asg (.tup ds) ρ with
  | none => rw [z] at h1; exact h1.elim
  | some ρ' =>
    rw [z] at h1
    obtain ⟨p, q, rfl, rfl⟩ := asg2_inv z
    cases rv with
    | cons r1 rv => cases rv with
      | cons r2 rv =>
        cases rv
        exact ⟨_, _, rfl, k1 _ _ H1 Hd1 e1 rh1 (((rs.ext e1).set r1 i).set r2 j) h1⟩⟩
theorem psd_par3 (i j l : Nat) {x y z : Str} {a b c : Expr} {ta : TAD} {px py pz pt pos : Pos} {kt k2 pt2} (hc : X.calm = true) (hN : X.N.Nodup) (ha : PAD X cs [a, b, c] ta) (hi : X.N[i]? = some x := by rfl) (hj : X.N[j]? = some y := by rfl) (hl : X.N[l]? = some z := by rfl) (hij : i ≠ j := by decide) (hil : i ≠ l := by decide) (hjl : j ≠ l := by decide)
    (hx : X.env.scope.names.lookup x = some .local := by rfl) (hy : X.env.scope.names.lookup y = some .local := by rfl) (hz : X.env.scope.names.lookup z = some .local := by rfl)
    (hw : swappedStores [.Tuple [.Name x px, .Name y py, .Name z pz] kt pt] (.Tuple [a, b, c] k2 pt2) X.env = pure (some [x, y, z]) := by rfl)
    (hs : swapsWithSole [.Tuple [.Name x px, .Name y py, .Name z pz] kt pt] (.Tuple [a, b, c] k2 pt2) pos.line X.env = pure false := by rfl) :
    PSD X cs (.Assign [.Tuple [.Name x px, .Name y py, .Name z pz] kt pt] (.Tuple [a, b, c] k2 pt2) pos) (sAsg (tTp ta) (.tp [.nm i, .nm j, .nm l])) := ⟨PS.of (ps_par3 hc hN hi hj hl hij hil hjl hx hy hz ha.pa hw hs) fun Dn σ H h => by
  obtain ⟨ρ, Hd, Dd, rs, rh, h, k1, k2, k3, k4⟩ := h
  refine ⟨ρ, Hd, _, rs, rh, h, fun vs H1 ds Hd1 e1 rh1 rv h1 => ?_⟩
  obtain ⟨_, h1⟩ := h1
  cases z : (TgD.tp [.nm i, .nm j, .nm l]).asg (.tup ds) ρ with
  | none => rw [z] at h1; exact h1.elim
  | some ρ' =>
    rw [z] at h1
    obtain ⟨p, q, r, rfl, rfl⟩ := asg3_inv z
    cases rv with
    | cons r1 rv => cases rv with
      | cons r2 rv => cases rv with
        | cons r3 rv =>
          cases rv
          exact ⟨_, _, _, rfl, k1 _ _ H1 Hd1 e1 rh1 ((((rs.ext e1).set r1 i).set r2 j).set r3 l) h1⟩⟩
end
end Lt

end
section
set_option Elab.async false
set_option linter.all false
set_option maxRecDepth 100000
set_option maxHeartbeats 3200000
/-! Dl17: len(set(xs)), sorted(set(xs)), xs a list of ints. -/
namespace Lt
open PySem PySem.Spec L2 PyProof.Rows
section
variable {P : Program} {w : World} {A : Around} {E : Value → Shared → Prop} {s : Shared}
abbrev newSet (w : World) : Obj := { cls := .type "set", dict := none, data := .set #[] 0 (.fresh 0 0 (!w.params.followText "set-order")) }
/-- what set(xs) leaves -/
def SetMade (w : World) (s : Shared) (ns : List Int) (h' : Heap) (c : Nat) : Prop := SetR w h' s.heap.objs.size (fun j => decide (j ∈ ns)) c ∧ c ≤ ns.length ∧ ∀ b o, s.heap.get? b = some o → h'.get? b = some o
theorem call_set_ints {l : Addr} {items : Array Value} (ns : List Int) {Q : Value → Shared → Prop} (hh : A.handled = none) (hl : s.heap.IsList l items) (hit : IntsAre items.toList ns) (hb : ns.length + 1 < scanBound)
    (h : ∀ (h' : Heap) (tk c : Nat), SetMade w s ns h' c → Q (.ref s.heap.objs.size) { s with heap := h', toks := tk }) : wpAny (model P w) A (call (.type "set") [.ref l]) Q E s := by
  have hsz : items.size = ns.length := (Array.length_toList (xs := items)).symm.trans (IntsAre.length hit)
  obtain ⟨c0, tl0, mro0⟩ := F.called_set.mro
  have made0 := F.called_set.made; have sub0 := F.called_set.sub; have notT := F.called_set.notType; have canC := F.called_set.canCreate; have tc0 := F.typeCall_set_1 (.ref l)
  refine wpAny_call (codeAny_of_tree ?_)
  show wpAny (model P w) _ (callAny (.type "set") _) _ _ s
  refine wpAny_pure ⟨Code.quiet_builtin _ (by decide +kernel), codeAny_builtin F.entry_type_call (by
    rw [Around.under_plain (weight_type_call_type "set" [.ref l] []) rfl]
    repeat (any_goals (first | assumption | wp_step))
    refine codeAny_mono (code_set_led1 (.ref l) (E := E) (Q₁ := fun v s1 => v = .ref s.heap.objs.size ∧ s1 = { s with heap := s.heap.push (newSet w) }) ⟨rfl, rfl⟩) fun r s1 hr => ?_
    match r, hr with
    | .error e, hr => exact hr
    | .ok (.ret v), hr =>
      obtain ⟨rfl, rfl⟩ := hr
      have at1 : (s.heap.push (newSet w)).get? s.heap.objs.size = some (newSet w) := Heap.get?_push_size _ rfl
      have ty1 : Shared.TypeIs { s with heap := s.heap.push (newSet w) } (.ref s.heap.objs.size) "set" := ⟨_, at1, rfl⟩
      have lk1 := F.called_set.init.lookup; have bd1 := F.called_set.init.bind (.ref s.heap.objs.size)
      repeat (any_goals (first | assumption | wp_step))
      refine codeAny_mono (codeAny_call_builtin (R := wants (fun v s2 => v = .none ∧ ∃ h' tk c, s2 = { s with heap := h', toks := tk } ∧ SetMade w s ns h' c) E) F.called_set.init.plain F.entry_set_init (check_set_init_1 ty1 ?_)) fun r2 s2 hr2 => ?_
      · obtain ⟨⟨oc, od, oda, os⟩, hol, hcl, nl, hdl⟩ := hl
        simp only at hcl hdl
        subst hcl; subst hdl
        have at2 : (s.heap.push (newSet w)).get? l = some { cls := .type "list", dict := od, data := .seq items nl, slots := os } := Heap.get?_push_of_some _ hol
        have nsub := F.sub_list_set; have nsubf := F.sub_list_frozenset
        have ndict : (Value.type "list" == Value.type "dict") = false := by decide
        have hl1 : (s.heap.push (newSet w)).IsList l items := ⟨_, at2, rfl, nl, rfl⟩
        unfold Builtin.«set.__init__» noKeywords Builtin.Frozenset.updateFrom
        generalize hPI : pyIter = PI
        wp_walk
        subst hPI
        have lt0 : l < s.heap.objs.size := Heap.lt_size hol
        have sz1 : (s.heap.push (newSet w)).objs.size = s.heap.objs.size + 1 := Heap.size_push ..
        have n1 : l ≠ (s.heap.push (newSet w)).objs.size := Nat.ne_of_lt (sz1 ▸ Nat.lt_succ_of_lt lt0)
        have n2 : s.heap.objs.size ∉ [(s.heap.push (newSet w)).objs.size, l] := fun z => by
          rw [sz1] at z
          rcases List.mem_cons.mp z with z | z
          · exact absurd z (Nat.ne_of_lt (Nat.lt_succ_self _))
          · exact absurd (List.mem_singleton.mp z) (Nat.ne_of_gt lt0)
        refine wpAny_pyIter_list hl1 (wpAny_bind (wpAny_runValue ?_))
        have vals : ∀ (i : Nat) (v : Value), items[i]? = some v → ∃ k t, ns[i]? = some k ∧ v = .int k t := fun i v hv => by
          have hi : i < ns.length := hsz ▸ (Array.getElem?_eq_some_iff.mp hv).1
          obtain ⟨t, e⟩ := IntsAre.int_at hit i v ((Array.getElem?_toList ..).trans hv)
          exact ⟨_, t, List.getElem?_eq_getElem hi, by rw [e]; simp [List.getD_eq_getElem?_getD, hi]⟩
        refine set_update_ints ((Walks.list (A := A.in1.in1.in1) (by simp [hh]) _ l n1 items).toS) s.heap.objs.size n2 ns hsz hb vals (items.size - 0) 0 _ (by omega) (Nat.zero_le _) ⟨⟨_, Heap.get?_push_size _ rfl, rfl, rfl⟩, hl1.push _⟩ ⟨0, Nat.le_refl 0, setR_new_at (Heap.get?_push_of_some _ at1)⟩ fun s' c' hm hc' hS' => ?_
        obtain ⟨h', g', d', tk', os'⟩ := s'
        obtain rfl : g' = s.gens := hm.gens
        obtain rfl : d' = s.drawn := hm.drawn
        obtain rfl : os' = s.os := hm.os
        show wpAny (model P w) _ _ _ _ _
        refine wpAny_pure (show wpAny (model P w) _ (ret Value.none) _ _ _ from wpAny_pure ⟨rfl, h', tk', c', rfl, hS', hsz ▸ hc', fun b o e => ?_⟩)
        have lb : b < s.heap.objs.size := Heap.lt_size e
        have n3 : b ∉ [s.heap.objs.size, (s.heap.push (newSet w)).objs.size] := fun z => by
          rw [sz1] at z
          rcases List.mem_cons.mp z with z | z
          · exact absurd z (Nat.ne_of_lt lb)
          · exact absurd (List.mem_singleton.mp z) (Nat.ne_of_lt (Nat.lt_succ_of_lt lb))
        exact hm.heap b o n3 (Heap.get?_push_of_some _ (Heap.get?_push_of_some _ e))
      · match r2, hr2 with
        | .error e, hr2 => exact hr2
        | .ok (.ret v), hr2 =>
          obtain ⟨rfl, h', tk, c, rfl, hm⟩ := hr2
          repeat (any_goals (first | assumption | wp_step))
          exact h h' tk c hm)⟩
end
end Lt

end
section
set_option Elab.async false
set_option linter.all false
set_option maxRecDepth 100000
set_option maxHeartbeats 3200000
/-! Dl18: len(set(xs)), sorted(set(xs)): the rules. -/
namespace Lt
open PySem PySem.Spec L2 PyProof.Rows
theorem setMade_len {w : World} {s : Shared} {ns : List Int} {h' : Heap} {c : Nat} (m : SetMade w s ns h' c) : ∃ ms : List Int, ms.Nodup ∧ (∀ x, x ∈ ms ↔ x ∈ ns) ∧ ms.length = c := by
  obtain ⟨⟨o, es, ep, t, _, _, _, _, nd, hm, _, _, hn, _, _⟩, _, _⟩ := m
  exact ⟨_, nd, fun x => by rw [← hm x]; simp, by rw [List.length_map, Array.length_toList, hn]⟩
section
variable {X : Cx} {cs : Addr → Option (List Str)} {a : Expr} {ta : TE} {td : TED} {p p2 q pos : Pos}
def tLenSet (K : PySem.W.Frag) (ta : TE) : TE := fun σ H Q => ta σ H fun x H1 => ∃ (l : Addr) (ns : List Int), x = V.ref l ∧ SqL K H1 l (ns.map V.int) ∧ ns.length < 64 ∧ ∀ ms : List Int, ms.Nodup → (∀ x, x ∈ ms ↔ x ∈ ns) → Q (.int ms.length) H1
theorem pe_lenSet (hc : X.calm = true) (hg : Gl X "len") (hm : X.mg "len" = none) (hg2 : Gl X "set") (hm2 : X.mg "set" = none) (ha : PE X a ta) (na : starEach [a] X.env = (false, eval a X.env) :: starEach [] X.env := by rfl) :
    PE X (.Call (.Name "len" p) [.Call (.Name "set" p2) [a] [] q] [] pos) (tLenSet X.K ta) := ⟨fun pins s σ H Q I h => by
  refine Call_ (ld_blt I hg hm PySem.boot_len (callWith_builtin1 (args_cons (Call_ (ld_blt I hg2 hm2 boot_set (callWith_type1 (args_cons (thn (ha.run pins s σ H _ I h) fun v s1 hv => args_nil ?_) na) na rfl))) rfl) rfl rfl))
  obtain ⟨x, H1, I1, r1, l, ns, rfl, hq, h1, k⟩ := hv
  cases r1
  obtain ⟨its, r, pl, hz⟩ := I1.list hq
  refine call_set_ints ns (I1.ok.hd hc) pl.isList (by simpa using r.ints) (by have := (show 64 + 1 ≤ scanBound from by unfold scanBound; omega); omega) fun h' tk c hm => args_nil ?_
  obtain ⟨ms, nd, mm, hlen⟩ := setMade_len hm
  obtain ⟨o, es, ep, t, ho, hex, hd, _, _, _, hf, hn⟩ := SetR.setOf (P := X.prog) hm.1
  have I2 : Inv X pins σ H1 { s1 with heap := h', toks := tk } := I1.kept hm.2.2
  exact call_len_set ho hex hd hf (by rw [hn]; have := hm.2.1; omega) ⟨.int ms.length, H1, I2.tok _, ⟨_, by rw [hn, hlen]⟩, k ms nd mm⟩⟩
def tSortSet (K : PySem.W.Frag) (ta : TE) : TE := fun σ H Q => ta σ H fun x H1 => ∃ (l : Addr) (ns : List Int), x = V.ref l ∧ SqL K H1 l (ns.map V.int) ∧ ns.length < 64 ∧ ∀ (ms : List Int) (p : Addr), H1 p = none → ms.Pairwise (· < ·) → (∀ x, x ∈ ms ↔ x ∈ ns) → Q (.ref p) (upd H1 p (.lst (ms.map V.int)))
theorem pe_sortSet (hc : X.calm = true) (hg : Gl X "sorted") (hm : X.mg "sorted" = none) (hg2 : Gl X "set") (hm2 : X.mg "set" = none) (ha : PE X a ta) (na : starEach [a] X.env = (false, eval a X.env) :: starEach [] X.env := by rfl) :
    PE X (.Call (.Name "sorted" p) [.Call (.Name "set" p2) [a] [] q] [] pos) (tSortSet X.K ta) := ⟨fun pins s σ H Q I h => by
  refine Call_ (ld_blt I hg hm boot_sorted (callWith_builtin1 (args_cons (Call_ (ld_blt I hg2 hm2 boot_set (callWith_type1 (args_cons (thn (ha.run pins s σ H _ I h) fun v s1 hv => args_nil ?_) na) na rfl))) rfl) rfl rfl))
  obtain ⟨x, H1, I1, r1, l, ns, rfl, hq, h1, k⟩ := hv
  cases r1
  obtain ⟨its, r, pl, hz⟩ := I1.list hq
  refine call_set_ints ns (I1.ok.hd hc) pl.isList (by simpa using r.ints) (by have := (show 64 + 1 ≤ scanBound from by unfold scanBound; omega); omega) fun h' tk c hm => args_nil ?_
  have I2 : Inv X pins σ H1 { s1 with heap := h', toks := tk } := I1.kept hm.2.2
  refine sorted_set hm.1 (I2.ok.hd hc) (by have := hm.2.1; omega) fun s' p out c' ms kp g o hp e it pw mm hl => ?_
  have hlen : (ms.map V.int).length ≤ sizeLine := by
    rw [List.length_map, hl, sizeLine_eq]
    have := hm.2.1
    omega
  have hn : H1 p = none := I2.hok.fresh hp
  have hob : ObjOk X.prog X.w (upd H1 p (.lst (ms.map V.int))) s'.heap p (.lst (ms.map V.int)) := ⟨hlen, out.toList, c', vals_of_ints it, e⟩
  have J := I2.call (g' := s'.gens) (d' := s'.drawn) (t' := s'.toks) (ch := []) (Un.laid kp hp hn) (I2.hok.laid kp hp hob) (g ▸ I2.bare) (fun _ z => nomatch z)
  have es : s' = ⟨s'.heap, s'.gens, s'.drawn, s'.toks, s1.os⟩ := by
    cases s'; cases o; rfl
  rw [es]
  exact ⟨.ref p, _, J, rfl, k ms p hn pw fun x => by rw [mm x]; simp⟩⟩
/-! ### over data -/
def tLsS (td : TED) : TED := fun ρ H Q => td ρ H fun x H1 => asR x fun a => ∃ ns : List Int, H1 a = some (.lst (ns.map D.int)) ∧ ns.length < 64 ∧ ∀ ms : List Int, ms.Nodup → (∀ x, x ∈ ms ↔ x ∈ ns) → Q (.int ms.length) H1
theorem pd_lenSet (hc : X.calm = true) (hm : X.mg "len" = none) (hm2 : X.mg "set" = none) (ha : PD X cs a td) (hg : Gl X "len" := by rfl) (hg2 : Gl X "set" := by rfl) (na : starEach [a] X.env = (false, eval a X.env) :: starEach [] X.env := by rfl) :
    PD X cs (.Call (.Name "len" p) [.Call (.Name "set" p2) [a] [] q] [] pos) (tLsS td) := ⟨PE.of (pe_lenSet hc hg hm hg2 hm2 ha.pe na) fun σ H Q h => by
  obtain ⟨ρ, Hd, Qd, rs, rh, h, k⟩ := h
  refine ⟨ρ, Hd, _, rs, rh, h, fun v H1 x Hd1 e1 rh1 rv h1 => ?_⟩
  cases x with
  | ref b =>
    cases rv
    obtain ⟨ns, g, hl, h1⟩ := (show ∃ ns : List Int, Hd1 b = some (.lst (ns.map D.int)) ∧ ns.length < 64 ∧ _ from h1)
    obtain ⟨vs, g', r⟩ := rh1 _ _ g
    refine ⟨b, ns, rfl, SqL.of (by rw [← r.intsV]; exact g'), hl, fun ms nd mm => k _ H1 _ Hd1 e1 rh1 .int (h1 ms nd mm)⟩
  | _ => exact h1.elim⟩
def tStS (td : TED) : TED := fun ρ H Q => td ρ H fun x H1 => asR x fun a => ∃ ns : List Int, H1 a = some (.lst (ns.map D.int)) ∧ ns.length < 64 ∧ ∀ (ms : List Int) (p : Addr), H1 p = none → ms.Pairwise (· < ·) → (∀ x, x ∈ ms ↔ x ∈ ns) → Q (.ref p) (upD H1 p (.lst (ms.map D.int)))
theorem pd_sortSet (hc : X.calm = true) (hm : X.mg "sorted" = none) (hm2 : X.mg "set" = none) (ha : PD X cs a td) (hg : Gl X "sorted" := by rfl) (hg2 : Gl X "set" := by rfl) (na : starEach [a] X.env = (false, eval a X.env) :: starEach [] X.env := by rfl) :
    PD X cs (.Call (.Name "sorted" p) [.Call (.Name "set" p2) [a] [] q] [] pos) (tStS td) := ⟨PE.of (pe_sortSet hc hg hm hg2 hm2 ha.pe na) fun σ H Q h => by
  obtain ⟨ρ, Hd, Qd, rs, rh, h, k⟩ := h
  refine ⟨ρ, Hd, _, rs, rh, h, fun v H1 x Hd1 e1 rh1 rv h1 => ?_⟩
  cases x with
  | ref b =>
    cases rv
    obtain ⟨ns, g, hl, h1⟩ := (show ∃ ns : List Int, Hd1 b = some (.lst (ns.map D.int)) ∧ ns.length < 64 ∧ _ from h1)
    obtain ⟨vs, g', r⟩ := rh1 _ _ g
    refine ⟨b, ns, rfl, SqL.of (by rw [← r.intsV]; exact g'), hl, fun ms p hp pw mm => k _ _ _ _ (e1.trans (.new hp)) (rh1.newL hp (RDs.ints ms)) .ref (h1 ms p (rh1.free hp) pw mm)⟩
  | _ => exact h1.elim⟩
end
section
variable {ρ : StD} {H : HD} {Q : QD} {td : TED}
theorem u_tLsS : tLsS td ρ H Q = td ρ H fun x H1 => asR x fun a => ∃ ns : List Int, H1 a = some (.lst (ns.map D.int)) ∧ ns.length < 64 ∧ ∀ ms : List Int, ms.Nodup → (∀ x, x ∈ ms ↔ x ∈ ns) → Q (.int ms.length) H1 := rfl
theorem u_tStS : tStS td ρ H Q = td ρ H fun x H1 => asR x fun a => ∃ ns : List Int, H1 a = some (.lst (ns.map D.int)) ∧ ns.length < 64 ∧ ∀ (ms : List Int) (p : Addr), H1 p = none → ms.Pairwise (· < ·) → (∀ x, x ∈ ms ↔ x ∈ ns) → Q (.ref p) (upD H1 p (.lst (ms.map D.int))) := rfl
end
end Lt

end
section
set_option Elab.async false
set_option linter.all false
set_option maxRecDepth 100000
set_option maxHeartbeats 2000000
/-! Dl19: min of a list of pairs (a cost, a list of ints). -/
namespace Lt
open PySem PySem.Spec L2
theorem dataLt_hd {a b : Int} {p q : PyData} : PySem.W.dataLt (.tuple [.int a, p]) (.tuple [.int b, q]) = true → a ≤ b := by
  intro h
  rw [PySem.W.dataLt_tuple] at h
  by_cases e : a = b
  · omega
  · rw [PySem.W.dataLt_all_no rfl (by rw [eqv_int]; simp [e]), PySem.W.dataLt_int] at h
    have := of_decide_eq_true h
    omega
theorem dataLt_hd' {a b : Int} {p q : PyData} : PySem.W.dataLt (.tuple [.int a, p]) (.tuple [.int b, q]) = false → b ≤ a := by
  intro h
  rw [PySem.W.dataLt_tuple] at h
  by_cases e : a = b
  · omega
  · rw [PySem.W.dataLt_all_no rfl (by rw [eqv_int]; simp [e]), PySem.W.dataLt_int] at h
    have := of_decide_eq_false h
    omega
def clPy (x : Int × List Int) : PyData := .tuple [.int x.1, .list (x.2.map PyData.int)]
theorem minD_cl : ∀ (ns : List (Int × List Int)) (p : Int × List Int), ∃ m ∈ p :: ns, PySem.W.minD (clPy p) (ns.map clPy) = clPy m ∧ ∀ x ∈ p :: ns, m.1 ≤ x.1
  | [], p => ⟨p, by simp, rfl, fun x hx => by rw [List.mem_singleton.mp hx]; omega⟩
  | q :: ns, p => by
    have e : PySem.W.minD (clPy p) ((q :: ns).map clPy) = PySem.W.minD (if PySem.W.dataLt (clPy q) (clPy p) then clPy q else clPy p) (ns.map clPy) := rfl
    cases h : PySem.W.dataLt (clPy q) (clPy p) with
    | true =>
      rw [h, if_pos rfl] at e
      have hle := dataLt_hd h
      obtain ⟨m, h1, h2, h3⟩ := minD_cl ns q
      refine ⟨m, List.mem_cons_of_mem _ h1, e.trans h2, fun x hx => ?_⟩
      rcases List.mem_cons.mp hx with z | z
      · have := h3 q (List.mem_cons_self ..)
        subst z
        omega
      · exact h3 x z
    | false =>
      rw [h, if_neg (by decide)] at e
      have hle := dataLt_hd' h
      obtain ⟨m, h1, h2, h3⟩ := minD_cl ns p
      refine ⟨m, ?_, e.trans h2, fun x hx => ?_⟩
      · rcases List.mem_cons.mp h1 with z | z
        · rw [z]; exact List.mem_cons_self ..
        · exact List.mem_cons_of_mem _ (List.mem_cons_of_mem _ z)
      · have hp := h3 p (List.mem_cons_self ..)
        rcases List.mem_cons.mp hx with z | z
        · rw [z]; exact hp
        · rcases List.mem_cons.mp z with z | z
          · subst z; omega
          · exact h3 x (List.mem_cons_of_mem _ z)
theorem alikeAll_ints : ∀ (xs ys : List Int), PySem.W.alikeAll (xs.map PyData.int) (ys.map PyData.int) = true
  | [], _ => by simp [PySem.W.alikeAll]
  | _ :: _, [] => by simp [PySem.W.alikeAll]
  | x :: xs, y :: ys => by simp [PySem.W.alikeAll, PySem.W.alike, alikeAll_ints xs ys]
theorem alike_cls {ns : List (Int × List Int)} : PySem.W.AlikeAll (ns.map clPy) := by
  refine ⟨fun x hx y hy => ?_, fun x hx => ?_⟩
  · obtain ⟨p, _, rfl⟩ := List.mem_map.mp hx
    obtain ⟨q, _, rfl⟩ := List.mem_map.mp hy
    simp [clPy, PySem.W.alike, PySem.W.alikeAll, alikeAll_ints]
  · obtain ⟨p, _, rfl⟩ := List.mem_map.mp hx
    intro h; cases h
theorem depth_ints : ∀ (xs : List Int), PyData.depthAll (xs.map PyData.int) = 0
  | [] => rfl
  | x :: xs => by
    show max 0 (PyData.depthAll (xs.map PyData.int)) = 0
    rw [depth_ints xs]; rfl
theorem depth_cls : ∀ (ns : List (Int × List Int)), PyData.depthAll (ns.map clPy) ≤ 60
  | [] => by show 0 ≤ 60; omega
  | x :: ns => by
    show max (max 0 (max (PyData.depthAll (x.2.map PyData.int) + 1) 0) + 1) (PyData.depthAll (ns.map clPy)) ≤ 60
    have := depth_cls ns
    rw [depth_ints]
    omega
theorem ints_inj : ∀ {xs ys : List Int}, xs.map PyData.int = ys.map PyData.int → xs = ys
  | [], [], _ => rfl
  | [], _ :: _, h => by cases h
  | _ :: _, [], h => by cases h
  | x :: xs, y :: ys, h => by
    rw [List.map_cons, List.map_cons] at h
    injection h with h1 h2
    injection h1 with h1
    rw [h1, ints_inj h2]
theorem clPy_inj {p q : Int × List Int} (h : clPy p = clPy q) : p = q := by
  obtain ⟨a, xs⟩ := p
  obtain ⟨b, ys⟩ := q
  unfold clPy at h
  injection h with h
  injection h with h1 h
  injection h1 with h1
  injection h with h2 _
  injection h2 with h2
  exact congr (congrArg Prod.mk h1) (ints_inj h2)
abbrev clOf (x : Int × Addr × List Int) : Int × List Int := (x.1, x.2.2)
theorem pyAs_cls {H : HD} : ∀ {ls : List (Int × Addr × List Int)}, (∀ x ∈ ls, H x.2.1 = some (.lst (x.2.2.map D.int))) → PyAs H (ls.map fun x => D.tup [.int x.1, .ref x.2.1]) ((ls.map clOf).map clPy)
  | [], _ => .nil
  | x :: ls, h => by
    refine .cons (.tup (.cons .int (.cons (.lst (h x (List.mem_cons_self ..)) ?_) .nil))) (pyAs_cls fun y hy => h y (List.mem_cons_of_mem _ hy))
    have := PyAs.of H (eq_pure_ints (ns := x.2.2))
    rw [py_ints] at this
    exact this
theorem rMin1_cls {H : HD} {a : Addr} {ls : List (Int × Addr × List Int)} {Q : QD} (h : H a = some (.lst (ls.map fun x => D.tup [.int x.1, .ref x.2.1]))) (hc : ∀ x ∈ ls, H x.2.1 = some (.lst (x.2.2.map D.int))) (hne : ls ≠ [])
    (q : ∀ x ∈ ls, (∀ y ∈ ls, x.1 ≤ y.1) → Q (.tup [.int x.1, .ref x.2.1]) H) : rMin1 [.ref a] H Q := by
  cases ls with
  | nil => exact absurd rfl hne
  | cons p ls =>
    refine ⟨_, clPy (p.1, p.2.2), (ls.map clOf).map clPy, h, pyAs_cls hc, alike_cls (ns := (p.1, p.2.2) :: ls.map clOf), depth_cls ((p.1, p.2.2) :: ls.map clOf), fun i d hd hm => ?_⟩
    obtain ⟨m, h1, h2, h3⟩ := minD_cl (ls.map clOf) (p.1, p.2.2)
    obtain ⟨x, hx, rfl⟩ := getMap hd
    have e : (((p :: ls).map clOf).map clPy)[i]? = some (clPy m) := by rw [← h2]; exact hm
    rw [List.getElem?_map, List.getElem?_map, hx] at e
    have := clPy_inj (Option.some.inj e)
    refine q x (List.mem_of_getElem? hx) fun y hy => ?_
    have h4 := h3 (y.1, y.2.2) (by
      have : (y.1, y.2.2) ∈ (p :: ls).map clOf := List.mem_map.mpr ⟨y, hy, rfl⟩
      exact this)
    rw [← this] at h4
    exact h4
end Lt

end
section
set_option Elab.async false
set_option linter.all false
set_option maxRecDepth 100000
set_option maxHeartbeats 3200000
/-! Dl20: l.remove(x) of data; targets that change things. -/
namespace Lt
open PySem PySem.Spec L2 PyProof.Rows
section
variable {X : Cx} {cs : Addr → Option (List Str)}
theorem eraseIdx_mapE {α β : Type} (f : α → β) : ∀ (xs : List α) (j : Nat), (xs.map f).eraseIdx j = (xs.eraseIdx j).map f
  | [], _ => rfl
  | _ :: _, 0 => rfl
  | x :: xs, j + 1 => by simp [eraseIdx_mapE f xs j]
def rRemV (K : PySem.W.Frag) : V → List V → Hp → VK → Prop := fun x xs H Q => ∃ (a : Addr) (vs : List V) (y : V) (d : PyData) (ds : List PyData) (j : Nat) (z : PyData), x = V.ref a ∧ xs = [y] ∧ H a = some (.lst vs) ∧ DpAll K H vs ds ∧ Dp K H y d ∧
  SeqAt.shaped (.list ds) = true ∧ SeqAt.shaped d = true ∧ ds[j]? = some z ∧ PyData.eqv z d = true ∧ (∀ (m : Nat) (z' : PyData), m < j → ds[m]? = some z' → PyData.eqv z' d = false) ∧ Q .non (upd H a (.lst (vs.eraseIdx j)))
theorem mt_remD (hu : X.A.units + 65 < cLine) : MtR X "list.remove" (rRemV X.K) := by
  intro pins s σ H x xs v us Q I rx rxs h
  obtain ⟨a, vs, y, d, ds, j, z, rfl, rfl, hH, ha, hy, sl, sd, hz, hzj, hno, q⟩ := h
  cases rx
  cases rxs with
  | cons ry rt =>
    rename_i uy ut
    cases rt
    obtain ⟨bs, r1⟩ := Dp.reads I d y uy hy ry
    have hxs : PyData.canLayAll0 ds = true := SeqAt.canLay_of_shaped sl
    have hroom : X.A.units + 1 + min (PyData.depthAll ds) d.depth < cLine := room_in_shaped sd hu
    obtain ⟨hlen, its, n, rv, hl0, ho⟩ := I.lstM hH
    obtain ⟨as, h4⟩ := Dp.readsAll I ds _ its ha rv
    have hn : its.length = ds.length := SeqAt.ReadsAll.length ds its as h4
    have hmap : its.map (SeqAt.readOf s.heap) = ds := SeqAt.readsAll_map ds its as hxs h4
    have hsl := sizeLine_eq
    obtain ⟨hjd, _⟩ := List.getElem?_eq_some_iff.mp hz
    have hj : j < its.toArray.size := by simpa using (show j < its.length by omega)
    have at_ : ∀ (m : Nat) (hm : m < its.toArray.size) (z' : PyData), ds[m]? = some z' → SeqAt.readOf s.heap its.toArray[m] = z' := by
      intro m hm z' hz'
      have hml : m < its.length := by simpa using hm
      rw [← hmap, List.getElem?_map, List.getElem?_eq_getElem hml] at hz'
      have e1 : SeqAt.readOf s.heap its[m] = z' := Option.some.inj (show some (SeqAt.readOf s.heap its[m]) = some z' from hz')
      simpa using e1
    refine call_meets PySem.F.slot_list_remove ⟨_, ho, rfl⟩ PySem.F.entry_list_remove (PySem.F.args_list_remove_2 _ _)
      (SeqAt.list_removeAt a its.toArray n none _ uy (fun u => PyData.eqv (SeqAt.readOf s.heap u) d) j hj ?_ ?_ (by simpa using (show its.length ≤ sizeLine by omega))) ⟨ho, SeqAt.items_eqAt (vs := its.toArray) (show ReadsAll s.heap its.toArray.toList ds as from h4) r1 hxs (SeqAt.canLay_of_shaped sd) hroom, ?_⟩
    · show PyData.eqv (SeqAt.readOf s.heap its.toArray[j]) d = true
      rw [at_ j hj z hz]
      exact hzj
    · intro m hm hmj
      have hmd : m < ds.length := by omega
      have hz' : ds[m]? = some ds[m] := List.getElem?_eq_getElem hmd
      show PyData.eqv (SeqAt.readOf s.heap its.toArray[m]) d = false
      rw [at_ m hm _ hz']
      exact hno m _ hmj hz'
    · refine ⟨.non, _, I.lset (its' := its.eraseIdx j) hH ho ?_ (rv.eraseIdx j) ?_, rfl, q⟩
      · show its.toArray.eraseIdxIfInBounds j = (its.eraseIdx j).toArray
        rw [List.eraseIdxIfInBounds_toArray]
      · have := List.length_eraseIdx_le vs j
        omega
/-- l.remove(x) -/
def rRem : D → List D → HD → QD → Prop := fun x xs H Q => match x, xs with
  | .ref l, [y] => ∃ ds p ps j z, H l = some (.lst ds) ∧ PyA H y p ∧ PyAs H ds ps ∧ SeqAt.shaped p = true ∧ SeqAt.shaped (.list ps) = true ∧ ps[j]? = some z ∧ PyData.eqv z p = true ∧ (∀ (m : Nat) (z' : PyData), m < j → ps[m]? = some z' → PyData.eqv z' p = false) ∧ Q .non (upD H l (.lst (ds.eraseIdx j)))
  | _, _ => False
theorem m_remove (hu : X.A.units + 65 < cLine) : MtDL X cs "list.remove" rRem := by
  refine ⟨_, mt_remD hu, fun H Hd x xs v vs Qd Q rh rx rxs h k => ?_⟩
  match x, xs, h with
  | .ref l, [y], h =>
    cases rx
    obtain ⟨w, rfl, ry⟩ := rxs.one_
    obtain ⟨ds, p, ps, j, z, e, h1, h2, h3, h4, h5, h6, h7, h⟩ := h
    obtain ⟨ws, g, r⟩ := rh _ _ e
    exact ⟨l, ws, w, p, ps, j, z, rfl, rfl, g, PyAs.dp rh h2 r, PyA.dp rh h1 ry, h4, h3, h5, h6, h7, k _ _ _ _ (.mut g trivial) (rh.mutL g (r.eraseIdx j)) .non h⟩
theorem rem_like {α : Type} [DecidableEq α] [BEq α] [LawfulBEq α] {f : α → D} (hl : ∀ x, Low (f x)) (he : ∀ x y, PyData.eqv (f x).py (f y).py = decide (x = y)) {H : HD} {a : Addr} {x : α} {xs : List α} {Q : QD} (e : H a = some (.lst (xs.map f))) (hx : x ∈ xs) (q : Q .non (upD H a (.lst ((xs.erase x).map f)))) : rRem (.ref a) [f x] H Q := by
  have key : ∀ {xs : List α}, x ∈ xs → ∃ j, xs[j]? = some x ∧ (∀ m z, m < j → xs[m]? = some z → z ≠ x) ∧ xs.eraseIdx j = xs.erase x := by
    intro xs
    induction xs with
    | nil => intro h; cases h
    | cons y ys ih =>
      intro h
      by_cases e : y = x
      · subst e
        exact ⟨0, rfl, fun m z h => by omega, by simp⟩
      · obtain ⟨j, h1, h2, h3⟩ := ih ((List.mem_cons.mp h).resolve_left fun q => e q.symm)
        refine ⟨j + 1, by simpa using h1, fun m z hm hz => ?_, ?_⟩
        · cases m with
          | zero => simp at hz; rw [← hz]; exact e
          | succ m => exact h2 m z (by omega) (by simpa using hz)
        · rw [List.erase_cons_tail (by simpa using e), ← h3]; rfl
  obtain ⟨j, h1, h2, h3⟩ := key hx
  have em : ∀ (m : Nat), (D.pys (xs.map f))[m]? = (xs[m]?).map fun x => (f x).py := fun m => by rw [pys_map, List.getElem?_map]
  refine ⟨_, _, _, j, (f x).py, e, .of H (hl x).1, .of H (lows (lowMap hl)).1, shapedLow (hl x), shapedL (lowMap hl), by rw [em, h1]; rfl, by rw [he]; simp, fun m z' hm hz => ?_, ?_⟩
  · rw [em] at hz
    cases e2 : xs[m]? with
    | none => rw [e2] at hz; cases hz
    | some w =>
      rw [e2] at hz
      have := Option.some.inj hz
      rw [← this, he]
      simpa using h2 m w hm e2
  · have : (xs.map f).eraseIdx j = (xs.erase x).map f := by rw [← h3, eraseIdx_mapE]
    rw [this]; exact q
end
/-! ### targets of any kind -/
abbrev TgX := D → StD → HD → (StD → HD → Prop) → Prop
abbrev TgXs := List D → StD → HD → (StD → HD → Prop) → Prop
def lfG (G : Gm) (t : TgX) : TG := fun v σ H Q => ∃ ρ Hd d Qd, RelS G.K H ρ σ ∧ RelH G H Hd ∧ RD G.K H d v ∧ t d ρ Hd Qd ∧ ToS G H Qd Q
def lfGs (G : Gm) (t : TgXs) : TGs := fun vs σ H Q => ∃ ρ Hd ds Qd, RelS G.K H ρ σ ∧ RelH G H Hd ∧ RDs G.K H ds vs ∧ t ds ρ Hd Qd ∧ ToS G H Qd Q
section
variable {X : Cx} {cs : Addr → Option (List Str)} {a b c e : Expr} {te to ti : TED} {pos : Pos}
structure PGX (X : Cx) (cs : Addr → Option (List Str)) (target : Expr) (t : TgX) : Prop where
  pg : PG X target (lfG ⟨X.K, cs⟩ t)
structure PGXs (X : Cx) (cs : Addr → Option (List Str)) (ts : List Expr) (t : TgXs) : Prop where
  pg : PGs X ts (lfGs ⟨X.K, cs⟩ t)
theorem PG.of {e : Expr} {t t' : TG} (h : PG X e t) (w : ∀ v σ H Q, t' v σ H Q → t v σ H Q) : PG X e t' := ⟨fun pins s σ H v u Q I r q => h.run pins s σ H v u Q I r (w v σ H Q q)⟩
theorem PGs.of {e : List Expr} {t t' : TGs} (h : PGs X e t) (w : ∀ v σ H Q, t' v σ H Q → t v σ H Q) : PGs X e t' := ⟨fun pins s σ H v u Q I r q => h.run pins s σ H v u Q I r (w v σ H Q q)⟩
def gxN (i : Nat) : TgX := fun d ρ H k => k (ρ.set i (some d)) H
theorem pgx_name (i : Nat) {x : Str} (hN : X.N.Nodup) (hi : X.N[i]? = some x := by rfl) (hx : Loc X.env.scope x := by first | exact Or.inl rfl | exact Or.inr rfl) (hf : X.fn x = true ∨ X.env.scope.names.lookup x = some .local := by first | exact .inl rfl | exact .inr rfl | assumption) : PGX X cs (.Name x pos) (gxN i) :=
  ⟨PG.of (pg_name hN hi hx hf) fun v σ H Q h => by
    obtain ⟨ρ, Hd, d, Qd, rs, rh, rd, h, k⟩ := h
    exact k _ _ H Hd (.refl H) rh (rs.set rd i) h⟩
def gxNil : TgXs := fun ds ρ H k => ds = [] ∧ k ρ H
def gxCons (t : TgX) (u : TgXs) : TgXs := fun ds ρ H k => match ds with
  | d :: r => t d ρ H fun ρ' H' => u r ρ' H' k
  | [] => False
theorem pgxs_nil : PGXs X cs [] gxNil := ⟨PGs.of pgs_nil fun v σ H Q h => by
  obtain ⟨ρ, Hd, ds, Qd, rs, rh, rd, ⟨rfl, h⟩, k⟩ := h
  exact ⟨rd.nilV, k _ _ H Hd (.refl H) rh rs h⟩⟩
theorem pgxs_cons {es : List Expr} {t : TgX} {u : TgXs} (h : PGX X cs e t) (g : PGXs X cs es u) (hs : (assignEach (e :: es) X.env).map (·.2) = assign e X.env :: (assignEach es X.env).map (·.2) := by rfl) : PGXs X cs (e :: es) (gxCons t u) :=
  ⟨PGs.of (pgs_cons h.pg g.pg hs) fun v σ H Q h => by
    obtain ⟨ρ, Hd, ds, Qd, rs, rh, rd, h, k⟩ := h
    cases rd with
    | nil => exact h.elim
    | @cons d v ds vs r rr =>
      refine ⟨v, vs, rfl, ρ, Hd, d, _, rs, rh, r, h, fun σ1 ρ1 H1 Hd1 e1 rh1 rs1 h1 => ?_⟩
      exact ⟨ρ1, Hd1, ds, Qd, rs1, rh1, rr.ext e1, h1, k.ext e1⟩⟩
def gxTp (n : Nat) (t : TgXs) : TgX := fun d ρ H k => match d with
  | .tup ds => ds.length = n ∧ t ds ρ H k
  | _ => False
theorem pgx_tup (n : Nat) {es : List Expr} {j : Nat} {t : TgXs} (hc : X.calm = true) (h : PGXs X cs es t) (hn : (assignEach es X.env).length = n := by rfl) (hst : (assignEach es X.env).findIdx? (·.1) = none := by rfl) : PGX X cs (.Tuple es j pos) (gxTp n t) :=
  ⟨PG.of (pg_tup hc h.pg hn hst) fun v σ H Q h => by
    obtain ⟨ρ, Hd, d, Qd, rs, rh, rd, h, k⟩ := h
    cases d with
    | tup ds =>
      obtain ⟨a, vs, rfl, ha, q⟩ := rd.tupV
      exact ⟨a, vs, rfl, SqT.of ha, by rw [← q.length]; exact h.1, ρ, Hd, ds, Qd, rs, rh, q, h.2, k⟩
    | _ => exact h.elim⟩
/-- o.f as a target -/
def gFldV (K : PySem.W.Frag) (ta : TE) (f : Str) : TG := fun v σ H Q => ta σ H fun x H2 => ∃ a C dx fs, x = .ref a ∧ H2 a = some (.ins C dx fs) ∧ Cls K C ∧ NoAttr K C f ∧ fs.length < 1000 ∧ Q σ (upd H2 a (.ins C dx (putF f v fs)))
theorem pg_fldV {o : Expr} {f : Str} {ta : TE} (ha : PE X o ta) : PG X (.Attribute o f pos) (gFldV X.K ta f) := ⟨fun pins s σ H v u Q I r h => by
  rw [assign_Attribute]
  refine wpAny_bind (wpAny_holding (thn (ha.run pins s σ H _ I h) fun ov s1 ⟨x, H1, I1, r1, a, C, dx, fs, ex, ea, c, n, l, q1⟩ => ?_))
  subst ex
  obtain rfl : ov = Value.ref a := r1
  refine wpAny_bind (wpAny_standAt (wpAny_bind (wpAny_holding (setattr_ok I1 ea c n l r fun s3 I3 => ?_))))
  exact wpAny_release ⟨σ, _, I3, q1⟩⟩
def gxF (C : Addr) (i : Nat) (to : TED) : TgX := fun d ρ H k => to ρ H fun o H2 => match o with
  | .ref a => ∃ fs, H2 a = some (.ins C fs) ∧ Nat.ble i fs.length = true ∧ k ρ (upD H2 a (.ins C (putI i d fs)))
  | _ => False
theorem pgx_fld (G : Gm.Ok ⟨X.K, cs⟩) (C : Addr) {ord : List Str} (hC : cs C = some ord) (i : Nat) {f : Str} {o : Expr} (ho : PD X cs o to) (hi : ord[i]? = some f := by rfl) : PGX X cs (.Attribute o f pos) (gxF C i to) :=
  ⟨PG.of (pg_fldV ho.pe) fun v σ H Q h => by
    obtain ⟨ρ, Hd, d, Qd, rs, rh, rd, h, k⟩ := h
    refine ⟨ρ, Hd, _, rs, rh, h, fun w H2 y Hd2 e2 rh2 rw h2 => ?_⟩
    cases y with
    | ref a =>
      cases rw
      obtain ⟨fs, e, hl, h2⟩ := h2
      obtain ⟨ord', dx, vs, c1, c2, c3, c4⟩ := rh2 _ _ e
      have eo : ord' = ord := Option.some.inj (c1.symm.trans hC)
      subst eo
      obtain ⟨t1, t2, t3, t4⟩ := G.cls C ord' hC
      have hil : i < ord'.length := (List.getElem?_eq_some_iff.mp hi).1
      have hl' : i ≤ fs.length := Nat.le_of_ble_eq_true hl
      have lv := c3.length
      rw [lv] at c4
      have q := (rd.ext e2)
      have z := zip_put (v := v) t2 hi (by rw [← lv]; exact hl') (by rw [← lv]; exact c2)
      refine ⟨a, C, dx, _, rfl, c4, t1, t4 f (List.mem_of_getElem? hi), ?_, ?_⟩
      · rw [List.length_zip, List.length_take]
        omega
      · rw [z]
        have ex : TupX H2 (upd H2 a (.ins C dx ((ord'.take (putI i v vs).length).zip (putI i v vs)))) := .mut c4 trivial
        refine k σ ρ _ _ (e2.trans ex) (rh2.mut (c := .ins C (putI i d fs)) c4 trivial ⟨ord', dx, putI i v vs, hC, ?_, (RDs.putI q c3 i).ext ex, ?_⟩) (rs.ext (e2.trans ex)) h2
        · rw [putI_length]
          split <;> omega
        · rw [upd_same, (RDs.putI q c3 i).length]
    | _ => exact h2.elim⟩
/-- o[i] as a target -/
def gxS (to ti : TED) : TgX := fun v ρ H k => to ρ H fun o H2 => ti ρ H2 fun i H3 => match o with
  | .ref a => ∃ c, H3 a = some c ∧ (match c with
    | .lst ds => ∃ n j, i = .int n ∧ ixN ds.length n = some j ∧ k ρ (upD H3 a (.lst (ds.set j v)))
    | .dK kvs => ∃ n, keyD i = some n ∧ kvs.length < sizeLine ∧ k ρ (upD H3 a (.dK (putP kvs n v)))
    | .dT kvs => ∃ ks n, i = .tup ks ∧ keysD ks = some n ∧ kvs.length < sizeLine ∧ k ρ (upD H3 a (.dT (putP kvs n v)))
    | _ => False)
  | _ => False
theorem pgx_sub {o i : Expr} (hu : X.A.units + 1 < cLine) (ho : PD X cs o to) (hi : PD X cs i ti)
    (ha : ∀ v, assign (.Subscript o i pos) X.env v = (do
      let ov ← holding [v] (eval o X.env)
      let iv ← holding [v, ov] (eval i X.env)
      standAt pos
      holding [v, ov, iv] (setItem ov iv v)
      release [v, ov, iv] []) := by intro _; rfl) : PGX X cs (.Subscript o i pos) (gxS to ti) :=
  ⟨PG.of (pg_sub ho.pe hi.pe (PSet.or set_list (set_dictR hu)) ha) fun v σ H Q h => by
    obtain ⟨ρ, Hd, d, Qd, rs, rh, rd, h, k1⟩ := h
    refine ⟨ρ, Hd, _, rs, rh, h, fun w H2 y Hd2 e2 rh2 rw h2 => ?_⟩
    refine ⟨ρ, Hd2, _, rs.ext e2, rh2, h2, fun z H3 d3 Hd3 e3 rh3 rz h3 => ?_⟩
    have e13 := e2.trans e3
    have rv3 := rd.ext e13
    cases y with
    | ref a =>
      cases rw
      obtain ⟨c, ec, h3⟩ := h3
      cases c with
      | lst ds =>
        obtain ⟨n, j, rfl, hj, h3⟩ := h3
        cases rz
        obtain ⟨vs, g, r⟩ := rh3 _ _ ec
        refine .inl ⟨a, vs, n, j, rfl, rfl, g, by rw [← r.length]; exact hj, ?_⟩
        exact k1 σ ρ _ _ (e13.trans (.mut g trivial)) (rh3.mutL g (r.set rv3 j)) (rs.ext (e13.trans (.mut g trivial))) h3
      | dK kvs =>
        obtain ⟨n, ek, hl, h3⟩ := h3
        obtain ⟨vs, g, r⟩ := rh3 _ _ ec
        have q := put_ok (k := n) rv3 r
        refine .inr ⟨a, _, rfl, .inl ⟨vs, n, g, keyD_ok rz ek, by rw [← r.length]; exact hl, rfl⟩, ?_⟩
        exact k1 σ ρ _ _ (e13.trans (.mut g trivial)) (rh3.mut (c := .dK _) g trivial ⟨_, upd_same, q.ext (.mut g trivial)⟩) (rs.ext (e13.trans (.mut g trivial))) h3
      | dT kvs =>
        obtain ⟨ks, n, rfl, ek, hl, h3⟩ := h3
        obtain ⟨vs, g, r⟩ := rh3 _ _ ec
        have q := put_ok (k := n) rv3 r
        obtain ⟨p, ws, rfl, hp, r1⟩ := rz.tupV
        rw [keysD_ok r1 ek] at hp
        refine .inr ⟨a, _, rfl, .inr ⟨vs, n, p, g, rfl, hp, by rw [← r.length]; exact hl, rfl⟩, ?_⟩
        exact k1 σ ρ _ _ (e13.trans (.mut g trivial)) (rh3.mut (c := .dT _) g trivial ⟨_, upd_same, q.ext (.mut g trivial)⟩) (rs.ext (e13.trans (.mut g trivial))) h3
      | _ => exact h3.elim
    | _ => exact h3.elim⟩
/-- target = value, a target of any kind -/
def sAsX (te : TED) (t : TgX) : TSD := fun D ρ H => te ρ H fun x H1 => t x ρ H1 D.nx
theorem psd_asgX {tg : Expr} {t : TgX} (he : PD X cs e te) (hg : PGX X cs tg t) (hs : swapsWithSole [tg] e pos.line X.env = pure false := by rfl) (hw : swappedStores [tg] e X.env = pure none := by rfl)
    (h1 : (assignEach [tg] X.env).map (·.2) = [assign tg X.env] := by rfl) : PSD X cs (.Assign [tg] e pos) (sAsX te t) := ⟨PS.of (ps_asg he.pe hg.pg hs hw h1) fun Dn σ H h => by
  obtain ⟨ρ, Hd, Dd, rs, rh, h, k1, k2, k3, k4⟩ := h
  exact ⟨ρ, Hd, _, rs, rh, h, fun v H1 x Hd1 e1 rh1 rv h1 => ⟨ρ, Hd1, x, _, rs.ext e1, rh1, rv, h1, k1.ext e1⟩⟩⟩
end
set_option smartUnfolding false
section
variable {ρ : StD} {H : HD} {te to ti : TED} {k : StD → HD → Prop} {E : EndsD} {d v : D} {ds : List D} {t : TgX} {u : TgXs} {C a : Addr} {n : Nat}
theorem u_sAsX : sAsX te t E ρ H = te ρ H fun x H1 => t x ρ H1 E.nx := rfl
theorem u_gxN : gxN n d ρ H k = k (ρ.set n (some d)) H := rfl
theorem u_gxNil : gxNil [] ρ H k = k ρ H := by simp [gxNil]
theorem u_gxCons : gxCons t u (d :: ds) ρ H k = t d ρ H fun ρ' H' => u ds ρ' H' k := rfl
theorem u_gxTp : gxTp n u (.tup ds) ρ H k = (ds.length = n ∧ u ds ρ H k) := rfl
theorem u_gxF : gxF C n to d ρ H k = to ρ H fun o H2 => asR o fun a => ∃ fs, H2 a = some (.ins C fs) ∧ n ≤ fs.length ∧ k ρ (upD H2 a (.ins C (putI n d fs))) := by
  simp only [gxF, Nat.ble_eq]
  rfl
def gxC (k : StD → HD → Prop) (ρ : StD) (H : HD) (a : Addr) (i v : D) : DO → Prop
  | .lst ds => ∃ n j, i = .int n ∧ ixN ds.length n = some j ∧ k ρ (upD H a (.lst (ds.set j v)))
  | .dK kvs => ∃ n, keyD i = some n ∧ kvs.length < sizeLine ∧ k ρ (upD H a (.dK (putP kvs n v)))
  | .dT kvs => ∃ ks n, i = .tup ks ∧ keysD ks = some n ∧ kvs.length < sizeLine ∧ k ρ (upD H a (.dT (putP kvs n v)))
  | _ => False
theorem u_gxS : gxS to ti v ρ H k = to ρ H fun o H2 => ti ρ H2 fun i H3 => asR o fun a => ∃ c, H3 a = some c ∧ gxC k ρ H3 a i v c := rfl
theorem u_gxC_ks {kvs : List (Key × D)} {z : Str} : gxC k ρ H a (.str z) v (.dK kvs) = (kvs.length < sizeLine ∧ k ρ (upD H a (.dK (putP kvs (.inr z) v)))) := by
  refine propext ⟨fun ⟨n, h1, h2, h3⟩ => ?_, fun ⟨h2, h3⟩ => ⟨_, rfl, h2, h3⟩⟩
  cases h1; exact ⟨h2, h3⟩
theorem rRem_def {y : D} {Q : QD} : rRem (.ref a) [y] H Q = ∃ ds p ps j z, H a = some (.lst ds) ∧ PyA H y p ∧ PyAs H ds ps ∧ SeqAt.shaped p = true ∧ SeqAt.shaped (.list ps) = true ∧ ps[j]? = some z ∧ PyData.eqv z p = true ∧ (∀ (m : Nat) (z' : PyData), m < j → ps[m]? = some z' → PyData.eqv z' p = false) ∧ Q .non (upD H a (.lst (ds.eraseIdx j))) := rfl
end
end Lt

end
section
set_option Elab.async false
set_option linter.all false
set_option maxRecDepth 100000
set_option maxHeartbeats 2000000
/-! Dl21: words that are unlike; values that may be None. Printed by words.py. -/
namespace Lt
open PySem PySem.Spec L2
def oI : Option Int → D
  | none => .non
  | some i => .int i
theorem u_w_joins_is : (Str.ofString "joins" = Str.ofString "is") = False := by decide +kernel
theorem u_w_joins_asks : (Str.ofString "joins" = Str.ofString "asks") = False := by decide +kernel
theorem u_w_joins_yes : (Str.ofString "joins" = Str.ofString "yes") = False := by decide +kernel
theorem u_w_joins_no : (Str.ofString "joins" = Str.ofString "no") = False := by decide +kernel
theorem u_w_joins_least : (Str.ofString "joins" = Str.ofString "least") = False := by decide +kernel
theorem u_w_joins_goes : (Str.ofString "joins" = Str.ofString "goes") = False := by decide +kernel
theorem u_w_joins_over : (Str.ofString "joins" = Str.ofString "over") = False := by decide +kernel
theorem u_w_is_joins : (Str.ofString "is" = Str.ofString "joins") = False := by decide +kernel
theorem u_w_is_asks : (Str.ofString "is" = Str.ofString "asks") = False := by decide +kernel
theorem u_w_is_yes : (Str.ofString "is" = Str.ofString "yes") = False := by decide +kernel
theorem u_w_is_no : (Str.ofString "is" = Str.ofString "no") = False := by decide +kernel
theorem u_w_is_least : (Str.ofString "is" = Str.ofString "least") = False := by decide +kernel
theorem u_w_is_goes : (Str.ofString "is" = Str.ofString "goes") = False := by decide +kernel
theorem u_w_is_over : (Str.ofString "is" = Str.ofString "over") = False := by decide +kernel
theorem u_w_asks_joins : (Str.ofString "asks" = Str.ofString "joins") = False := by decide +kernel
theorem u_w_asks_is : (Str.ofString "asks" = Str.ofString "is") = False := by decide +kernel
theorem u_w_asks_yes : (Str.ofString "asks" = Str.ofString "yes") = False := by decide +kernel
theorem u_w_asks_no : (Str.ofString "asks" = Str.ofString "no") = False := by decide +kernel
theorem u_w_asks_least : (Str.ofString "asks" = Str.ofString "least") = False := by decide +kernel
theorem u_w_asks_goes : (Str.ofString "asks" = Str.ofString "goes") = False := by decide +kernel
theorem u_w_asks_over : (Str.ofString "asks" = Str.ofString "over") = False := by decide +kernel
theorem u_w_yes_joins : (Str.ofString "yes" = Str.ofString "joins") = False := by decide +kernel
theorem u_w_yes_is : (Str.ofString "yes" = Str.ofString "is") = False := by decide +kernel
theorem u_w_yes_asks : (Str.ofString "yes" = Str.ofString "asks") = False := by decide +kernel
theorem u_w_yes_no : (Str.ofString "yes" = Str.ofString "no") = False := by decide +kernel
theorem u_w_yes_least : (Str.ofString "yes" = Str.ofString "least") = False := by decide +kernel
theorem u_w_yes_goes : (Str.ofString "yes" = Str.ofString "goes") = False := by decide +kernel
theorem u_w_yes_over : (Str.ofString "yes" = Str.ofString "over") = False := by decide +kernel
theorem u_w_no_joins : (Str.ofString "no" = Str.ofString "joins") = False := by decide +kernel
theorem u_w_no_is : (Str.ofString "no" = Str.ofString "is") = False := by decide +kernel
theorem u_w_no_asks : (Str.ofString "no" = Str.ofString "asks") = False := by decide +kernel
theorem u_w_no_yes : (Str.ofString "no" = Str.ofString "yes") = False := by decide +kernel
theorem u_w_no_least : (Str.ofString "no" = Str.ofString "least") = False := by decide +kernel
theorem u_w_no_goes : (Str.ofString "no" = Str.ofString "goes") = False := by decide +kernel
theorem u_w_no_over : (Str.ofString "no" = Str.ofString "over") = False := by decide +kernel
theorem u_w_least_joins : (Str.ofString "least" = Str.ofString "joins") = False := by decide +kernel
theorem u_w_least_is : (Str.ofString "least" = Str.ofString "is") = False := by decide +kernel
theorem u_w_least_asks : (Str.ofString "least" = Str.ofString "asks") = False := by decide +kernel
theorem u_w_least_yes : (Str.ofString "least" = Str.ofString "yes") = False := by decide +kernel
theorem u_w_least_no : (Str.ofString "least" = Str.ofString "no") = False := by decide +kernel
theorem u_w_least_goes : (Str.ofString "least" = Str.ofString "goes") = False := by decide +kernel
theorem u_w_least_over : (Str.ofString "least" = Str.ofString "over") = False := by decide +kernel
theorem u_w_goes_joins : (Str.ofString "goes" = Str.ofString "joins") = False := by decide +kernel
theorem u_w_goes_is : (Str.ofString "goes" = Str.ofString "is") = False := by decide +kernel
theorem u_w_goes_asks : (Str.ofString "goes" = Str.ofString "asks") = False := by decide +kernel
theorem u_w_goes_yes : (Str.ofString "goes" = Str.ofString "yes") = False := by decide +kernel
theorem u_w_goes_no : (Str.ofString "goes" = Str.ofString "no") = False := by decide +kernel
theorem u_w_goes_least : (Str.ofString "goes" = Str.ofString "least") = False := by decide +kernel
theorem u_w_goes_over : (Str.ofString "goes" = Str.ofString "over") = False := by decide +kernel
theorem u_w_over_joins : (Str.ofString "over" = Str.ofString "joins") = False := by decide +kernel
theorem u_w_over_is : (Str.ofString "over" = Str.ofString "is") = False := by decide +kernel
theorem u_w_over_asks : (Str.ofString "over" = Str.ofString "asks") = False := by decide +kernel
theorem u_w_over_yes : (Str.ofString "over" = Str.ofString "yes") = False := by decide +kernel
theorem u_w_over_no : (Str.ofString "over" = Str.ofString "no") = False := by decide +kernel
theorem u_w_over_least : (Str.ofString "over" = Str.ofString "least") = False := by decide +kernel
theorem u_w_over_goes : (Str.ofString "over" = Str.ofString "goes") = False := by decide +kernel
section
variable {H : HD} {Q : QD} {i : Int} {x y : Option Int}
theorem u_isNon_oI : isNon (oI x) = decide (x = none) := by cases x <;> rfl
theorem u_rNe_io : rNe (.int i) (oI x) H Q = Q (.bl (!decide (x = some i))) H := by
  cases x with
  | none => show Q (.bl (!false)) H = _; simp
  | some j =>
    show Q (.bl (!decide (i = j))) H = _
    by_cases h : i = j
    · simp [h]
    · have : ¬ j = i := fun z => h z.symm
      simp [h, this]
theorem u_rNe_oi : rNe (oI x) (.int i) H Q = Q (.bl (!decide (x = some i))) H := by
  cases x with
  | none => show Q (.bl (!false)) H = _; simp
  | some j => show Q (.bl (!decide (j = i))) H = _; simp
theorem u_rEq_io : rEq (.int i) (oI x) H Q = Q (.bl (decide (x = some i))) H := by
  cases x with
  | none => show Q (.bl false) H = _; simp
  | some j =>
    show Q (.bl (decide (i = j))) H = _
    by_cases h : i = j
    · simp [h]
    · have : ¬ j = i := fun z => h z.symm
      simp [h, this]
theorem u_rEq_oi : rEq (oI x) (.int i) H Q = Q (.bl (decide (x = some i))) H := by
  cases x with
  | none => show Q (.bl false) H = _; simp
  | some j => show Q (.bl (decide (j = i))) H = _; simp
theorem u_rNe_oo : rNe (oI x) (oI y) H Q = Q (.bl (!decide (x = y))) H := by
  cases x with
  | none =>
    cases y with
    | none => rfl
    | some j => show Q (.bl (!false)) H = _; simp
  | some i =>
    cases y with
    | none => show Q (.bl (!false)) H = _; simp
    | some j => show Q (.bl (!decide (i = j))) H = _; simp
theorem u_rEq_oo : rEq (oI x) (oI y) H Q = Q (.bl (decide (x = y))) H := by
  cases x with
  | none =>
    cases y with
    | none => rfl
    | some j => show Q (.bl false) H = _; simp
  | some i =>
    cases y with
    | none => show Q (.bl false) H = _; simp
    | some j => show Q (.bl (decide (i = j))) H = _; simp
end
end Lt

end
section
set_option Elab.async false
set_option linter.all false
set_option maxRecDepth 100000
set_option maxHeartbeats 3200000
/-! Dl22: raise X("m"), X a class of its own without an __init__. -/
namespace Lt
open PySem PySem.Spec L2
/-- an own class of refusals, without an __init__ -/
structure XcN (K : PySem.W.Frag) (C : Addr) : Prop where
  ok : PySem.W.excIn K C He.veBase "ValueError.__new__" = true ∧ PySem.W.keepIn K (.ref C) = true ∧ PySem.W.subIn K (.ref C) (.type "BaseException") = some true ∧ PySem.W.typeIn K (.ref C) = some (.type "type")
section
variable {X : Cx} {cs : Addr → Option (List Str)}
def sRaiN (C : Addr) (wd : WD) : TSD := fun _ ρ H => wd C [] ρ H
theorem u_sRaiN {C : Addr} {Ed : XD} {E : EndsD} {ρ : StD} {H : HD} : sRaiN C (WdE Ed) E ρ H = Ed C [] H := rfl
theorem psd_raiN {W : WX} {wd : WD} {C : Addr} {x m : Str} {j : Nat} {p p2 pos pos' : Pos} (hc : X.calm = true) (wl : Wish X cs W wd) (F : XcN X.K C) (gC : X.mg x = some (.ref C)) (hg : Gl X x := by rfl) (hdb : (x == ("__debug__" : Str)) = false := by decide) :
    PSD X cs (.Raise (some (.Call (.Name x p) [.Constant (.str m) j p2] [] pos)) none pos') (sRaiN C wd) := by
  obtain ⟨q, kC, s1, s2⟩ := F.ok
  refine ⟨⟨fun pins s σ H D I h => (L2N.ps_raise hc wl.tk (L2N.pmk_own PySem.F.excBase_ValueError q gC kC (raises_own s1 s2) hg hdb)).run pins s σ H D I ?_⟩⟩
  obtain ⟨ρ, Hd, Dd, rs, rh, h, k1, k2, k3, k4⟩ := h
  exact wl.lk C [] none σ ρ H Hd (Inv.tupX I) rs rh (.inl ⟨rfl, rfl⟩) h
end
end Lt

end
section
set_option Elab.async false
set_option linter.all false
set_option maxRecDepth 100000
set_option maxHeartbeats 2000000
/-! Dl23: a op1 b op2 c as a value. -/
namespace Lt
open PySem PySem.Spec L2
section
variable {X : Cx} {cs : Addr → Option (List Str)} {a b c : Expr} {ta tb tc : TED} {pos : Pos}
theorem pd_chain {op op' : CmpOp} {r r' : R2D} (ho : OpD X cs (compareOp op) r) (ho' : OpD X cs (compareOp op') r') (ha : PD X cs a ta) (hb : PD X cs b tb) (hc : PD X cs c tc)
    (hm : lastMarks [op, op'] [b, c] = false := by with_unfolding_all rfl) : PD X cs (.Compare a [op, op'] [b, c] pos) (tChn r r' ta tb tc) := by
  obtain ⟨q, ho, k⟩ := ho
  obtain ⟨q', ho', k'⟩ := ho'
  exact ⟨PE.of (pe_chain ho ho' ha.pe hb.pe hc.pe hm) (lf_chain k k')⟩
end
end Lt

end
section
set_option Elab.async false
set_option linter.all false
set_option maxRecDepth 100000
set_option maxHeartbeats 3200000
/-! Dl24: dict(pairs), pairs a list of tuples (key, value). -/
namespace Lt
open PySem PySem.Spec L2 PyProof.Rows
section
variable {X : Cx}
/-- a pair: where it lies, where its key lies, its key, its value -/
abbrev PrT := Addr × Addr × List Key × V
abbrev PrK := Addr × Key × V
def foldT (ps : List PrT) : List (List Key × V) := ps.foldl (fun kv p => putK kv p.2.2.1 p.2.2.2) []
def foldK (ps : List PrK) : List (Key × V) := ps.foldl (fun kv p => putK kv p.2.1 p.2.2) []
theorem paired_vals {α : Type} {f : α → V} {R : α → Value → Prop} : ∀ {ps : List α}, (∀ p ∈ ps, ∃ w, R p w) → ∃ ws, Paired R ps ws
  | [], _ => ⟨[], .nil⟩
  | p :: ps, h => by
    obtain ⟨w, hw⟩ := h p (List.mem_cons_self ..)
    obtain ⟨ws, r⟩ := paired_vals (f := f) (ps := ps) fun q hq => h q (.tail _ hq)
    exact ⟨w :: ws, .cons hw r⟩
theorem paired_at {α β : Type} {R : α → β → Prop} : ∀ {xs : List α} {ys : List β} {i : Nat} {y : β}, Paired R xs ys → ys[i]? = some y → ∃ x, xs[i]? = some x ∧ R x y
  | _, _, _, _, .nil, e => by simp at e
  | _, _, 0, _, .cons r _, e => by simp at e; subst e; exact ⟨_, rfl, r⟩
  | _, _, i + 1, y, .cons _ t, e => by
    obtain ⟨x, h1, h2⟩ := paired_at (i := i) (y := y) t (by simpa using e)
    exact ⟨x, by simpa using h1, h2⟩
theorem vals_ref : ∀ {ts : List Addr} {us : List Value}, Vals (ts.map V.ref) us → us = ts.map Value.ref
  | [], _, .nil => rfl
  | _ :: _, _, .cons h t => by rw [vals_ref t, show _ = _ from h]; rfl
theorem call_dict_listT (hc : X.calm = true) (hu : X.A.units + 2 < cLine) : CallR X (.type "dict") (fun xs H Q => ∃ (l : Addr) (ps : List PrT), xs = [V.ref l] ∧ H l = some (.lst (ps.map fun p => V.ref p.1)) ∧ (∀ p ∈ ps, H p.1 = some (.tup [.ref p.2.1, p.2.2.2]) ∧ H p.2.1 = some (.tup (p.2.2.1.map kV))) ∧ ∀ q, H q = none → Q (.ref q) (upd H q (.dT (foldT ps)))) := by
  intro pins s σ H xs us Q I r h
  obtain ⟨l, ps, rfl, hl, hp, q⟩ := h
  obtain ⟨u, rfl, rx⟩ := r.one
  cases rx
  obtain ⟨hlen, its, n, rv, ho⟩ := (show ObjOk X.prog X.w H s.heap l (.lst (ps.map fun p => V.ref p.1)) from I.hok l _ hl)
  rw [List.length_map] at hlen
  have e1 : its = ps.map fun p => Value.ref p.1 := by
    have := vals_ref (ts := ps.map (·.1)) (us := its) (by rw [List.map_map]; exact rv)
    rw [this, List.map_map]; rfl
  subst e1
  obtain ⟨ws, pw⟩ := paired_vals (f := fun p : PrT => p.2.2.2) (ps := ps) (R := fun p w => RelV p.2.2.2 w ∧ s.heap.IsTuple p.1 #[.ref p.2.1, w]) fun p hp' => by
    obtain ⟨h1, _⟩ := hp p hp'
    obtain ⟨_, its, rt, ob, e, c1, nn, c2⟩ := (show ObjOk X.prog X.w H s.heap p.1 (.tup [.ref p.2.1, p.2.2.2]) from I.hok _ _ h1)
    cases rt with
    | cons ra rt => cases rt with
      | cons rb rt =>
        cases rt
        rw [show _ = Value.ref p.2.1 from ra] at c2
        exact ⟨_, rb, ob, e, c1, nn, c2⟩
  have hlw : ps.length = ws.length := Paired.length pw
  let Ts : Nat → Addr := fun j => ((ps[j]?).map (·.1)).getD 0
  let vs : List (Value × Value) := (ps.zip ws).map fun x => (Value.ref x.1.2.1, x.2)
  let zs : List (List Key × Addr × Value) := (ps.zip ws).map fun x => (x.1.2.2.1, x.1.2.1, x.2)
  have lv : vs.length = ps.length := by simp [vs, hlw]
  have lz : zs.length = ps.length := by simp [zs, hlw]
  have vat : ∀ {j : Nat} {k v : Value}, vs[j]? = some (k, v) → ∃ p w, ps[j]? = some p ∧ ws[j]? = some w ∧ k = .ref p.2.1 ∧ v = w := fun {j k v} e => by
    simp only [vs, List.getElem?_map] at e
    cases z : (ps.zip ws)[j]? with
    | none => rw [z] at e; cases e
    | some x =>
      rw [z] at e
      have e := Option.some.inj e
      obtain ⟨z1, z2⟩ := List.getElem?_zip_eq_some.mp z
      exact ⟨x.1, x.2, z1, z2, (Prod.mk.inj e).1.symm, (Prod.mk.inj e).2.symm⟩
  have P := PairArg.list (prog := X.prog) (w := X.w) l (ps.map fun p => Value.ref p.1).toArray Ts vs
  have okp : PlainSeq "list" s.heap l (ps.map fun p => Value.ref p.1).toArray ∧ PairItems s.heap (ps.map fun p => Value.ref p.1).toArray Ts vs := by
    refine ⟨⟨_, n, ho, rfl, rfl, rfl⟩, by simp [lv], fun j k v e => ?_⟩
    obtain ⟨p, w, g1, g2, rfl, rfl⟩ := vat e
    have eT : Ts j = p.1 := by simp [Ts, g1]
    refine ⟨by simp [eT, g1], ?_⟩
    rw [eT]
    obtain ⟨p', g3, g4, g5⟩ := paired_at pw g2
    rw [g1] at g3
    cases g3
    exact .inl g5
  have hkt : ∀ x ∈ zs, (tupleKind (mixKind X.prog X.w)).is s.heap x.1 x.2.1 ∧ H x.2.1 = some (.tup (x.1.map kV)) := fun x hx => by
    obtain ⟨y, hy, rfl⟩ := List.mem_map.mp hx
    have hm := (List.of_mem_zip (a := y.1) (b := y.2) hy).1
    have := (hp _ hm).2
    exact ⟨key_of I.hok this, this⟩
  have hroom : (tupleKind (mixKind X.prog X.w)).room X.A.in1.in1 := by
    show X.A.in1.in1.units < cLine
    have : X.A.in1.in1.units = X.A.units + 2 := rfl
    omega
  refine call_dict_pairsH (knd := tupleKind (mixKind X.prog X.w)) (ps := zs) P (I.ok.hd hc) hroom okp ⟨by rw [lz, lv], fun i key v e => ?_⟩ (fun h' hk x hx => ?_) (by rw [lv]; exact hlen) fun h' tk hd' hk => ?_
  · obtain ⟨p, w, g1, g2, rfl, rfl⟩ := vat e
    refine ⟨p.2.2.1, p.2.1, ?_, rfl⟩
    simp only [zs, List.getElem?_map]
    rw [show (ps.zip ws)[i]? = some (p, v) from List.getElem?_zip_eq_some.mpr ⟨g1, g2⟩]
    rfl
  · refine tupleKind_stays.stays (fun b o vs n e _ => hk b o ?_ (fun z => nomatch z) e) (hkt x hx).1
    exact Nat.ne_of_lt (Heap.lt_size e)
  · have kt : KT H (foldT ps) (storedAllH [] zs) := by
      have go : ∀ {ps : List PrT} {ws : List Value}, Paired (fun p w => RelV p.2.2.2 w ∧ s.heap.IsTuple p.1 #[.ref p.2.1, w]) ps ws → (∀ p ∈ ps, H p.2.1 = some (.tup (p.2.2.1.map kV))) → ∀ {kvs : List (List Key × V)} {xs : List (List Key × Addr × Value)}, KT H kvs xs →
          KT H (ps.foldl (fun kv p => putK kv p.2.2.1 p.2.2.2) kvs) (storedAllH xs ((ps.zip ws).map fun x => (x.1.2.2.1, x.1.2.1, x.2))) := by
        intro ps ws pw
        induction pw with
        | nil => exact fun _ _ _ k => k
        | cons hr t ih =>
          intro hh kvs xs k
          exact ih (fun p hp => hh p (.tail _ hp)) (k.put _ (hh _ (List.mem_cons_self ..)) hr.1)
      exact go pw (fun p hp' => (hp p hp').2) .nil
    have hle : (foldT ps).length ≤ ps.length := by
      have go : ∀ (ps : List PrT) (kvs : List (List Key × V)), (ps.foldl (fun kv p => putK kv p.2.2.1 p.2.2.2) kvs).length ≤ kvs.length + ps.length := by
        intro ps
        induction ps with
        | nil => exact fun _ => Nat.le_refl _
        | cons p ps ih =>
          intro kvs
          have h1 := ih (putK kvs p.2.2.1 p.2.2.2)
          have h2 := length_putK kvs p.2.2.1 p.2.2.2
          rw [List.foldl_cons, List.length_cons]
          omega
      have := go ps []
      unfold foldT
      simpa using this
    obtain ⟨o, es, ep, h1, h2, h3, h4, _, h5⟩ := hd'
    have hn := I.hok.fresh (Nat.le_refl s.heap.objs.size)
    refine ⟨.ref s.heap.objs.size, _, I.laid (t' := tk) (o := .dT (foldT ps)) (fun b o e => hk b o (fun z => nomatch z) e) (Nat.le_refl _) ?_, rfl, q _ hn⟩
    exact ⟨by omega, beq_eq_false_iff_ne.mpr (Ne.symm (Nat.ne_of_lt I.big)), _, kt.keeps fun b ys e => by rw [upd_ne (ne_of_none e hn)]; exact e, o, es, ep, h1, h2, h3, h4, h5⟩
theorem call_dict_listK (hc : X.calm = true) : CallR X (.type "dict") (fun xs H Q => ∃ (l : Addr) (ps : List PrK), xs = [V.ref l] ∧ H l = some (.lst (ps.map fun p => V.ref p.1)) ∧ (∀ p ∈ ps, H p.1 = some (.tup [kV p.2.1, p.2.2])) ∧ ∀ q, H q = none → Q (.ref q) (upd H q (.dK (foldK ps)))) := by
  intro pins s σ H xs us Q I r h
  obtain ⟨l, ps, rfl, hl, hp, q⟩ := h
  obtain ⟨u, rfl, rx⟩ := r.one
  cases rx
  obtain ⟨hlen, its, n, rv, ho⟩ := (show ObjOk X.prog X.w H s.heap l (.lst (ps.map fun p => V.ref p.1)) from I.hok l _ hl)
  rw [List.length_map] at hlen
  have e1 : its = ps.map fun p => Value.ref p.1 := by
    have := vals_ref (ts := ps.map (·.1)) (us := its) (by rw [List.map_map]; exact rv)
    rw [this, List.map_map]; rfl
  subst e1
  obtain ⟨ws, pw⟩ : ∃ ws : List (Value × Value), Paired (fun (p : PrK) (w : Value × Value) => RelV (kV p.2.1) w.1 ∧ RelV p.2.2 w.2 ∧ s.heap.IsTuple p.1 #[w.1, w.2]) ps ws := by
    have go : ∀ {ps : List PrK}, (∀ p ∈ ps, H p.1 = some (.tup [kV p.2.1, p.2.2])) → ∃ ws : List (Value × Value), Paired (fun (p : PrK) (w : Value × Value) => RelV (kV p.2.1) w.1 ∧ RelV p.2.2 w.2 ∧ s.heap.IsTuple p.1 #[w.1, w.2]) ps ws := by
      intro ps
      induction ps with
      | nil => exact fun _ => ⟨[], .nil⟩
      | cons p ps ih =>
        intro hp
        obtain ⟨ws, r⟩ := ih fun q hq => hp q (.tail _ hq)
        obtain ⟨_, its, rt, ob, e, c1, nn, c2⟩ := (show ObjOk X.prog X.w H s.heap p.1 (.tup [kV p.2.1, p.2.2]) from I.hok _ _ (hp p (List.mem_cons_self ..)))
        cases rt with
        | cons ra rt => cases rt with
          | cons rb rt =>
            cases rt
            exact ⟨(_, _) :: ws, .cons ⟨ra, rb, ob, e, c1, nn, c2⟩ r⟩
    exact go hp
  have hlw : ps.length = ws.length := Paired.length pw
  let Ts : Nat → Addr := fun j => ((ps[j]?).map (·.1)).getD 0
  let zs : List (Key × Value) := (ps.zip ws).map fun x => (x.1.2.1, x.2.2)
  have lz : zs.length = ps.length := by simp [zs, hlw]
  have P := PairArg.list (prog := X.prog) (w := X.w) l (ps.map fun p => Value.ref p.1).toArray Ts ws
  have okp : PlainSeq "list" s.heap l (ps.map fun p => Value.ref p.1).toArray ∧ PairItems s.heap (ps.map fun p => Value.ref p.1).toArray Ts ws := by
    refine ⟨⟨_, n, ho, rfl, rfl, rfl⟩, by simp [hlw], fun j k v e => ?_⟩
    obtain ⟨p, g1, g3, g4, g5⟩ := paired_at pw e
    have eT : Ts j = p.1 := by simp [Ts, g1]
    refine ⟨by simp [eT, g1], ?_⟩
    rw [eT]
    exact .inl g5
  refine call_dict_pairs (knd := mixKind X.prog X.w) (kvs := zs) P (I.ok.hd hc) okp ⟨by rw [lz, hlw], fun i key v e => ?_⟩ (by rw [← hlw]; exact hlen) fun h' tk hd' hk => ?_
  · obtain ⟨p, g1, g3, g4, g5⟩ := paired_at pw e
    refine ⟨p.2.1, ?_, kV_is g3⟩
    simp only [zs, List.getElem?_map]
    rw [show (ps.zip ws)[i]? = some (p, (key, v)) from List.getElem?_zip_eq_some.mpr ⟨g1, e⟩]
    rfl
  · have kt : KV (foldK ps) (merged [] zs) := by
      have go : ∀ {ps : List PrK} {ws : List (Value × Value)}, Paired (fun (p : PrK) (w : Value × Value) => RelV (kV p.2.1) w.1 ∧ RelV p.2.2 w.2 ∧ s.heap.IsTuple p.1 #[w.1, w.2]) ps ws → ∀ {kvs : List (Key × V)} {xs : List (Key × Value)}, KV kvs xs →
          KV (ps.foldl (fun kv p => putK kv p.2.1 p.2.2) kvs) (merged xs ((ps.zip ws).map fun x => (x.1.2.1, x.2.2))) := by
        intro ps ws pw
        induction pw with
        | nil => exact fun k => k
        | cons hr t ih =>
          intro kvs xs k
          exact ih (KV.put k _ hr.2.1)
      exact go pw .nil
    have hle : (foldK ps).length ≤ ps.length := by
      have go : ∀ (ps : List PrK) (kvs : List (Key × V)), (ps.foldl (fun kv p => putK kv p.2.1 p.2.2) kvs).length ≤ kvs.length + ps.length := by
        intro ps
        induction ps with
        | nil => exact fun _ => Nat.le_refl _
        | cons p ps ih =>
          intro kvs
          have h1 := ih (putK kvs p.2.1 p.2.2)
          have h2 := length_putK kvs p.2.1 p.2.2
          rw [List.foldl_cons, List.length_cons]
          omega
      have := go ps []
      unfold foldK
      simpa using this
    have hn := I.hok.fresh (Nat.le_refl s.heap.objs.size)
    refine ⟨.ref s.heap.objs.size, _, I.laid (t' := tk) (o := .dK (foldK ps)) (fun b o e => hk b o (fun z => nomatch z) e) (Nat.le_refl _) ?_, rfl, q _ hn⟩
    exact dk_new (by omega) (beq_eq_false_iff_ne.mpr (Ne.symm (Nat.ne_of_lt I.big))) kt hd'
end
section
variable {X : Cx} {cs : Addr → Option (List Str)}
def pairT (p : (Int × Int) × D) : D := .tup [.tup [.int p.1.1, .int p.1.2], p.2]
def pairK (p : Int × D) : D := .tup [.int p.1, p.2]
def dictT (ps : List ((Int × Int) × D)) : List (List Key × D) := ps.foldl (fun kv p => putP kv [.inl p.1.1, .inl p.1.2] p.2) []
def dictK (ps : List (Int × D)) : List (Key × D) := ps.foldl (fun kv p => putP kv (.inl p.1) p.2) []
/-- dict(xs), xs a list of pairs -/
def rDictT : List D → HD → QD → Prop := fun xs H Q => match xs with
  | [.ref l] => ∃ ps : List ((Int × Int) × D), H l = some (.lst (ps.map pairT)) ∧ ∀ q, H q = none → Q (.ref q) (upD H q (.dT (dictT ps)))
  | _ => False
def rDictK : List D → HD → QD → Prop := fun xs H Q => match xs with
  | [.ref l] => ∃ ps : List (Int × D), H l = some (.lst (ps.map pairK)) ∧ ∀ q, H q = none → Q (.ref q) (upD H q (.dK (dictK ps)))
  | _ => False
theorem call_dictTG (hc : X.calm = true) (hu : X.A.units + 65 < cLine) : CallD X cs (.type "dict") rDictT := by
  refine ⟨_, call_dict_listT hc (by omega), fun H Hd ds vs Qd Q rh rd h k => ?_⟩
  match ds, h with
  | [.ref l], h =>
    obtain ⟨v, rfl, r⟩ := rd.one_
    cases r
    obtain ⟨ps, e, h⟩ := h
    obtain ⟨ws, g, r1⟩ := rh _ _ e
    obtain ⟨qs, e1, e2, e3⟩ : ∃ qs : List PrT, ws = qs.map (fun p => V.ref p.1) ∧ (∀ p ∈ qs, H p.1 = some (.tup [.ref p.2.1, p.2.2.2]) ∧ H p.2.1 = some (.tup (p.2.2.1.map kV))) ∧ ∀ {kd : List (List Key × D)} {kv : List (List Key × V)}, RKV X.K H kd kv →
        RKV X.K H (ps.foldl (fun kv p => putP kv [.inl p.1.1, .inl p.1.2] p.2) kd) (qs.foldl (fun kv p => putK kv p.2.2.1 p.2.2.2) kv) := by
      clear e h g
      induction ps generalizing ws with
      | nil => cases r1; exact ⟨[], rfl, fun _ z => (nomatch z), fun k => k⟩
      | cons p ps ih =>
        cases r1 with
        | cons r t =>
          obtain ⟨qs, e1, e2, e3⟩ := ih _ t
          obtain ⟨a, us, rfl, ha, ru⟩ := RD.tupV (ds := [.tup [.int p.1.1, .int p.1.2], p.2]) r
          obtain ⟨x, y, rfl, rx, ry⟩ := ru.two_
          obtain ⟨b, vs, rfl, hb, rv⟩ := rx.tupV
          obtain ⟨x1, x2, rfl, rx1, rx2⟩ := rv.two_
          rw [rx1.intV, rx2.intV] at hb
          refine ⟨(a, b, [.inl p.1.1, .inl p.1.2], y) :: qs, by rw [e1]; rfl, fun z hz => ?_, fun k => e3 (put_ok ry k)⟩
          rcases List.mem_cons.mp hz with rfl | hz
          · exact ⟨ha, hb⟩
          · exact e2 z hz
    refine ⟨l, qs, rfl, by rw [g, e1], e2, fun q hq => k _ _ _ _ (.new hq) (rh.new (c := .dT (dictT ps)) hq ⟨_, upd_same, RKV.ext (.new hq) (e3 .nil)⟩) .ref (h q (rh.free hq))⟩
theorem call_dictKG (hc : X.calm = true) : CallD X cs (.type "dict") rDictK := by
  refine ⟨_, call_dict_listK hc, fun H Hd ds vs Qd Q rh rd h k => ?_⟩
  match ds, h with
  | [.ref l], h =>
    obtain ⟨v, rfl, r⟩ := rd.one_
    cases r
    obtain ⟨ps, e, h⟩ := h
    obtain ⟨ws, g, r1⟩ := rh _ _ e
    obtain ⟨qs, e1, e2, e3⟩ : ∃ qs : List PrK, ws = qs.map (fun p => V.ref p.1) ∧ (∀ p ∈ qs, H p.1 = some (.tup [kV p.2.1, p.2.2])) ∧ ∀ {kd : List (Key × D)} {kv : List (Key × V)}, RKV X.K H kd kv →
        RKV X.K H (ps.foldl (fun kv p => putP kv (.inl p.1) p.2) kd) (qs.foldl (fun kv p => putK kv p.2.1 p.2.2) kv) := by
      clear e h g
      induction ps generalizing ws with
      | nil => cases r1; exact ⟨[], rfl, fun _ z => (nomatch z), fun k => k⟩
      | cons p ps ih =>
        cases r1 with
        | cons r t =>
          obtain ⟨qs, e1, e2, e3⟩ := ih _ t
          obtain ⟨a, us, rfl, ha, ru⟩ := RD.tupV (ds := [.int p.1, p.2]) r
          obtain ⟨x, y, rfl, rx, ry⟩ := ru.two_
          rw [rx.intV] at ha
          refine ⟨(a, .inl p.1, y) :: qs, by rw [e1]; rfl, fun z hz => ?_, fun k => e3 (put_ok ry k)⟩
          rcases List.mem_cons.mp hz with rfl | hz
          · exact ha
          · exact e2 z hz
    refine ⟨l, qs, rfl, by rw [g, e1], e2, fun q hq => k _ _ _ _ (.new hq) (rh.new (c := .dK (dictK ps)) hq ⟨_, upd_same, RKV.ext (.new hq) (e3 .nil)⟩) .ref (h q (rh.free hq))⟩
theorem u_rDictT {H : HD} {Q : QD} {l : Addr} : rDictT [.ref l] H Q = ∃ ps : List ((Int × Int) × D), H l = some (.lst (ps.map pairT)) ∧ ∀ q, H q = none → Q (.ref q) (upD H q (.dT (dictT ps))) := rfl
theorem u_rDictK {H : HD} {Q : QD} {l : Addr} : rDictK [.ref l] H Q = ∃ ps : List (Int × D), H l = some (.lst (ps.map pairK)) ∧ ∀ q, H q = none → Q (.ref q) (upD H q (.dK (dictK ps))) := rfl
end
end Lt

end
section
set_option Elab.async false
set_option linter.all false
set_option maxRecDepth 100000
set_option maxHeartbeats 3200000
/-! Dl25: l.index(i), l a list of ints. -/
namespace Lt
open PySem PySem.Spec L2 PyProof.Rows
section
variable {X : Cx} {cs : Addr → Option (List Str)}
def rIdx : D → List D → HD → QD → Prop := fun x xs H Q => match x, xs with
  | .ref l, [.int y] => ∃ (ns : List Int) (j : Nat), H l = some (.lst (ns.map D.int)) ∧ ns[j]? = some y ∧ (∀ m, m < j → ns[m]? ≠ some y) ∧ Q (.int (j : Nat)) H
  | _, _ => False
theorem m_index : MtDL X cs "list.index" rIdx := by
  refine ⟨_, mt_index, fun H Hd x xs v vs Qd Q rh rx rxs h k => ?_⟩
  match x, xs, h with
  | .ref l, [.int y], h =>
    cases rx
    obtain ⟨w, rfl, ry⟩ := rxs.one_
    cases ry
    obtain ⟨ns, j, e, h1, h2, h⟩ := h
    obtain ⟨ws, g, r⟩ := rh _ _ e
    have ew : ws = ns.map V.int := r.intsV
    subst ew
    refine ⟨l, ns.map V.int, .int y, j, .int y, rfl, rfl, SqL.of g, rfl, ?_, ?_, ?_, fun m z' hm hz => ?_, k _ _ _ _ (.refl H) rh .int h⟩
    · rw [List.all_map, List.all_eq_true]; intro _ _; rfl
    · rw [List.getElem?_map, h1]; rfl
    · show (y == y) = true
      simp
    · rw [List.getElem?_map] at hz
      cases e2 : ns[m]? with
      | none => rw [e2] at hz; cases hz
      | some a =>
        rw [e2] at hz
        have := Option.some.inj hz
        rw [← this]
        show (a == y) = false
        have hne : a ≠ y := fun z => h2 m hm (by rw [e2, z])
        simpa using hne
theorem u_rIdx {l : Addr} {y : Int} {H : HD} {Q : QD} : rIdx (.ref l) [.int y] H Q = ∃ (ns : List Int) (j : Nat), H l = some (.lst (ns.map D.int)) ∧ ns[j]? = some y ∧ (∀ m, m < j → ns[m]? ≠ some y) ∧ Q (.int (j : Nat)) H := rfl
end
end Lt

end
section
set_option Elab.async false
set_option linter.all false
set_option maxRecDepth 100000
set_option maxHeartbeats 2000000
/-! Dn1: an exception with an own __init__ is made; its context is None. -/
namespace Lt
open PySem PySem.Spec PyProof.Rows L2
theorem pmk_oexN {X : Cx} {e : Expr} {es : List Expr} {ta : TA} {p pos : Pos} {CT : CXT} {x : Str} {C fI : Addr} {k : Nat} {fd : FuncData} {ps : List Str} {sp : Sp} {ds : List Value} {dvs : List V} (T : OexC X.K C) (iC : PySem.W.findIn X.K (.ref C) "__init__" = some (some (.ref fI)))
    (tI : PySem.W.typeIn X.K (.ref fI) = some (.type "function")) (F1 : FnOk X.prog X.w X.K X.mg X.base CT k fI fd ps sp) (room : Room (k + 1) X.A) (bd : Binds X.K fd ps ds) (dv : Vals dvs ds) (pass : Passes CT X (fun _ _ _ => False)) (hg : Gl X x)
    (hm : X.mg x = some (.ref C)) (ha : PA X (e :: es) ta) (hdb : (x == ("__debug__" : Str)) = false := by decide) (he : starEach (e :: es) X.env = (false, eval e X.env) :: starEach es X.env := by rfl)
    (hpl : (backTo pos (starEach es X.env)).any (·.1) = false := by rfl) : L2N.PMk X (.Call (.Name x p) (e :: es) [] pos) (tMkO C sp dvs ta) := by
  intro pins st0 σ H Q I want
  obtain ⟨_, _, _, _, bm, _, _, _, _, _, _, _, _, _, _, atC, refs⟩ := T.cls
  refine wpAny_Call_Name_kw (ld_glob I hg hm ?_ hdb)
  refine PySem.W.callWith_K (h₀ := X.base) I.ok.mod.kin T.kC (thn (ha.run pos pins st0 σ H _ I want) fun us s1 ⟨vs, H1, I1, r1, few, q1⟩ => ⟨I1.kIn, ?_⟩) he hpl
  show wpAny (model X.prog X.w) _ (call (.ref C) us) _ _ _
  obtain ⟨hp, g, dr, tk, os⟩ := s1
  have le1 : hp.objs.size ≤ hp.objs.size + 1 := Nat.le_succ _
  have free1 : H1 (hp.objs.size + 1) = none := I1.hok.fresh le1
  have promise := q1 (hp.objs.size + 1) free1
  have keeps : ∀ b o, hp.get? b = some o → ((hp.push (PySem.W.kdv_tup us)).push (PySem.HandSPX.excO C hp.objs.size)).get? b = some o := fun b o z => Heap.get?_push_of_some _ (Heap.get?_push_of_some _ z)
  have there : ((hp.push (PySem.W.kdv_tup us)).push (PySem.HandSPX.excO C hp.objs.size)).get? (hp.objs.size + 1) = some (PySem.HandSPX.excO C hp.objs.size) := by heap_get
  have I2 : Inv X pins σ (upd H1 (hp.objs.size + 1) (exo (hp.objs.size + 1) C none)) ⟨(hp.push (PySem.W.kdv_tup us)).push (PySem.HandSPX.excO C hp.objs.size), g, dr, tk, os⟩ :=
    I1.laid (t' := tk) (h' := (hp.push (PySem.W.kdv_tup us)).push (PySem.HandSPX.excO C hp.objs.size)) (a := hp.objs.size + 1) (o := exo (hp.objs.size + 1) C none) keeps le1 (exo_ok there)
  have rv2 : Vals (V.ref (hp.objs.size + 1) :: (vs ++ dvs)) (Value.ref (hp.objs.size + 1) :: (us ++ ds)) := .cons rfl (r1.append dv)
  have len2 : (Value.ref (hp.objs.size + 1) :: us ++ ds).length = ps.length := by
    have z := rv2.length
    rw [F1.len _ _ _ _ promise] at z
    exact z.symm
  have fits : us.length ≤ sizeLine := by
    rw [← Paired.length r1, sizeLine_eq]
    omega
  have ran := F1.run _ X.stack _ _ ⟨Value.ref (hp.objs.size + 1) :: us, []⟩ (Value.ref (hp.objs.size + 1) :: (us ++ ds)) _ _ (fun _ _ _ => False) (room.make C us []) (I2.env0.make C us []) (bd _ (Value.ref (hp.objs.size + 1) :: us) I2.kIn len2) rv2 promise
  refine wpAny_call (PySem.HandSPX.call_own F.excBase_ValueError (fun Y => PySem.HandSPX.refsVE_contains Y bm refs) (I1.kIn _ _ atC) (PySem.W.looks_findIn I1.kIn iC) (fun self => PySem.W.bind_fn I1.kIn self tI) fits (codeAny_mono ran fun res s2 h2 => ?_))
  cases res with
  | error ex => exact pass pins σ _ _ ex s2 I2 h2
  | ok fl =>
    cases fl with
    | next => exact h2.elim
    | brk => exact h2.elim
    | cont => exact h2.elim
    | ret u =>
      obtain ⟨v, H2, os2, bare2, un2, hok2, rv, ev, d, fs, ea, ed, hd1, q2⟩ := h2
      subst ev
      obtain ⟨hp2, g2, dr2, tk2, os3⟩ := s2
      obtain ⟨t0, G, J, kG, ge, hoe, na⟩ := mk_end0 (d2 := dr2) (t2 := tk2) I1 le1 keeps un2 hok2 os2 bare2 ea ed hd1
      refine ⟨rv, hp.objs.size + 1, _, _, ⟨G, g2, dr2, tk2, os3⟩, _, .ref C, some d, rfl, J, kG, ge, hoe, ⟨rfl, rfl, fun ws hw => ?_⟩, rfl, rfl, na, rfl, bare2, raises_own T.exC T.tyC, q2⟩
      cases hw
      rfl
end Lt

end
section
set_option Elab.async false
set_option linter.all false
set_option maxRecDepth 100000
set_option maxHeartbeats 3200000
/-! Dl26: refusals with an own __init__ (raise), try .. except C as e, e.f in the suite. -/
namespace Lt
open PySem PySem.Spec L2
/-! ### the class in the middle: its __init__ is ValueError's -/
structure XcW (K : PySem.W.Frag) (W : Addr) : Prop where
  gm : PySem.W.specialIn K (.ref W) "__getattribute__" = some (some (.builtin "type.__getattribute__"))
  rd : PySem.W.readsIn K W (.type "type") = true
  fi : PySem.W.findCls K (.ref W) (.type "type") "__init__" = some (.val (.builtin "ValueError.__init__"))
section
variable {X : Cx} {o e : Expr} {es : List Expr} {to te : TE} {ta : TA} {f : Str} {p p' p1 p2 pos : Pos}
theorem pe_winit {x : Str} {W : Addr} {pl : Sem Bool} (hm : X.mg x = some (.ref W)) (F : XcW X.K W) (ha : PA X (e :: es) ta) (hg : Gl X x := by rfl) (hdb : (x == ("__debug__" : Str)) = false := by decide)
    (hc : eval (.Call (.Attribute (.Name x p1) "__init__" p2) (e :: es) [] pos) X.env = (do
      let ov ← eval (.Name x p1) X.env
      standAt p2.atName
      let (f, first) ← holding [ov] (getMethod ov "__init__" pl)
      callWith pos f first (backTo pos (starEach (e :: es) X.env)) (backToKw pos (keywordEach [] X.env))) := by rfl)
    (he : starEach (e :: es) X.env = (false, eval e X.env) :: starEach es X.env := by rfl) (hpl : (backTo pos (starEach es X.env)).any (·.1) = false := by rfl) :
    PE X (.Call (.Attribute (.Name x p1) "__init__" p2) (e :: es) [] pos) (tVeI X.K ta) := by
  refine ⟨fun pins s σ H Q I h => ?_⟩
  refine PySem.W.methodCall_KW (ld_glob I hg hm ?_ hdb) hc
  refine PySem.W.method_cls I.kIn F.gm ?_
  refine PySem.W.cls_value I.kIn F.rd F.fi (by decide +kernel) ?_
  show wpAny _ _ (callWith pos (Value.builtin "ValueError.__init__") [] (backTo pos (starEach (e :: es) X.env)) []) _ _ _
  refine PyProof.Rows.callWith_method1 (thn (ha.run pos pins _ σ H _ (I.tok _) h) fun us s1 ⟨vs, H1, I1, r1, a, C, ws, ev, hl, T, ea, q⟩ => ?_) he hpl
  subst ev
  cases r1 with
  | @cons _ u0 _ ur ra rw' =>
    obtain rfl : u0 = Value.ref a := ra
    have hlen : ur.length ≤ sizeLine := by
      rw [← Paired.length rw', sizeLine_eq]
      omega
    exact oinit_ok T I1 ea hlen fun s' J => ⟨.non, H1, J, rfl, q⟩
end
/-! ### the own __init__ of a refusal -/
/-- what is told of the class: its __init__ is the def at f, its attributes are nm (in their order) -/
structure XcI (K : PySem.W.Frag) (C f : Addr) (nm : List Str) : Prop where
  oex : OexC K C
  iC : PySem.W.findIn K (.ref C) "__init__" = some (some (.ref f))
  tI : PySem.W.typeIn K (.ref f) = some (.type "function")
  nof : ∀ x ∈ nm, PySem.W.findIn K (.ref C) x = some none
/-- a heap of exceptions: C's attributes by their names, the last one first -/
def xAt (H : Hp) (a C d : Addr) : List (Str × V) → Hp
  | [] => H
  | [q] => upd (upd H d (exd d [q])) a (exo a C (some d))
  | q :: r => upd (xAt H a C d r) d (exd d (q :: r))
/-- what such an __init__ promises -/
def spXi (C : Addr) (nm : List Str) : Sp := fun vs H Q _ => ∃ (a : Addr) (ys : List V), vs = .ref a :: ys ∧ ys.length = nm.length ∧ H a = some (exo a C none) ∧ ∀ d, H d = none → d ≠ a → Q .non (xAt H a C d ((nm.zip ys).reverse))
/-- such a def as it is known -/
structure DfX (P : Program) (w : World) (K : PySem.W.Frag) (mg : Str → Option Value) (base : Heap) (k : Nat) (f C : Addr) (nm : List Str) : Prop where
  ok : ∃ fd ps, FnOk P w K mg base (L2N.CX P w) k f fd ps (spXi C nm) ∧ Binds K fd ps []
theorem upd_upd {H : Hp} {a : Addr} {o u : HO} : upd (upd H a o) a u = upd H a u := by
  funext b
  by_cases e : b = a
  · subst e; rw [upd_same, upd_same]
  · rw [upd_ne e, upd_ne e, upd_ne e]
theorem xAt_a {H : Hp} {a C d : Addr} (ne : d ≠ a) : ∀ {fs : List (Str × V)}, fs ≠ [] → xAt H a C d fs a = some (exo a C (some d))
  | [], h => (h rfl).elim
  | [q], _ => upd_same
  | q :: q2 :: r, _ => by
    show upd (xAt H a C d (q2 :: r)) d _ a = _
    rw [upd_ne ne.symm]
    exact xAt_a ne (by simp)
theorem xAt_d {H : Hp} {a C d : Addr} (ne : d ≠ a) : ∀ {fs : List (Str × V)}, fs ≠ [] → xAt H a C d fs d = some (exd d fs)
  | [], h => (h rfl).elim
  | [q], _ => by
    show upd (upd H d _) a _ d = _
    rw [upd_ne ne, upd_same]
  | q :: q2 :: r, _ => upd_same
theorem xAt_o {H : Hp} {a C d b : Addr} (na : b ≠ a) (nd : b ≠ d) : ∀ {fs : List (Str × V)}, xAt H a C d fs b = H b
  | [] => rfl
  | [q] => by
    show upd (upd H d _) a _ b = _
    rw [upd_ne na, upd_ne nd]
  | q :: q2 :: r => by
    show upd (xAt H a C d (q2 :: r)) d _ b = _
    rw [upd_ne nd]
    exact xAt_o na nd
theorem xAt_end {H : Hp} {a C d : Addr} {fs : List (Str × V)} (ha : H a = none) (ne : d ≠ a) (o : HO) : upd (del (xAt (upd H a (exo a C none)) a C d fs) a) d o = upd H d o := by
  funext b
  by_cases e : b = d
  · subst e; rw [upd_same, upd_same]
  · rw [upd_ne e, upd_ne e]
    by_cases ea : b = a
    · subst ea; rw [del_same, ha]
    · rw [del_ne ea, xAt_o ea e, upd_ne ea]
/-- the transformers of the two bodies -/
def tXi2 (K : PySem.W.Frag) (f1 f2 : Str) : TS := L2.tSeq (L2.tDrop (tVeI K (L2.tCons (L2.tVar 0) (L2.tCons (L2.tVar 1) L2.tNil)))) (L2.tSeq (tOst K f1 (L2.tVar 0) (L2.tVar 1)) (tOst K f2 (L2.tVar 0) (L2.tVar 2)))
def tXi1 (K : PySem.W.Frag) (m f1 : Str) : TS := L2.tSeq (L2.tDrop (tVeI K (L2.tCons (L2.tVar 0) (L2.tCons (L2.tC (.str m)) L2.tNil)))) (tOst K f1 (L2.tVar 0) (L2.tVar 1))
theorem xi_two {K : PySem.W.Frag} {C a : Addr} {f1 f2 : Str} {y z : V} {H : Hp} {Q : VK} (ox : OexC K C) (h1 : PySem.W.findIn K (.ref C) f1 = some none) (h2 : PySem.W.findIn K (.ref C) f2 = some none) (e : H a = some (exo a C none))
    (q : ∀ d, H d = none → d ≠ a → Q .non (xAt H a C d [(f2, z), (f1, y)])) : tXi2 K f1 f2 { nx := fun _ H' => Q .non H', rt := Q } [some (.ref a), some y, some z] H := by
  refine ⟨_, rfl, _, rfl, a, C, [y], rfl, by simp, ox, e, ?_⟩
  refine ⟨_, rfl, _, rfl, a, C, rfl, ox, h1, .inl ⟨e, fun d n ne => ?_⟩⟩
  refine ⟨_, rfl, _, rfl, a, C, rfl, ox, h2, .inr ⟨d, [(f1, y)], upd_same, ?_, by simp, q d n ne⟩⟩
  rw [upd_ne ne, upd_same]
theorem xi_one {K : PySem.W.Frag} {C a : Addr} {f1 m : Str} {y : V} {H : Hp} {Q : VK} (ox : OexC K C) (h1 : PySem.W.findIn K (.ref C) f1 = some none) (e : H a = some (exo a C none))
    (q : ∀ d, H d = none → d ≠ a → Q .non (xAt H a C d [(f1, y)])) : tXi1 K m f1 { nx := fun _ H' => Q .non H', rt := Q } [some (.ref a), some y] H := by
  refine ⟨_, rfl, a, C, [.str m], rfl, by simp, ox, e, ?_⟩
  exact ⟨_, rfl, _, rfl, a, C, rfl, ox, h1, .inl ⟨e, fun d n ne => q d n ne⟩⟩
section
variable {P : Program} {w : World} {K : PySem.W.Frag} {mg : Str → Option Value} {base : Heap}
theorem dfx_of {x qual : Str} {st : Stmt} {f C : Addr} {N ps nm : List Str} {k : Nat} (F : FB K x qual st f ps) (S : FnScope N ps (defScope st)) (hl : ps.length = nm.length + 1) (hN : N.length = ps.length)
    (hbody : ∀ (cdv : Value) (A : Around) (outer : List Env) (s : Shared) (H : Hp) (E : XK) (f : Addr),
      ∃ t, PSs (cxOf (L2N.CX P w) P w K mg base N qual (defScope st) f cdv A outer s H E) (defBody st) t ∧ ∀ (a : Addr) (ys : List V) (Q : VK), ys.length = nm.length → H a = some (exo a C none) →
        (∀ d, H d = none → d ≠ a → Q .non (xAt H a C d ((nm.zip ys).reverse))) → t { nx := fun _ H' => Q .non H', rt := Q } ((V.ref a :: ys).map some) H) : DfX P w K mg base (k + 1) f C nm := by
  obtain ⟨fd, F, b⟩ := F
  refine ⟨fd, ps, fun_okN F S (fun vs H Q E h => ?_) (fun cdv A outer s H vs Q E hr h => ?_), b⟩
  · obtain ⟨a, ys, rfl, e, _⟩ := h
    rw [List.length_cons, e, hl]
  · obtain ⟨a, ys, rfl, e, ea, q⟩ := h
    obtain ⟨t, ht, k⟩ := hbody cdv A outer s H E f
    refine ⟨t, ht, ?_⟩
    have := k a ys Q e ea q
    have en : L2.start N (V.ref a :: ys) = (V.ref a :: ys).map some := by
      unfold L2.start
      rw [hN, hl, List.length_cons, e, Nat.sub_self]
      simp
    rw [en]
    exact this
end
/-! ### raise C(e, ..) -/
section
variable {X : Cx} {cs : Addr → Option (List Str)}
def sRaiI (C : Addr) (nm : List Str) (wd : WD) (t : TAD) : TSD := fun _ ρ H => t ρ H fun ds H1 => ds.length = nm.length ∧ wd C ((nm.zip ds).reverse) ρ H1
theorem rkv_zip {K : PySem.W.Frag} {H : Hp} : ∀ {nm : List Str} {ds : List D} {vs : List V}, RDs K H ds vs → RKV K H (nm.zip ds) (nm.zip vs)
  | [], _, _, _ => Paired.nil
  | _ :: _, [], _, .nil => Paired.nil
  | _ :: _, _ :: _, _ :: _, .cons r t => Paired.cons ⟨rfl, r⟩ (rkv_zip t)
theorem paired_app {α β : Type} {R : α → β → Prop} : ∀ {xs xs' : List α} {ys ys' : List β}, Paired R xs ys → Paired R xs' ys' → Paired R (xs ++ xs') (ys ++ ys')
  | _, _, _, _, .nil, h => h
  | _, _, _, _, .cons h t, h2 => .cons h (paired_app t h2)
theorem paired_rev {α β : Type} {R : α → β → Prop} : ∀ {xs : List α} {ys : List β}, Paired R xs ys → Paired R xs.reverse ys.reverse
  | _, _, .nil => .nil
  | _, _, .cons h t => by
    rw [List.reverse_cons, List.reverse_cons]
    exact paired_app (paired_rev t) (.cons h .nil)
theorem psd_raiI {W : WX} {wd : WD} {C f : Addr} {nm : List Str} {x : Str} {k : Nat} {e : Expr} {es : List Expr} {t : TAD} {p pos pos' : Pos} (hc : X.calm = true) (wl : Wish X cs W wd) (F : XcI X.K C f nm) (D1 : DfX X.prog X.w X.K X.mg X.base k f C nm) (hr : Room (k + 1) X.A)
    (gC : X.mg x = some (.ref C)) (ha : PAD X cs (e :: es) t) (hnm : nm.length ≤ 1000 := by decide) (hnm0 : nm ≠ [] := by decide) (hg : Gl X x := by rfl) (hdb : (x == ("__debug__" : Str)) = false := by decide)
    (he : starEach (e :: es) X.env = (false, eval e X.env) :: starEach es X.env := by rfl) (hpl : (backTo pos (starEach es X.env)).any (·.1) = false := by rfl) :
    PSD X cs (.Raise (some (.Call (.Name x p) (e :: es) [] pos)) none pos') (sRaiI C nm wd t) := by
  obtain ⟨fd, ps, F1, hb⟩ := D1
  refine ⟨⟨fun pins s σ H D I h => (L2N.ps_raise hc wl.tk (pmk_oexN (dvs := []) (ds := []) F.oex F.iC F.tI F1 hr hb .nil (L2N.passes_call wl.tk fun _ _ _ _ z => z.elim) hg gC ha.pa hdb he hpl)).run pins s σ H D I ?_⟩⟩
  obtain ⟨ρ, Hd, Dd, rs, rh, h, k1, k2, k3, k4⟩ := h
  refine ⟨ρ, Hd, _, rs, rh, h, fun vs H1 ds Hd1 e1 rh1 rv q => ?_⟩
  obtain ⟨hl, q⟩ := q
  have hlv : vs.length = nm.length := by rw [← rv.length]; exact hl
  refine ⟨by rw [hlv]; exact hnm, fun a ha1 => ⟨a, vs, by rw [List.append_nil], hlv, upd_same, fun d hd hda => ?_⟩⟩
  rw [upd_ne hda] at hd
  have nn : (nm.zip vs).reverse ≠ [] := by
    intro z
    have z2 := congrArg List.length z
    rw [List.length_reverse, List.length_zip, hlv, Nat.min_self] at z2
    exact hnm0 (List.length_eq_zero_iff.mp z2)
  refine ⟨rfl, d, _, xAt_a hda nn, xAt_d hda nn, hd, ?_⟩
  rw [xAt_end ha1 hda]
  have x1 : TupX H1 (upd H1 d (.xd (nm.zip vs).reverse)) := .new hd
  refine wl.lk C _ (some d) σ ρ _ Hd1 (((Inv.tupX I).trans e1).trans x1) (rs.ext (e1.trans x1)) (rh1.newT hd) (.inr ⟨d, _, rfl, upd_same, ?_, rh1.free hd⟩) q
  exact RKV.ext x1 (paired_rev (rkv_zip rv))
end
/-! ### a call that may raise, its wish bound at the start -/
def LkAt (K : PySem.W.Frag) (cs : Addr → Option (List Str)) (H : Hp) (σ : L2.St) (W : WX) (wd : WD) : Prop := ∀ C fs d ρ' H' Hd', TupX H H' → RelS K H' ρ' σ → RelH ⟨K, cs⟩ H' Hd' → XRel ⟨K, cs⟩ H' Hd' d fs → wd C fs ρ' Hd' → W (.ref C) d σ H'
def lfX (K : PySem.W.Frag) (cs : Addr → Option (List Str)) (W : WX) (t : WD → TED) : TE := fun σ H Q => ∃ wd ρ Hd Qd, RelS K H ρ σ ∧ RelH ⟨K, cs⟩ H Hd ∧ t wd ρ Hd Qd ∧ To ⟨K, cs⟩ H Qd Q ∧ LkAt K cs H σ W wd
structure PXD (X : Cx) (cs : Addr → Option (List Str)) (e : Expr) (t : WD → TED) : Prop where
  px : ∀ W : WX, L2N.Takes X W → PE X e (lfX X.K cs W t)
section
variable {X : Cx} {cs : Addr → Option (List Str)} {e : Expr} {pos : Pos}
theorem px_call {k : Nat} {f : Addr} {sp : SpD} {t : TAD} {x : Str} {p : Pos} {es : List Expr} (F : Df X.prog X.w X.K X.mg X.base cs k f sp) (hr : Room k X.A) (hm : X.mg x = some (.ref f)) (ha : PAD X cs (e :: es) t) (hg : Gl X x := by rfl)
    (hdb : (x == ("__debug__" : Str)) = false := by decide) (he : starEach (e :: es) X.env = (false, eval e X.env) :: starEach es X.env := by rfl) (hpl : (backTo pos (starEach es X.env)).any (·.1) = false := by rfl) :
    PXD X cs (.Call (.Name x p) (e :: es) [] pos) (fun wd => tCal sp wd t) := by
  refine ⟨fun W tk => ⟨fun pins s σ H Q I h => ?_⟩⟩
  obtain ⟨wd, ρ, Hd, Qd, rs, rh, h, k, lk⟩ := h
  obtain ⟨⟨fd, ps, F, hb⟩, kp⟩ := F
  refine wpAny_Call_Name_kw (ld_glob I hg hm ?_ hdb)
  refine PySem.W.callWith_K (h₀ := X.base) I.ok.mod.kin kp (thn (ha.pa.run pos pins s σ H (fun vs H1 => ∃ ds Hd1, TupX H H1 ∧ RelH ⟨X.K, cs⟩ H1 Hd1 ∧ RDs X.K H1 ds vs ∧ sp ds Hd1 Qd fun C fs Hx => wd C fs ρ Hx) I
    ⟨ρ, Hd, _, rs, rh, h, fun vs H1 ds Hd1 e1 rh1 rd h1 => ⟨ds, Hd1, e1, rh1, rd, h1⟩⟩) fun us s1 ⟨vs, H1, I1, r, ds, Hd1, e1, rh1, rd, q⟩ => ⟨I1.kIn, ?_⟩) he hpl
  refine run_fnS (E := WE W) F hr hb (L2N.passAt tk σ) I1 r ⟨ds, Hd1, Qd, _, rd, rh1, q, k.ext e1, fun C fs H' Hd' d e' rh' xr q' => ?_⟩
  exact lk C fs d ρ H' Hd' (e1.trans e') (rs.ext (e1.trans e')) rh' xr q'
theorem run_mkX {W : WX} {wd : WD} {k : Nat} {f C : Addr} {sp : SpD} {pins : List (Addr × Obj)} {σ : L2.St} {H : Hp} {s : Shared} {Q : VK} {us : List Value} {vs : List V} {ρ : StD} {Hd : HD} {ds : List D} {Qd : QD} {ord : List Str} (hC : cs C = some ord) (M : Mk X.K C f) (F : Df X.prog X.w X.K X.mg X.base cs k f sp) (hr : Room (k + 1) X.A) (tk : L2N.Takes X W) (lk : LkAt X.K cs H σ W wd)
    (I : Inv X pins σ H s) (r : Vals vs us) (rs : RelS X.K H ρ σ) (rd : RDs X.K H ds vs) (rh : RelH ⟨X.K, cs⟩ H Hd) (h : ∀ x, Hd x = none → sp (.ref x :: ds) (upD Hd x (.ins C [])) (fun d H2 => isNon d = true ∧ Qd (.ref x) H2) fun C fs Hx => wd C fs ρ Hx) (k : To ⟨X.K, cs⟩ H Qd Q) :
    wpAny (model X.prog X.w) X.A (call (.ref C) us) (EP X pins σ Q) X.xe s := by
  obtain ⟨⟨fd, ps, F, hb⟩, _⟩ := F
  have n1 := I.hok.fresh (Nat.le_succ s.heap.objs.size)
  have n2 := I.hok.fresh (Nat.le_refl s.heap.objs.size)
  have ne : s.heap.objs.size ≠ s.heap.objs.size + 1 := Nat.ne_of_lt (Nat.lt_succ_self _)
  have I2 := Inv.made (C := C) I
  have x1 : TupX H (upd H s.heap.objs.size (.own (s.heap.objs.size + 1))) := .new n2
  have n1' : upd H s.heap.objs.size (.own (s.heap.objs.size + 1)) (s.heap.objs.size + 1) = none := by rw [upd_ne (Ne.symm ne)]; exact n1
  have x2 : TupX (upd H s.heap.objs.size (.own (s.heap.objs.size + 1))) (upd (upd H s.heap.objs.size (.own (s.heap.objs.size + 1))) (s.heap.objs.size + 1) (.ins C s.heap.objs.size [])) := .new n1'
  have x12 := x1.trans x2
  have rh2 : RelH ⟨X.K, cs⟩ (upd (upd H s.heap.objs.size (.own (s.heap.objs.size + 1))) (s.heap.objs.size + 1) (.ins C s.heap.objs.size [])) (upD Hd (s.heap.objs.size + 1) (.ins C [])) :=
    (rh.newT n2).new (c := .ins C []) n1' ⟨ord, s.heap.objs.size, [], hC, Nat.zero_le _, .nil, by rw [upd_same]; rfl⟩
  have hq : lfSp ⟨X.K, cs⟩ sp (.ref (s.heap.objs.size + 1) :: vs) (upd (upd H s.heap.objs.size (.own (s.heap.objs.size + 1))) (s.heap.objs.size + 1) (.ins C s.heap.objs.size [])) (fun v H2 => v = .non ∧ Q (.ref (s.heap.objs.size + 1)) H2) (WE W σ) := by
    refine ⟨.ref (s.heap.objs.size + 1) :: ds, _, _, _, .cons .ref (rd.ext x12), rh2, h _ (rh.free n1), fun v H' d Hd' e rh' rv q => ?_, fun C fs H' Hd' d e rh' xr q => ?_⟩
    · obtain ⟨q1, q2⟩ := q
      cases d with
      | non =>
        cases rv
        exact ⟨rfl, k _ H' _ Hd' (x12.trans e) rh' .ref q2⟩
      | _ => cases q1
    · exact lk C fs d ρ H' Hd' (x12.trans e) (rs.ext (x12.trans e)) rh' xr q
  have r2 : Vals (V.ref (s.heap.objs.size + 1) :: vs) (Value.ref (s.heap.objs.size + 1) :: us) := .cons rfl r
  have hl : (Value.ref (s.heap.objs.size + 1) :: us).length = ps.length := by
    have e := r2.length
    rw [F.len _ _ _ _ hq] at e
    exact e.symm
  have b := hb { s with heap := _ } (Value.ref (s.heap.objs.size + 1) :: us) I2.kIn (by rw [List.append_nil]; exact hl)
  rw [List.append_nil] at b
  refine wpAny_call (make_map (f := f) I.kIn M.makes M.init (beq_iff_eq.mp M.fn) (codeAny_mono (F.run _ X.stack _ _ ⟨Value.ref (s.heap.objs.size + 1) :: us, []⟩ (Value.ref (s.heap.objs.size + 1) :: us) _ _ (WE W σ) (hr.make C us [])
    (I2.env0.make C us []) b r2 hq) fun r s' hq' => ?_))
  cases r with
  | error e => exact L2N.passAt tk σ pins _ _ e s' I2 hq'
  | ok fl =>
    cases fl with
    | ret u =>
      obtain ⟨v, H', I3, rv, ev, q3⟩ := I2.after hq'
      subst ev
      exact ⟨rv, ⟨V.ref (s.heap.objs.size + 1), H', I3, rfl, q3⟩⟩
    | next => exact False.elim hq'
    | brk => exact False.elim hq'
    | cont => exact False.elim hq'
theorem px_make {k : Nat} {f C : Addr} {sp : SpD} {t : TAD} {x : Str} {p : Pos} {es : List Expr} {ord : List Str} (hC : cs C = some ord) (M : Mk X.K C f) (F : Df X.prog X.w X.K X.mg X.base cs k f sp) (hr : Room (k + 1) X.A) (hm : X.mg x = some (.ref C)) (ha : PAD X cs (e :: es) t) (hg : Gl X x := by rfl)
    (hdb : (x == ("__debug__" : Str)) = false := by decide) (he : starEach (e :: es) X.env = (false, eval e X.env) :: starEach es X.env := by rfl) (hpl : (backTo pos (starEach es X.env)).any (·.1) = false := by rfl) :
    PXD X cs (.Call (.Name x p) (e :: es) [] pos) (fun wd => tMak C sp wd t) := by
  refine ⟨fun W tk => ⟨fun pins s σ H Q I h => ?_⟩⟩
  obtain ⟨wd, ρ, Hd, Qd, rs, rh, h, k, lk⟩ := h
  refine wpAny_Call_Name_kw (ld_glob I hg hm ?_ hdb)
  refine PySem.W.callWith_K (h₀ := X.base) I.ok.mod.kin M.kp (thn (ha.pa.run pos pins s σ H (fun vs H1 => ∃ ds Hd1, TupX H H1 ∧ RelH ⟨X.K, cs⟩ H1 Hd1 ∧ RDs X.K H1 ds vs ∧ ∀ x, Hd1 x = none → sp (.ref x :: ds) (upD Hd1 x (.ins C [])) (fun d H2 => isNon d = true ∧ Qd (.ref x) H2) fun C fs Hx => wd C fs ρ Hx) I
    ⟨ρ, Hd, _, rs, rh, h, fun vs H1 ds Hd1 e1 rh1 rd h1 => ⟨ds, Hd1, e1, rh1, rd, h1⟩⟩) fun us s1 ⟨vs, H1, I1, r, ds, Hd1, e1, rh1, rd, q⟩ => ⟨I1.kIn, ?_⟩) he hpl
  have lk1 : LkAt X.K cs H1 σ W wd := fun C fs d ρ' H' Hd' e' => lk C fs d ρ' H' Hd' (e1.trans e')
  exact run_mkX hC M F hr tk lk1 I1 r (rs.ext e1) rd rh1 q (k.ext e1)
end
/-! ### try: e; rest, except C0 as n: suite -/
/-- the heap with the exception's attributes -/
def XHd (Hd : HD) (d : Option Addr) (fs : List (Str × D)) (Hd1 : HD) : Prop := (fs = [] ∧ d = none ∧ Hd1 = Hd) ∨ ∃ dd, d = some dd ∧ Hd dd = none ∧ Hd1 = upD Hd dd (.xd fs)
/-- what the try wishes: mt tells which classes are caught -/
def WdT (mt : List (Addr × Bool)) (i : Nat) (ts : Addr → Addr → Option Addr → TSD) (wdo : WD) (D : EndsD) : WD := fun C fs ρ Hd => ∃ b, (C, b) ∈ mt ∧ (b = true → ∀ a d Hd1, Hd a = none → XHd Hd d fs Hd1 →
    ts a C d { nx := fun ρ' H' => D.nx (ρ'.set i none) H', rt := D.rt, bk := fun ρ' H' => D.bk (ρ'.set i none) H', ct := fun ρ' H' => D.ct (ρ'.set i none) H' } (ρ.set i (some (.ref a))) Hd1) ∧ (b = false → wdo C fs ρ Hd)
def sTry (te : WD → TED) (tb : TSD) (mt : List (Addr × Bool)) (i : Nat) (ts : Addr → Addr → Option Addr → TSD) (wdo : WD) : TSD := fun D ρ H => te (WdT mt i ts wdo D) ρ H fun _ H1 => tb D ρ H1
section
variable {X : Cx} {cs : Addr → Option (List Str)}
def lfTb (K : PySem.W.Frag) (cs : Addr → Option (List Str)) (te : WD → TED) (tb : TSD) (W : WX) : TS := fun D σ H => lfX K cs W te σ H fun _ H1 => lfS ⟨K, cs⟩ tb D σ H1
theorem psd_try {x n : Str} {C0 : Addr} (i : Nat) {e : Expr} {rest suite : List Stmt} {b₀ : Stmt} {np ep pos pos' : Pos} {te : WD → TED} {tb : TSD} {mt : List (Addr × Bool)} {ts : Addr → Addr → Option Addr → TSD} {Wout : WX} {wdo : WD}
    (wl : Wish X cs Wout wdo) (hN : X.N.Nodup) (gC : X.mg x = some (.ref C0)) (hmt : ∀ q ∈ mt, PySem.W.exmOne X.K (.ref q.1) (.ref C0) = some q.2)
    (he : ∀ (pn : List (Addr × Obj)) (xe : Value → Shared → Prop), PXD (X.tr pn xe) cs e te)
    (hb : ∀ (pn : List (Addr × Obj)) (xe : Value → Shared → Prop), PassesOwn (model X.prog X.w) X.A X.env xe → PSsD (X.tr pn xe) cs rest tb)
    (hsu : ∀ (a : Addr) (oe : Obj) (C : Addr) (d : Option Addr) (pn : List (Addr × Obj)), L2N.Zn (.ref C) d oe → (∃ vs, oe.data = .fields vs) → PSsD (X.suite a ((a, oe) :: pn)) cs (b₀ :: suite) (ts a C d))
    (hi : X.N[i]? = some n := by rfl) (hln : X.env.kindOf n = some .local := by rfl) (hs : X.stack = X.env :: X.outer := by rfl) (hf : X.env.frame = some X.env.locals := by rfl) (hg : Gl X x := by rfl) (hdb : (x == ("__debug__" : Str)) = false := by decide)
    (hsw : swapsWith e none ep.line X.env = pure false := by rfl) :
    PSD X cs (.Try (.Expr e ep :: rest) [.ExceptHandler (some (.Name x np)) (some n) (b₀ :: suite) pos'] [] [] pos) (sTry te tb mt i ts wdo) := by
  have L2try := L2N.ps_try_as (i := i) (np := np) (pos := pos) (pos' := pos') (tb := lfTb X.K cs te tb) (ts := fun a cls d => fun D σ H => ∃ C, cls = .ref C ∧ lfS ⟨X.K, cs⟩ (ts a C d) D σ H) (c := .ref C0) hs hf hN hi hln ⟨hg, hdb, .inl gC⟩ wl.tk
    (body := .Expr e ep :: rest) (b₀ := b₀) (suite := suite)
    (fun W pn xe tk hp => PSs.of (pss_cons (ps_expr ((he pn xe).px W tk) hsw) (hb pn xe hp).ps) fun D σ H h => h)
    (fun a oe cls d pn hz hv => ⟨fun pins s σ H D I h => by
      obtain ⟨C, ec, h⟩ := h
      subst ec
      exact (hsu a oe C d pn hz hv).ps.run pins s σ H D I h⟩)
  refine ⟨⟨fun pins s σ H D I h => L2try.run pins s σ H D I ?_⟩⟩
  obtain ⟨ρ, Hd, Dd, rs, rh, h, k1, k2, k3, k4⟩ := h
  refine ⟨_, ρ, Hd, _, rs, rh, h, fun v H1 y Hd1 e1 rh1 rv q => ?_, fun C fs d ρ' H' Hd' e' rs' rh' xr q => ?_⟩
  · exact ⟨ρ, Hd1, Dd, rs.ext e1, rh1, q, k1.ext e1, k2.ext e1, k3.ext e1, k4.ext e1⟩
  · obtain ⟨b, hm, q1, q2⟩ := q
    refine ⟨b, hmt _ hm, fun eb a ha => ⟨C, rfl, ?_⟩, fun eb => wl.lk C fs d σ ρ' H' Hd' ((Inv.tupX I).trans e') rs' rh' xr (q2 eb)⟩
    have fin : ∀ Hd1, XHd Hd' d fs Hd1 → RelH ⟨X.K, cs⟩ H' Hd1 → lfS ⟨X.K, cs⟩ (ts a C d) { nx := fun σ' H' => D.nx (σ'.set i none) H', rt := D.rt, bk := fun σ' H' => D.bk (σ'.set i none) H', ct := fun σ' H' => D.ct (σ'.set i none) H' } (σ.set i (some (.ref a))) H' := fun Hd1 xh rh1 =>
      ⟨ρ'.set i (some (.ref a)), Hd1, _, rs'.set .ref i, rh1, q1 eb a d Hd1 (rh'.free ha) xh,
        fun σ2 ρ2 H2 Hd2 e2 rh2 rs2 z => k1 _ _ H2 Hd2 (e'.trans e2) rh2 (rs2.none i) z, fun v H2 y Hd2 e2 rh2 rv z => k2 v H2 y Hd2 (e'.trans e2) rh2 rv z,
        fun σ2 ρ2 H2 Hd2 e2 rh2 rs2 z => k3 _ _ H2 Hd2 (e'.trans e2) rh2 (rs2.none i) z, fun σ2 ρ2 H2 Hd2 e2 rh2 rs2 z => k4 _ _ H2 Hd2 (e'.trans e2) rh2 (rs2.none i) z⟩
    rcases xr with ⟨f1, f2⟩ | ⟨dd, vs, ed, hd, rk, hn⟩
    · exact fin Hd' (.inl ⟨f1, f2, rfl⟩) rh'
    · refine fin (upD Hd' dd (.xd fs)) (.inr ⟨dd, ed, hn, rfl⟩) fun b c z => ?_
      by_cases eb2 : b = dd
      · subst eb2
        rw [upD_same] at z
        cases z
        exact ⟨vs, hd, rk⟩
      · rw [upD_ne eb2] at z
        exact rh' b c z
/-- e.f, e the exception that the suite holds -/
def tXfD (a C : Addr) (d : Option Addr) (cl : List Addr) (f : Str) (te : TED) : TED := fun ρ H Q => te ρ H fun x H1 => (match x with
  | .ref a' => a' = a
  | _ => False) ∧ C ∈ cl ∧ ∃ (dd : Addr) (fs : List (Str × D)) (v : D), d = some dd ∧ H1 dd = some (.xd fs) ∧ fs.lookup f = some v ∧ Q v H1
theorem rkv_lookup {K : PySem.W.Frag} {H : Hp} {f : Str} {d : D} : ∀ {fs : List (Str × D)} {vs : List (Str × V)}, RKV K H fs vs → fs.lookup f = some d → ∃ v, vs.lookup f = some v ∧ RD K H d v
  | _, _, .nil, e => nomatch e
  | (g, x) :: r, (g', y) :: r', .cons h t, e => by
    obtain ⟨hk, hr⟩ := h
    have hk' : g = g' := hk
    subst hk'
    rw [List.lookup_cons] at e ⊢
    cases z : (f == g) with
    | true => rw [z] at e; cases e; exact ⟨y, rfl, hr⟩
    | false => rw [z] at e; exact rkv_lookup t e
theorem pd_xfD {a C : Addr} {oe : Obj} {d : Option Addr} {pn : List (Addr × Obj)} {e : Expr} {te : TED} {pos : Pos} {n : Str} {cl : List Addr} (T : ∀ B ∈ cl, XfC X.K B ∧ PySem.W.findIn X.K (.ref B) n = some none)
    (hz : L2N.Zn (.ref C) d oe) (hf : ∃ vs, oe.data = .fields vs) (he : PD (X.suite a ((a, oe) :: pn)) cs e te) (hb : attributeBase e n X.env (eval e X.env) = eval e X.env := by rfl) :
    PD (X.suite a ((a, oe) :: pn)) cs (.Attribute e n pos) (tXfD a C d cl n te) := by
  by_cases hC : C ∈ cl
  · obtain ⟨T1, T2⟩ := T C hC
    refine ⟨PE.of (pe_xf T1 T2 hz.zc hf he.pe hb) fun σ H Q h => ?_⟩
    obtain ⟨ρ, Hd, Qd, rs, rh, h, k⟩ := h
    refine ⟨ρ, Hd, _, rs, rh, h, fun v H1 x Hd1 e1 rh1 rv h1 => ?_⟩
    obtain ⟨hx, _, dd, fs, y, ed, e2, el, q⟩ := h1
    cases x with
    | ref a' =>
      cases hx
      cases rv
      obtain ⟨vs, g, r⟩ := rh1 _ _ e2
      obtain ⟨v, lv, rv⟩ := rkv_lookup r el
      exact ⟨rfl, rfl, dd, vs, v, ed, g, lv, k v H1 y Hd1 e1 rh1 rv q⟩
    | _ => exact hx.elim
  · refine ⟨⟨fun pins s σ H Q I h => ?_⟩⟩
    obtain ⟨ρ, Hd, Qd, rs, rh, h, k⟩ := h
    refine attr_of hb (thn (he.pe.run pins s σ H (fun _ _ => False) I ⟨ρ, Hd, _, rs, rh, h, fun v H1 x Hd1 e1 rh1 rv h1 => (hC h1.2.1).elim⟩) fun u s1 hh => ?_)
    obtain ⟨_, _, _, _, hh⟩ := hh
    exact hh.elim
end
end Lt

end
section
set_option Elab.async false
set_option linter.all false
set_option maxRecDepth 100000
set_option maxHeartbeats 3200000
/-! Dl27: the facts about the classes of refusals, read as Bools; the hook with such Bools; equations for stepping. -/
namespace Lt
open PySem PySem.Spec L2
section
variable {mt : List (Addr × Bool)} {i : Nat} {ts : Addr → Addr → Option Addr → TSD} {wdo : WD} {D : EndsD} {C a : Addr} {fs : List (Str × Lt.D)} {ρ : StD} {H : HD} {te : WD → TED} {tb : TSD} {nm : List Str} {wd : WD} {t : TAD} {d : Option Addr} {cl : List Addr} {f : Str} {to : TED} {Q : QD} {E : EndsD}
theorem u_sTry : sTry te tb mt i ts wdo E ρ H = te (WdT mt i ts wdo E) ρ H fun _ H1 => tb E ρ H1 := rfl
theorem u_sRaiI : sRaiI C nm wd t E ρ H = t ρ H fun ds H1 => ds.length = nm.length ∧ wd C ((nm.zip ds).reverse) ρ H1 := rfl
theorem u_tXfD : tXfD a C d cl f to ρ H Q = to ρ H fun x H1 => (match x with
  | .ref a' => a' = a
  | _ => False) ∧ C ∈ cl ∧ ∃ (dd : Addr) (fs : List (Str × Lt.D)) (v : Lt.D), d = some dd ∧ H1 dd = some (.xd fs) ∧ fs.lookup f = some v ∧ Q v H1 := rfl
end
/-! ### Bools -/
def eqV (a b : Option (Option Value)) : Bool := decide (a = b)
def xcwB (K : PySem.W.Frag) (W : Addr) : Bool := eqV (PySem.W.specialIn K (.ref W) "__getattribute__") (some (some (.builtin "type.__getattribute__"))) && (PySem.W.readsIn K W (.type "type") && (match PySem.W.findCls K (.ref W) (.type "type") "__init__" with
  | some (.val v) => decide (v = .builtin "ValueError.__init__")
  | _ => false))
theorem xcwB_ok {K : PySem.W.Frag} {W : Addr} (h : xcwB K W = true) : XcW K W := by
  unfold xcwB at h
  obtain ⟨h1, h⟩ := Bool.and_eq_true_iff.mp h
  obtain ⟨h2, h3⟩ := Bool.and_eq_true_iff.mp h
  refine ⟨of_decide_eq_true h1, h2, ?_⟩
  split at h3
  · rename_i v e
    rw [e, of_decide_eq_true h3]
  · cases h3
def oexB (K : PySem.W.Frag) (C : Addr) : Bool := (match K.lookup C with
  | some ⟨.type "type", _, .cls cd, sl⟩ => (match cd.mro, sl.toList with
    | .ref C' :: bm, [_, _, _, _, some (.builtin n), _] => C' == C && (n == "ValueError.__new__" && (!cd.hasDel && (cd.hasDict && PySem.HandSPX.refsVE bm)))
    | _, _ => false)
  | _ => false) && (eqV (PySem.W.findIn K (.ref C) "__setattr__") (some (some (.builtin "object.__setattr__"))) && (decide (PySem.W.subIn K (.ref C) (.type "BaseException") = some true) && (decide (PySem.W.typeIn K (.ref C) = some (.type "type")) && PySem.W.keepIn K (.ref C))))
theorem oexB_ok {K : PySem.W.Frag} {C : Addr} (h : oexB K C = true) : OexC K C := by
  unfold oexB at h
  obtain ⟨h1, h⟩ := Bool.and_eq_true_iff.mp h
  obtain ⟨h2, h⟩ := Bool.and_eq_true_iff.mp h
  obtain ⟨h3, h⟩ := Bool.and_eq_true_iff.mp h
  obtain ⟨h4, h5⟩ := Bool.and_eq_true_iff.mp h
  refine ⟨?_, of_decide_eq_true h2, of_decide_eq_true h3, of_decide_eq_true h4, h5⟩
  clear h h2 h3 h4 h5
  split at h1
  · rename_i dd cd sl ho
    split at h1
    · rename_i C' bm k0 k1 k2 k3 n k5 hm hs
      obtain ⟨g1, h1⟩ := Bool.and_eq_true_iff.mp h1
      obtain ⟨g2, h1⟩ := Bool.and_eq_true_iff.mp h1
      obtain ⟨g3, h1⟩ := Bool.and_eq_true_iff.mp h1
      obtain ⟨g4, g5⟩ := Bool.and_eq_true_iff.mp h1
      have g1 := beq_iff_eq.mp g1
      have g2 := beq_iff_eq.mp g2
      have g3' : cd.hasDel = false := by simpa using g3
      clear g3 h1
      subst g1 g2
      obtain ⟨nm, bs, mro, ns, qn, hd, sn, sub, ab, col, del⟩ := cd
      dsimp only at hm g3' g4
      subst hm g3' g4
      have hsl : sl = #[k0, k1, k2, k3, some (.builtin "ValueError.__new__"), k5] := by
        obtain ⟨l⟩ := sl
        simp only at hs
        rw [hs]
      subst hsl
      exact ⟨nm, qn, ns, bs, bm, sn, sub, ab, col, dd, k0, k1, k2, k3, k5, ho, g5⟩
    · cases h1
  · cases h1
def xciB (K : PySem.W.Frag) (C f : Addr) (nm : List Str) : Bool := oexB K C && (eqV (PySem.W.findIn K (.ref C) "__init__") (some (some (.ref f))) && (decide (PySem.W.typeIn K (.ref f) = some (.type "function")) && nm.all fun x => eqV (PySem.W.findIn K (.ref C) x) (some none)))
theorem xciB_ok {K : PySem.W.Frag} {C f : Addr} {nm : List Str} (h : xciB K C f nm = true) : XcI K C f nm := by
  obtain ⟨h1, h⟩ := Bool.and_eq_true_iff.mp h
  obtain ⟨h2, h⟩ := Bool.and_eq_true_iff.mp h
  obtain ⟨h3, h4⟩ := Bool.and_eq_true_iff.mp h
  exact ⟨oexB_ok h1, of_decide_eq_true h2, of_decide_eq_true h3, fun x hx => of_decide_eq_true (List.all_eq_true.mp h4 x hx)⟩
/-! ### the hook -/
abbrev AlE : Type := He.AlD × Bool
def obsE (fa : List He.Fa) (fn : List He.DefD) (ex : PySem.W.Frag → Bool) (K : PySem.W.Frag) : AlE := (He.obsD fa fn K, ex K)
structure SaysE (fa : List He.Fa) (fn : List He.DefD) (ex : PySem.W.Frag → Bool) (K : PySem.W.Frag) : Prop where
  d : He.SaysD fa fn K
  x : ex K = true
def obsEG (n : Nat) (fa : List He.Fa) (fn : List He.DefD) (ex : PySem.W.Frag → Bool) (g : Addr → Option Obj) : AlE := obsE fa fn ex (He.frG g (PySem.cStatics :: He.asD g n))
def hookEx (n : Nat) (fa : List He.Fa) (fn : List He.DefD) (ex : PySem.W.Frag → Bool) : PySem.W.Hook where
  α := AlE
  obs := fun s => obsEG n fa fn ex s.heap.get?
  val := fun _ => (He.valD fn, true)
  says := fun _ h => ∃ K : PySem.W.Frag, K.In h ∧ SaysE fa fn ex K
  of := fun _ _ e => ⟨_, He.frG_in, ⟨congrArg (fun z : AlE => z.1) e, congrArg (fun z : AlE => z.2) e⟩⟩
  keeps := fun _ _ _ ⟨K, hK, c⟩ k => ⟨K, PySem.W.Frag.In.keeps hK k, c⟩
theorem obsEG_eq {n : Nat} {fa : List He.Fa} {fn : List He.DefD} {ex : PySem.W.Frag → Bool} {g : Addr → Option Obj} {s : Shared} (h : ∀ a, g a = s.heap.get? a) : obsEG n fa fn ex g = (hookEx n fa fn ex).obs s := by
  have e : g = s.heap.get? := funext h
  rw [e] <;> rfl
end Lt

end
section
set_option Elab.async false
set_option linter.all false
set_option maxRecDepth 100000
set_option maxHeartbeats 3200000
/-! Dh1: a list walked by a comprehension while an exception is handled. -/
namespace Lt
open PySem PySem.Spec PyProof.Rows L2 HotX
open L2H (HotC)
section
variable {prog : Program} {w : World} {A : Around} {E : Value → Shared → Prop} {s : Shared}
/-- no item is left, an exception x1 being handled -/
theorem hotEnd {it l x1 : Addr} {n : Nat} {zs : Array Value} {Q : Option Value → Shared → Prop} (hot : HotAt A x1 s.heap) (ne : x1 ≠ it) (hi : s.heap.IsListIter it l n) (hl : s.heap.IsList l zs) (he : zs[n]? = none)
    (k : ∀ h', (∀ b o, b ≠ it → s.heap.get? b = some o → h'.get? b = some o) → Q none { s with heap := h' }) : wpAny (model prog w) A (pyNext (.ref it)) Q E s := by
  obtain ⟨oi, gi, ci, di⟩ := id hi
  obtain ⟨ol, gl, _, nl, dl⟩ := hl
  obtain ⟨hh, o1, vs1, g1, d1, c1⟩ := hot
  unfold pyNext
  refine wpAny_bind (wpAny_attempt (wpAny_callSpecial?_slot (name := Str.ofString "__next__") hi.typeIs slot_listiter_next (wpAny_call_entry slot_listiter_next hi.typeIs entry_listiter_next ?z (args_listiter_next _))))
  show wpAny (model prog w) _ (field (.ref it) 0 >>= _) _ _ s
  refine wpAny_bind (wpAny_field gi di (x := Value.ref l) rfl ?z2)
  show wpAny (model prog w) _ (if (Value.ref l == Value.none) = true then _ else _) _ _ s
  rw [if_neg (show ¬((Value.ref l == Value.none) = true) from fun z => nomatch z)]
  show wpAny (model prog w) _ (field (.ref it) 1 >>= _) _ _ s
  refine wpAny_bind (wpAny_field gi di (x := Value.int n 0) rfl ?z3)
  show wpAny (model prog w) _ (seqItems? (.ref l) >>= _) _ _ s
  refine wpAny_bind (wpAny_seqItems gl dl ?z4)
  simp only [Int.toNat_natCast, he]
  refine wpAny_bind (wpAny_rule (wpAny_bind (wpAny_setField gi di (by simp) ?z5)))
  show wpAny (model prog w) _ (newExc (.type "StopIteration") [] >>= _) _ _ _
  refine wpAny_bind ?z6
  simp only [newExc, newTuple]
  refine wpAny_bind (wpAny_newObj_type ?z7 (by size_fits))
  refine wpAny_bind (m := firstArgMember _ _) (wpAny_of_eq (a := Value.none) (by first | rfl | (simp only [firstArgMember]; rfl)) ?z8)
  refine wpAny_newObj_type ?z9 (by size_fits)
  have keep : ∀ (h0 : Heap) (o0 o9 : Obj) (b : Addr) (o : Obj), (∀ c u, c ≠ it → s.heap.get? c = some u → h0.get? c = some u) → b ≠ it → s.heap.get? b = some o → ((h0.push o0).push o9).get? b = some o :=
    fun h0 o0 o9 b o kk nb e => Heap.get?_push_of_some _ (Heap.get?_push_of_some _ (kk b o nb e))
  have upk : ∀ (f : Obj → Obj) c u, c ≠ it → s.heap.get? c = some u → (s.heap.update it f).get? c = some u := fun f c u nc e => by
    rw [Heap.get?_update_other _ _ (Ne.symm nc)]
    exact e
  refine raiseNew_hot ⟨hh, o1, vs1, keep _ _ _ _ _ (upk _) ne g1, d1, c1⟩ (Nat.ne_of_lt (Heap.lt_size (Heap.get?_push_of_some _ (upk _ _ _ ne g1)))) (Heap.get?_push_size _ rfl) rfl (by first | (simp; done) | (simp; omega)) ?z10
  refine wpAny_bind (wpAny_isInstance (T := "StopIteration") (b := true) ⟨_, Heap.get?_update_self _ (Heap.get?_push_size _ rfl) rfl, rfl⟩ isSubtype_stop ?z11)
  refine wpAny_pure (k _ fun b o nb e => ?_)
  have z := Heap.lt_size (Heap.get?_push_of_some { cls := .type "tuple", data := .seq #[] } (upk (Obj.mapFields (·.setIfInBounds 0 .none)) b o nb e))
  rw [Heap.get?_update_other _ _ (Nat.ne_of_gt (Heap.lt_size (Heap.get?_push_of_some _ (upk _ b o nb e))))]
  exact keep _ _ _ _ _ (upk _) nb e
end
section
variable {X : Cx} {pins : List (Addr × Obj)} {σ : L2.St} {H : Hp} {s : Shared} {l it : Addr} {i : Nat} {xs : List V}
/-- the walk's own object -/
theorem itObj (st : s.heap.IsListIter it l i) : ∃ o, s.heap.get? it = some o ∧ ∀ v, o.data ≠ .cell v := by
  obtain ⟨o, e, _, d⟩ := st
  exact ⟨o, e, fun v z => by rw [d] at z; cases z⟩
theorem hotItem {tg : Expr} {x : V} {Q : Option Value → Shared → Prop} {E : Value → Shared → Prop} (I : Inv X pins σ H s) (f : FpOk X pins H it) (st : s.heap.IsListIter it l i) (hq : SqL X.K H l xs) (hx : xs[i]? = some x)
    (k : ∀ u s1, Inv X pins σ H s1 → RelV x u → s1.heap.IsListIter it l (i + 1) → (∀ (Q1 : Unit → Shared → Prop) (E1 : Value → Shared → Prop), Q1 () s1 → wpAny (model X.prog X.w) X.A (letOwnedTupleGo tg (.ref it) u) Q1 E1 s1) → Q (some u) s1) :
    wpAny (model X.prog X.w) X.A (pyNext (.ref it)) Q E s := by
  obtain ⟨its, rv, pl, _⟩ := I.list hq
  obtain ⟨u, hu, ru⟩ := rv.get hx
  refine wpAny_pyNext_list_item st pl.isList (x := u) (by simpa using hu) fun h1 st1 sb => ?_
  have J : Inv X pins σ H { s with heap := h1 } := I.turned (t' := s.toks) (fun b o nb e => (sb.2 b nb).trans e) f.1 f.2.1 f.2.2.2.1 f.2.2.2.2.1 f.2.2.2.2.2
  obtain ⟨o, e, c, d⟩ := id st1
  exact k u _ J ru st1 fun Q1 E1 q => go_of (s := { s with heap := h1 }) e c d (by decide) q
theorem hotDone {x1 : Addr} {Q : Option Value → Shared → Prop} {E : Value → Shared → Prop} (hot : HotAt X.A x1 s.heap) (ne : x1 ≠ it) (I : Inv X pins σ H s) (f : FpOk X pins H it) (st : s.heap.IsListIter it l i) (hq : SqL X.K H l xs) (hx : xs.length ≤ i)
    (k : ∀ s1, Inv X pins σ H s1 → Q none s1) : wpAny (model X.prog X.w) X.A (pyNext (.ref it)) Q E s := by
  obtain ⟨its, rv, pl, _⟩ := I.list hq
  have e := rv.length
  refine hotEnd hot ne st pl.isList (Array.getElem?_eq_none (by rw [List.size_toArray]; omega)) fun h1 kp => k _ ?_
  exact I.turned (t' := s.toks) kp f.1 f.2.1 f.2.2.2.1 f.2.2.2.2.1 f.2.2.2.2.2
end
section
variable {X : Cx}
/-- [elt for tg in iter if ..] over a list, an exception being handled -/
theorem pe_lcHot {elt tg iter : Expr} {ifs : List Expr} {scope : Scope} {own : List (Str × Nat)} {pos : Pos} {tl : TE} {g : TG} {tt : TT} {te : TE} (hot : HotC X) (hN : X.N.Nodup) (hl : PE X iter tl) (ok : BlkOk X.N X.env.scope scope own)
    (hg : ∀ (t : Shared) (F : Hp) (C : Addr) (cl : List (Str × Addr)) (fp : List Addr), PG (X.blk t F scope (compEnvC scope cl C X.env) fp) tg g)
    (ht : ∀ (t : Shared) (F : Hp) (C : Addr) (cl : List (Str × Addr)) (fp : List Addr), PTs (X.blk t F scope (compEnvC scope cl C X.env) fp) ifs tt)
    (he : ∀ (t : Shared) (F : Hp) (C : Addr) (cl : List (Str × Addr)) (fp : List Addr), PE (X.blk t F scope (compEnvC scope cl C X.env) fp) elt te)
    (hs : ∀ v, foldedSetIterable iter X.env v = pure v := by intro _; rfl) : PE X (.ListComp elt [⟨tg, iter, ifs, 0⟩] scope pos) (tLc (iList X.K tl) g tt te (own.map (·.2))) := by
  refine ⟨fun pins s0 σ H Q I0 hw => ?_⟩
  rw [eval_ListComp]
  have clo : ∀ nk ∈ scope.names, nk.2 = .free → ∃ c, X.env.cells.lookup nk.1 = some c := fun nk hm e => (ok.free nk hm e).elim (fun z => I0.ok.has _ (.inl z)) fun z => I0.ok.has _ (.inr z)
  refine wpAny_comprehension_free (use := none) rfl hs (closure_ok clo) ok.kind (fun nk hm e => by rw [ok.uniq nk hm, e]) (thn (hl.run pins s0 σ H _ I0 hw) fun lv sa ⟨lx, Ha, Ia, rl, l, el, ⟨ys, hys⟩, qa⟩ => ?_)
  subst el
  cases rl
  obtain ⟨its, _, pls, _⟩ := Ia.list hys
  refine wpAny_pyIter_list pls.isList ?_
  -- the walk's object is made
  generalize hit : sa.heap.objs.size = it
  generalize hsb : ({ sa with heap := sa.heap.push { cls := .type "list_iterator", data := .fields #[.ref l, .int 0 0] } } : Shared) = sb
  have Ib : Inv X pins σ Ha sb := by
    rw [← hsb]
    exact Ia.kept (t' := sa.toks) fun b o e => Heap.get?_push_of_some _ e
  have tb : sb.heap.IsListIter it l 0 := by
    rw [← hsb, ← hit]
    exact ⟨_, Heap.get?_push_size _ rfl, rfl, rfl⟩
  have fb : FpOk X pins Ha it := by
    rw [← hit]
    exact Ia.fpOk (Nat.le_refl _) (Ia.hok.fresh (Nat.le_refl _))
  have itlt : it < sb.heap.objs.size := by
    obtain ⟨_, e, _⟩ := itObj tb
    exact Heap.lt_size e
  refine wpAny_newObj_type (newEnv_comp ?_) (by show 0 ≤ sizeLine; decide)
  generalize hR : sb.heap.objs.size = R
  have nR : Ha R = none := Ib.hok.fresh (Nat.le_of_eq hR)
  obtain ⟨W, ⟨m0, w0⟩, turn⟩ := qa R nR
  generalize hsc : ({ sb with heap := sb.heap.push { cls := .type "list", data := .seq ([] : List Value).toArray } } : Shared) = sc
  have hch : sc.heap = sb.heap.push { cls := .type "list", data := .seq ([] : List Value).toArray } := by rw [← hsc]
  have Ic : Inv X pins σ (upd Ha R (.lst [])) sc := by
    rw [← hsc]
    refine Ib.laid (t' := sb.toks) (fun b o e => Heap.get?_push_of_some _ e) (Nat.le_of_eq hR) ⟨Nat.zero_le _, [], 0, .nil, ?_⟩
    rw [← hR]
    exact Heap.get?_push_size _ rfl
  generalize hHc : upd Ha R (.lst []) = Hc at Ic w0
  have fc : FpOk X pins Hc it := by
    rw [← hHc]
    exact ⟨by rw [upd_ne (by rw [← hR]; exact Nat.ne_of_lt itlt)]; exact fb.1, fb.2⟩
  have tc : sc.heap.IsListIter it l 0 := by
    obtain ⟨o, e, r⟩ := tb
    exact ⟨o, by rw [hch]; exact Heap.get?_push_of_some _ e, r⟩
  have fc1 : ∀ b ∈ [it], FpOk X pins Hc b ∧ b < sc.heap.objs.size := fun b hb => by
    obtain rfl : b = it := by simpa using hb
    exact ⟨fc, by rw [hch, Heap.size_push]; omega⟩
  have Id := block_start Ic ok hN fc1
  -- the handled exception stands throughout the block
  obtain ⟨p, ⟨hh, v1, d1, c1⟩, hp⟩ := hot
  have Pc := Ic.pin p (List.mem_append_left _ hp)
  have pne : p.1 ≠ it := fc.2.2.2.2.2 p (List.mem_append_left _ hp)
  show codeAny (model X.prog X.w) _ (.compStart (.ListComp elt [⟨tg, iter, ifs, 0⟩] scope pos) 0 (.ref it) (.ref R) (compEnvC scope (cellsFrom (sc.heap.objs.size + 1) scope.names (cloFrom X.env.cells scope.names [])) sc.heap.objs.size X.env)) (compPost (model X.prog X.w) X.A X.xe none (EP X pins σ Q) (.ref R) sc.heap.objs.size) { sc with heap := pushCells (sc.heap.push { cls := .type "dict", data := .dict #[] }) scope.names }
  generalize hcl : cellsFrom (sc.heap.objs.size + 1) scope.names (cloFrom X.env.cells scope.names []) = cl at Id ⊢
  have pg := hg sc Hc sc.heap.objs.size cl [it]
  have pt := ht sc Hc sc.heap.objs.size cl [it]
  have pe := he sc Hc sc.heap.objs.size cl [it]
  generalize hce : compEnvC scope cl sc.heap.objs.size X.env = ce at Id pg pt pe ⊢
  have cL : ce.locals = sc.heap.objs.size := by subst hce; rfl
  generalize hsd : ({ sc with heap := pushCells (sc.heap.push { cls := .type "dict", data := .dict #[] }) scope.names } : Shared) = sd at Id ⊢
  have td : sd.heap.IsListIter it l 0 := by
    obtain ⟨o, e, r⟩ := tc
    exact ⟨o, by rw [← hsd]; exact pushCells_keeps _ _ _ _ (Heap.get?_push_of_some _ e), r⟩
  generalize hB : X.blk sc Hc scope ce [it] = B at Id pg pt pe
  have bs0 : B.s_0 = sc := by rw [← hB] <;> rfl
  have bH0 : B.H_0 = Hc := by rw [← hB] <;> rfl
  have bex : B.ex = [it] := by rw [← hB] <;> rfl
  have bpn : B.pn = [] := by rw [← hB] <;> rfl
  have bA : B.A = X.A := by rw [← hB] <;> rfl
  have bK : B.K = X.K := by rw [← hB] <;> rfl
  have bpr : B.prog = X.prog := by rw [← hB] <;> rfl
  have bw : B.w = X.w := by rw [← hB] <;> rfl
  have bL : B.env.locals = sc.heap.objs.size := by rw [← hB]; exact cL
  have bfs : B.fs = frs X.stack := by rw [← hB] <;> rfl
  have bE : B.env = ce := by rw [← hB] <;> rfl
  have bx : B.xe = fun _ _ => False := by rw [← hB] <;> rfl
  have hotB : ∀ {σ' H' s'}, Inv B [] σ' H' s' → HotAt B.A p.1 s'.heap := fun {σ' H' s'} J => by
    refine ⟨bA ▸ hh, p.2, v1, J.base.keep p.1 p.2 ?_ ?_ ?_ ?_, d1, c1⟩
    · rw [bs0]; exact Pc.1
    · rw [bH0]; exact Pc.2.1
    · rw [bfs]
      intro z
      exact (List.mem_cons.mp (Ic.stkSub p.1 z)).elim Pc.2.2.1 Pc.2.2.2.1
    · rw [bex]
      intro z
      exact pne (by simpa using z)
  have stat : ∀ {σ' H' s'}, Inv B [] σ' H' s' → H' it = none → FpOk B [] H' it := fun {σ' H' s'} J n =>
    ⟨n, (J.ok.exf it (by rw [bex]; simp)).1, J.ok.exfs it (by rw [bex]; simp), .inl (by rw [bex]; simp), fun x c e => (J.ok.exf it (by rw [bex]; simp)).2 x c e, fun q hq => by rw [bpn] at hq; cases hq⟩
  have loop : codeAny (model X.prog X.w) X.A (.compLoop (.ListComp elt [⟨tg, iter, ifs, 0⟩] scope pos) 0 (.ref it) (.ref R) ce) (compPost (model X.prog X.w) X.A X.xe none (EP X pins σ Q) (.ref R) sc.heap.objs.size) sd := by
    refine compLoop_any (fun n s' => ∃ i H', Inv B [] (wipe σ (own.map (·.2))) H' s' ∧ s'.heap.IsListIter it l i ∧ H' it = none ∧ W i n H') ?_ m0 ⟨0, Hc, Id, td, fc.1, w0⟩
    rintro n s5 ⟨i, H5, I5, t5, n5, w5⟩
    rcases turn i n H5 w5 with ⟨stop, qq⟩ | ⟨go, Nx, hNx, step⟩
    · obtain ⟨xs, hxs, hlen⟩ := stop
      have done := hotDone (Q := fun r s6 => r = none ∧ Inv B [] (wipe σ (own.map (·.2))) H5 s6) (E := fun _ _ => False) (hotB I5) pne I5 (stat I5 n5) t5 (by rw [bK]; exact hxs) hlen fun s6 J => ⟨rfl, J⟩
      rw [bpr, bw, bA] at done
      refine thnF done fun r s6 ⟨er, I6⟩ => ?_
      subst er
      have I7 : Inv X pins σ H5 s6 := by
        have u6 := I6.base
        have o6 := I6.os
        have k6 := I6.hok
        rw [bs0, bH0, bfs, bex] at u6
        rw [bs0] at o6
        rw [bpr, bw] at k6
        exact Ic.call' (ch := [it]) o6 u6 k6 I6.bare fun b hb => by
          obtain rfl : b = it := by simpa using hb
          exact ⟨fc.2.2.2.1, fc.2.1, fc.2.2.2.2.1, fc.2.2.2.2.2⟩
      have nC : H5 sc.heap.objs.size = none := by
        have z := I6.free
        rw [bL] at z
        exact z
      obtain ⟨m, hn, _⟩ := I6.loc
      rw [bL] at hn
      obtain ⟨f0, f1, f2, f3, f4, f5⟩ := Ic.fpOk (Nat.le_refl _) nC
      exact ⟨m, hn, fun h'' sb' => ⟨.ref R, H5, I7.turned (t' := s6.toks) (fun b o hb e => (sb'.2 b hb).trans e) f0 f1 f3 f4 f5, rfl, qq⟩⟩
    · obtain ⟨xs, x, hxs, hx⟩ := go
      have item := hotItem (tg := tg) (Q := fun r s6 => ∃ u, r = some u ∧ Inv B [] (wipe σ (own.map (·.2))) H5 s6 ∧ RelV x u ∧ s6.heap.IsListIter it l (i + 1) ∧ ∀ (Q1 : Unit → Shared → Prop) (E1 : Value → Shared → Prop), Q1 () s6 → wpAny (model B.prog B.w) B.A (letOwnedTupleGo tg (.ref it) u) Q1 E1 s6)
        (E := fun _ _ => False) I5 (stat I5 n5) t5 (by rw [bK]; exact hxs) hx fun u s6 J ru t6 lg => ⟨u, rfl, J, ru, t6, lg⟩
      rw [bpr, bw, bA] at item
      refine thnF item fun r s6 ⟨u, er, I6, r6, t6, lg⟩ => ?_
      subst er
      refine lg _ _ ?_
      have I6' := I6.pinned (fp := [it]) (fun b hb => by
        obtain rfl : b = it := by simpa using hb
        exact stat I6 n5) (fun b hb => by
        obtain rfl : b = it := by simpa using hb
        exact itObj t6)
      have gg := pg.run _ s6 _ H5 x u _ I6' r6 (step x H5 ⟨rfl, fun zs hz => by
        have e := I5.list_inj (by rw [bK]; exact hz) (by rw [bK]; exact hxs)
        rw [e]
        exact hx⟩)
      rw [bpr, bw, bA, bE, bx] at gg
      refine thnF gg fun _ s8 ⟨σ8, H8, I8, hw8, q8⟩ => ?_
      have gt := pt.run _ s8 σ8 H8 _ I8 q8
      rw [bpr, bw, bA, bE, bx] at gt
      refine thnF gt fun b s9 ⟨H9, I9, q9⟩ => ?_
      have fin : ∀ {s' H'}, Inv B ([] ++ pinsAt [it] s6.heap) σ8 H' s' → Nx H' → ∃ m, m < n ∧ ∃ i H', Inv B [] (wipe σ (own.map (·.2))) H' s' ∧ s'.heap.IsListIter it l i ∧ H' it = none ∧ W i m H' := fun {s' H'} J nx => by
        obtain ⟨m', hm, w'⟩ := hNx H' nx
        obtain ⟨o, e, r⟩ := id t6
        have pin := J.pin (it, o) (List.mem_append_right _ (List.mem_append_right _ (mem_pinsAt (by simp) e)))
        have hl : (wipe σ (own.map (·.2))).length = σ8.length := by rw [← hw8, wipe_length]
        refine ⟨m', hm, i + 1, H', (J.unpinned (pins := [])).weak hl (fun j v e => ?_), ⟨o, pin.1, r⟩, pin.2.1, w'⟩
        rw [← hw8] at e
        exact (wipe_some e).1
      cases b with
      | false =>
        simp only [Bool.false_eq_true, if_false] at q9 ⊢
        exact fin I9 q9
      | true =>
        simp only [if_true] at q9 ⊢
        have ge := pe.run _ s9 σ8 H9 _ I9 q9
        rw [bpr, bw, bA, bE, bx] at ge
        refine thnF ge fun z s10 ⟨yv, H10, I10, r10, acc, hR10, hz10, nx⟩ => ?_
        have ap := app_ok (E := fun _ _ => False) (Q := fun _ s' => ∃ m, m < n ∧ ∃ i H', Inv B [] (wipe σ (own.map (·.2))) H' s' ∧ s'.heap.IsListIter it l i ∧ H' it = none ∧ W i m H') I10 hR10 hz10 r10 fun s11 I11 => fin I11 nx
        rw [bpr, bw, bA] at ap
        exact thnF ap fun _ _ z => z
  exact codeAny_compStart_list loop (wpAny_pyIter_listiter td loop)
end
end Lt

end
section
set_option Elab.async false
set_option linter.all false
set_option maxRecDepth 100000
set_option maxHeartbeats 3200000
/-! Dh2: defs called while an exception is handled, over values by content. -/
namespace Lt
open PySem PySem.Spec PyProof.Rows L2 HotX
open L2H (RoomH Hot1 PinOk HotC cxH inv_startH)
/-- what a def promises to a caller that handles the exception p -/
structure FnP (P : Program) (w : World) (K : PySem.W.Frag) (mg : Str → Option Value) (base : Heap) (CX : CXT) (k : Nat) (f : Addr) (fd : FuncData) (ps : List Str) (sp : Addr × Obj → Sp) : Prop where
  len : ∀ p vs H Q E, sp p vs H Q E → vs.length = ps.length
  run : ∀ (p : Addr × Obj) (A : Around) (outer : List Env) (s : Shared) (H : Hp) (args : Args) (us : List Value) (vs : List V) (Q : VK) (E : XK), RoomH k A → Hot1 A p → PinOk outer H s p → Env0 P w K mg base A outer s H →
    BindsTo s fd args (ps.zip us) → Vals vs us → sp p vs H Q E → codeAny (model P w) A (.call (.ref f) args) (CR CX outer P w H s Q E) s
theorem FnP.mono {P : Program} {w : World} {K : PySem.W.Frag} {mg : Str → Option Value} {base : Heap} {CX : CXT} {j k : Nat} {f : Addr} {fd : FuncData} {ps : List Str} {sp : Addr × Obj → Sp} (F : FnP P w K mg base CX j f fd ps sp) (h : j ≤ k) : FnP P w K mg base CX k f fd ps sp :=
  ⟨F.len, fun p A outer s H args us vs Q E r => F.run p A outer s H args us vs Q E (r.mono h)⟩
theorem fnP_of {P : Program} {w : World} {K : PySem.W.Frag} {mg : Str → Option Value} {base : Heap} {CX : CXT} {k : Nat} {f : Addr} {x qual : Str} {st : Stmt} {fd : FuncData} {N ps : List Str} {sp : Addr × Obj → Sp} (F : Fun K x qual st f fd) (S : FnScope N ps (defScope st))
    (len : ∀ p vs H Q E, sp p vs H Q E → vs.length = ps.length)
    (hbody : ∀ (cdv : Value) (p : Addr × Obj) (A : Around) (outer : List Env) (s : Shared) (H : Hp) (vs : List V) (Q : VK) (E : XK), Hot1 A p → RoomH k (A.deeper (envOfC qual (defScope st) s.heap.objs.size f cdv)) → sp p vs H Q E →
      ∃ t, PSs (cxH CX P w K mg base N qual (defScope st) f cdv A outer s H E p) (defBody st) t ∧ t { nx := fun _ H' => Q .non H', rt := Q } (L2.start N vs) H) : FnP P w K mg base CX (k + 1) f fd ps sp := by
  obtain ⟨⟨oc, od, kV, doc, pm, an, cdv, ct, osl, rfl, lk, hcd⟩, kp⟩ := F
  refine ⟨len, fun p A outer st0 H args us vs Q E room hot pin e0 bd rv wish => ?_⟩
  have n1 := len _ _ _ _ _ wish
  have kx : K.In st0.heap := e0.mod.kin.keeps fun b o z => (e0.bs b o z).1
  have nl : st0.heap.NoLimit := e0.mod.nolimit.keeps fun b o z => (e0.bs b o z).1
  refine codeAny_call_function room.depth (kx _ _ lk) rfl S.co S.gen rfl (PySem.W.codeRec_of kx hcd) (bd _ _ _ _ ?_)
  refine wpAny_newFunctionEnv_cells S.kind (fun yv hm => ?_) fun env ee s1 cc => ?_
  · obtain ⟨y, v⟩ := yv
    exact (S.par y (List.of_mem_zip hm).1).elim (fun z => .inl z) fun z => .inr ⟨z, PySem.W.cellsFrom_some _ _ _ (.inl z)⟩
  subst ee
  refine ⟨nl.keeps cc.toInCall.keep, codeAny_func ?_⟩
  obtain ⟨t, pb, tb⟩ := hbody cdv p A outer st0 H vs Q E hot (room.deeper _) wish
  have J := inv_startH (CX := CX) (E := E) S pin e0 n1 rv cc
  refine wpAny_mono (pb.run [] s1 (L2.start N vs) H _ J tb) (fun fl s2 h2 => ?_) fun _ _ z => z
  have done : ∀ {σ1 H1 v u}, Inv (cxH CX P w K mg base N qual (defScope st) f cdv A outer st0 H E p) [] σ1 H1 s2 → RelV v u → Q v H1 → CE outer P w H st0 Q u s2 := fun {σ1 H1 v u} I r q => ⟨v, H1, I.os, I.bare, I.base, I.hok, r, q⟩
  cases fl with
  | next => obtain ⟨_, _, I, q⟩ := h2; exact done (v := .non) (u := .none) I rfl q
  | ret u => obtain ⟨_, _, _, I, r, q⟩ := h2; exact done I r q
  | brk => obtain ⟨_, _, _, q⟩ := h2; exact q.elim
  | cont => obtain ⟨_, _, _, q⟩ := h2; exact q.elim
abbrev noX : XD := fun _ _ _ => False
/-- such a def as its callers know it: a, C, d: the exception's address, class, attributes -/
structure DfH (P : Program) (w : World) (K : PySem.W.Frag) (mg : Str → Option Value) (base : Heap) (cs : Addr → Option (List Str)) (k : Nat) (f : Addr) (sp : Addr → Addr → Option Addr → SpD) : Prop where
  ok : ∃ fd ps, FnP P w K mg base (L2N.CX P w) k f fd ps (fun p vs H Q E => ∃ C d, L2N.Zn (.ref C) d p.2 ∧ (∃ vs, p.2.data = .fields vs) ∧ lfSp ⟨K, cs⟩ (fun ds Hd Qd _ => sp p.1 C d ds Hd Qd noX) vs H Q E) ∧ Binds K fd ps []
  kp : PySem.W.keepIn K (.ref f) = true
theorem DfH.mono {P : Program} {w : World} {K : PySem.W.Frag} {mg : Str → Option Value} {base : Heap} {cs : Addr → Option (List Str)} {j k : Nat} {f : Addr} {sp : Addr → Addr → Option Addr → SpD} (F : DfH P w K mg base cs j f sp) (h : j ≤ k) : DfH P w K mg base cs k f sp := by
  obtain ⟨⟨fd, ps, F, b⟩, kp⟩ := F
  exact ⟨⟨fd, ps, F.mono h, b⟩, kp⟩
/-- the context bears the exception a, of class C -/
structure HotA (X : Cx) (a C : Addr) (d : Option Addr) (oe : Obj) : Prop where
  h1 : Hot1 X.A (a, oe)
  pn : (a, oe) ∈ X.pn
  zn : L2N.Zn (.ref C) d oe
  fl : ∃ vs, oe.data = .fields vs
theorem HotA.hotC {X : Cx} {a C : Addr} {d : Option Addr} {oe : Obj} (h : HotA X a C d oe) : HotC X := ⟨_, h.h1, h.pn⟩
theorem hotA_suite {X : Cx} {a C : Addr} {d : Option Addr} {oe : Obj} {pn : List (Addr × Obj)} (hz : L2N.Zn (.ref C) d oe) (hf : ∃ vs, oe.data = .fields vs) : HotA (X.suite a ((a, oe) :: pn)) a C d oe :=
  ⟨⟨rfl, hf.elim fun vs e => ⟨vs, e, hz.2.2 vs e⟩⟩, List.mem_cons_self, hz, hf⟩
section
variable {P : Program} {w : World} {K : PySem.W.Frag} {mg : Str → Option Value} {base : Heap} {cs : Addr → Option (List Str)}
theorem dfh_of {x qual : Str} {st : Stmt} {f : Addr} {N ps : List Str} {k : Nat} (sp : Addr → Addr → Option Addr → SpD) (F : FB K x qual st f ps) (S : FnScope N ps (defScope st)) (len : ∀ a C d ds H Q E, sp a C d ds H Q E → ds.length = ps.length)
    (hbody : ∀ (X : Cx) (fd : FuncData) (cdv : Value) (A : Around) (outer : List Env) (s : Shared) (H : Hp) (E : XK) (a C : Addr) (d : Option Addr) (oe : Obj), X = cxH (L2N.CX P w) P w K mg base N qual (defScope st) f cdv A outer s H E (a, oe) → RoomH k X.A → HotA X a C d oe → PassesOwn (model X.prog X.w) X.A X.env X.xe →
      ∃ t, PSsD X cs (defBody st) t ∧ ∀ ds Hd Qd, sp a C d ds Hd Qd noX → t { nx := fun _ H' => Qd .non H', rt := Qd } (startD N ds) Hd) : DfH P w K mg base cs (k + 1) f sp := by
  obtain ⟨fd, F, b⟩ := F
  refine ⟨⟨fd, ps, fnP_of F S (fun p vs H Q E h => ?_) (fun cdv p A outer s H vs Q E hot hr h => ?_), b⟩, F.kp⟩
  · obtain ⟨C, d, _, _, ds, Hd, Qd, Ed, rd, _, h, _⟩ := h
    rw [← rd.length]
    exact len _ _ _ _ _ _ _ h
  · obtain ⟨C, d, hz, hf, ds, Hd, Qd, Ed, rd, rh, h, k1, k2⟩ := h
    obtain ⟨a, oe⟩ := p
    obtain ⟨t, ht, q⟩ := hbody _ fd cdv A outer s H E a C d oe rfl hr ⟨⟨hot.1, hot.2⟩, List.mem_cons_self, hz, hf⟩ (passes_of rfl)
    refine ⟨_, ht.ps, startD N ds, Hd, { nx := fun _ H' => Qd .non H', rt := Qd }, RelS.start rd N, rh, q ds Hd Qd h, fun σ ρ H' Hd' e rh' rs' z => ?_, k1, fun _ _ _ _ _ _ _ z => z.elim, fun _ _ _ _ _ _ _ z => z.elim⟩
    exact k1 .non H' .non Hd' e rh' .non z
end
section
variable {X : Cx} {cs : Addr → Option (List Str)} {a C : Addr} {d : Option Addr} {oe : Obj} {e : Expr} {es : List Expr} {pos p : Pos} {t : TAD} {x : Str}
theorem pd_callH {k : Nat} {f : Addr} {sp : Addr → Addr → Option Addr → SpD} (F : DfH X.prog X.w X.K X.mg X.base cs k f sp) (hr : RoomH k X.A) (hot : HotA X a C d oe) (hm : X.mg x = some (.ref f)) (ha : PAD X cs (e :: es) t) (hg : Gl X x := by rfl)
    (hdb : (x == ("__debug__" : Str)) = false := by decide) (he : starEach (e :: es) X.env = (false, eval e X.env) :: starEach es X.env := by rfl) (hpl : (backTo pos (starEach es X.env)).any (·.1) = false := by rfl) :
    PD X cs (.Call (.Name x p) (e :: es) [] pos) (tCal (sp a C d) noW t) := by
  refine ⟨⟨fun pins s σ H Q I h => ?_⟩⟩
  obtain ⟨ρ, Hd, Qd, rs, rh, h, kq⟩ := h
  obtain ⟨⟨fd, ps, F, hb⟩, kp⟩ := F
  refine wpAny_Call_Name_kw (ld_glob I hg hm ?_ hdb)
  refine PySem.W.callWith_K (h₀ := X.base) I.ok.mod.kin kp (thn (ha.pa.run pos pins s σ H (fun vs H1 => ∃ ds Hd1, TupX H H1 ∧ RelH ⟨X.K, cs⟩ H1 Hd1 ∧ RDs X.K H1 ds vs ∧ sp a C d ds Hd1 Qd noX) I
    ⟨ρ, Hd, _, rs, rh, h, fun vs H1 ds Hd1 e1 rh1 rd h1 => ⟨ds, Hd1, e1, rh1, rd, h1⟩⟩) fun us s1 ⟨vs, H1, I1, r, ds, Hd1, e1, rh1, rd, q⟩ => ⟨I1.kIn, ?_⟩) he hpl
  have wish : ∃ C1 d1, L2N.Zn (.ref C1) d1 ((a, oe) : Addr × Obj).2 ∧ (∃ vs, ((a, oe) : Addr × Obj).2.data = .fields vs) ∧ lfSp ⟨X.K, cs⟩ (fun ds Hd Qd _ => sp ((a, oe) : Addr × Obj).1 C1 d1 ds Hd Qd noX) vs H1 Q (fun _ _ _ => False) :=
    ⟨C, d, hot.zn, hot.fl, ds, Hd1, Qd, noX, rd, rh1, q, kq.ext e1, fun _ _ _ _ _ _ _ _ z => z⟩
  have hlen : us.length = ps.length := by
    rw [← r.length]
    exact F.len (a, oe) _ _ _ _ wish
  have bd := hb s1 us I1.kIn (by rw [List.append_nil]; exact hlen)
  rw [List.append_nil] at bd
  have Pn := I1.pin (a, oe) (List.mem_append_left _ hot.pn)
  have ok : PinOk X.stack H1 s1 (a, oe) := ⟨Pn.1, Pn.2.1, fun hm => (List.mem_cons.mp (I1.stkSub a hm)).elim Pn.2.2.1 Pn.2.2.2.1, Pn.2.2.2.2⟩
  refine wpAny_call (codeAny_mono (F.run (a, oe) X.A X.stack s1 H1 ⟨us, []⟩ us vs Q (fun _ _ _ => False) hr hot.h1 ok I1.env0 bd r wish) fun res s2 hq => ?_)
  cases res with
  | error ex =>
    obtain ⟨_, _, _, _, _, _, _, _, _, _, _, _, z⟩ := hq
    exact z.elim
  | ok fl =>
    cases fl with
    | ret u => exact I1.after hq
    | next => exact hq.elim
    | brk => exact hq.elim
    | cont => exact hq.elim
/-! ### a comprehension over a list -/
theorem ils_list {tl : TED} {σ : L2.St} {H : Hp} {R : It → Hp → Prop} (h : lfI ⟨X.K, cs⟩ (iLs tl) σ H R) : iList X.K (lfE ⟨X.K, cs⟩ tl) σ H R := by
  obtain ⟨ρ, Hd, Rd, rs, rh, h, k⟩ := h
  refine ⟨ρ, Hd, _, rs, rh, h, fun v H1 x Hd1 e1 rh1 rv h1 => ?_⟩
  cases x with
  | ref a =>
    cases rv
    obtain ⟨ds, e, h1⟩ := h1
    obtain ⟨vs, g, r⟩ := rh1 _ _ e
    refine ⟨a, rfl, ⟨vs, SqL.of g⟩, k _ H1 _ Hd1 e1 rh1 (fun i H' Hd' ex rh' st => ?_) h1⟩
    obtain ⟨ws, g', r'⟩ := rh' _ _ st
    refine ⟨fun d hd => ?_, fun hl => ⟨ws, SqL.of g', by rw [← r'.length]; exact hl⟩⟩
    obtain ⟨v, h1, h2⟩ := r'.get hd
    refine ⟨⟨ws, v, SqL.of g', h1⟩, fun x H2 y => ?_⟩
    obtain ⟨rfl, y⟩ := y
    have q := y ws (SqL.of g')
    rw [h1] at q
    cases q
    exact ⟨.refl _, rh', h2⟩
  | rl ds =>
    obtain ⟨a, vs, rfl, hp, r⟩ := rv.rlV
    refine ⟨a, rfl, ⟨vs, hp.sq⟩, k _ H1 _ Hd1 e1 rh1 (fun i H' Hd' ex rh' st => ?_) h1⟩
    have hp' := (hp.ext ex.w).sq
    refine ⟨fun d hd => ?_, fun hl => ⟨vs, hp', by rw [← r.length]; exact hl⟩⟩
    obtain ⟨v, h1, h2⟩ := r.get hd
    refine ⟨⟨vs, v, hp', h1⟩, fun x H2 y => ?_⟩
    obtain ⟨rfl, y⟩ := y
    have q := y vs hp'
    rw [h1] at q
    cases q
    exact ⟨.refl _, rh', h2.ext ex⟩
  | _ => exact h1.elim
end
end Lt

end
section
set_option Elab.async false
set_option linter.all false
set_option maxRecDepth 100000
set_option maxHeartbeats 3200000
/-! Dh3: comprehensions, loops, isinstance while an exception is handled. -/
namespace Lt
open PySem PySem.Spec PyProof.Rows L2 HotX
open L2H (RoomH Hot1 PinOk HotC cxH)
section
variable {X : Cx} {cs : Addr → Option (List Str)} {a C : Addr} {d : Option Addr} {oe : Obj} {e : Expr} {pos : Pos} {te : TED}
def tFalse : TED := fun _ _ _ => False
theorem u_tFalse {ρ : StD} {H : HD} {Q : QD} : tFalse ρ H Q = False := rfl
theorem pd_false : PD X cs e tFalse := ⟨⟨fun pins s σ H Q I h => by
  obtain ⟨_, _, _, _, _, z, _⟩ := h
  exact z.elim⟩⟩
theorem pd_lcH {elt tg l : Expr} {ifs : List Expr} {scope : Scope} (own : List (Str × Nat)) {tl : TED} {g : TgD} {tt : TTD} (hot : HotA X a C d oe) (hN : X.N.Nodup) (hl : PD X cs l tl)
    (hg : ∀ (s : Shared) (H : Hp) (C : Addr) (cl : List (Str × Addr)) (fp : List Addr), PGD (X.blk s H scope (compEnvC scope cl C X.env) fp) tg g) (ht : ∀ (s : Shared) (H : Hp) (C : Addr) (cl : List (Str × Addr)) (fp : List Addr), PTsD (X.blk s H scope (compEnvC scope cl C X.env) fp) cs ifs tt)
    (he : ∀ (s : Shared) (H : Hp) (C : Addr) (cl : List (Str × Addr)) (fp : List Addr), PD (X.blk s H scope (compEnvC scope cl C X.env) fp) cs elt te) (ok : BlkOk X.N X.env.scope scope own := by exact blkOk_by (by kernel_rfl))
    (hsl : ∀ i ∈ g.slots, i ∈ own.map (·.2) := by decide) (hs : ∀ x, foldedSetIterable l X.env x = pure x := by intro _; rfl) : PD X cs (.ListComp elt [⟨tg, l, ifs, 0⟩] scope pos) (tLcG (iLs tl) g tt te (own.map (·.2))) :=
  ⟨PE.of (pe_lcHot (g := gT X.K g) hot.hotC hN hl.pe ok (fun s H C cl fp => hg s H C cl fp) (fun s H C cl fp => (ht s H C cl fp).pts) (fun s H C cl fp => (he s H C cl fp).pe) hs) fun _ _ _ h => ils_list (lf_lc hsl h)⟩
structure PIDH (X : Cx) (cs : Addr → Option (List Str)) (tg iter : Expr) (w : TID) : Prop where
  pi : L2H.PIH X tg iter (lfI ⟨X.K, cs⟩ w)
theorem pid_rng1H {tg a1 : Expr} {t : TAD} {p : Pos} (hm : X.mg "range" = none) (ha : PAD X cs [a1] t) (hg : Gl X "range" := by rfl) (hs : starEach [a1] X.env = [(false, eval a1 X.env)] := by rfl) : PIDH X cs tg (.Call (.Name "range" p) [a1] [] pos) (iR1 t) :=
  ⟨⟨fun pins s σ H R I h => (L2H.pi_range1H hg hm ha.pa hs).run pins s σ H R I (lf_rng1 h)⟩⟩
theorem psd_forH {tg iter : Expr} {body : List Stmt} {w : TID} {g : TgD} {tb : TSD} (hot : HotA X a C d oe) (hp : PassesOwn (model X.prog X.w) X.A X.env X.xe) (hi : PIDH X cs tg iter w) (hg : PGD X tg g) (hb : PSsD X cs body tb)
    (hs : ∀ x, foldedSetIterable iter X.env x = pure x := by intro _; rfl) : PSD X cs (.For tg iter body [] pos) (sFor w g tb) := ⟨PS.of (L2H.ps_forH hp hot.hotC hi.pi hg hb.ps hs) fun _ _ _ h => lf_for h⟩
/-! ### isinstance of the exception -/
def tellB (K : PySem.W.Frag) : D → Option Value
  | .ref x => some (.ref x)
  | .ty n => some (.type n)
  | _ => none
/-- of class C: isinstance by q answers b -/
structure IsF (K : PySem.W.Frag) (C : Addr) (q : D) (b : Bool) : Prop where
  exc : ExcC K C
  one : ∃ cv, tellB K q = some cv ∧ PySem.W.kitOne K (.ref C) cv = some b
def rIsX (a C : Addr) (d : Option Addr) (tab : List (Addr × D × Bool)) : List D → HD → QD → Prop := fun ds H Q => ∃ q b, ds = [.ref a, q] ∧ (C, q, b) ∈ tab ∧ (d = none ∨ ∃ dd fs, d = some dd ∧ H dd = some (.xd fs)) ∧ Q (.bl b) H
theorem call_isX {tab : List (Addr × D × Bool)} (hot : HotA X a C d oe) (T : ∀ t ∈ tab, IsF X.K t.1 t.2.1 t.2.2) : CallD X cs (.builtin "isinstance") (rIsX a C d tab) := by
  refine ⟨fun vs H Q => ∃ v q cv b, vs = [.ref a, v] ∧ (C, q, b) ∈ tab ∧ (∀ u, RelV v u → u = cv) ∧ PySem.W.kitOne X.K (.ref C) cv = some b ∧ (d = none ∨ ∃ dd fs, d = some dd ∧ H dd = some (.xd fs)) ∧ Q (.bl b) H, ?_, ?_⟩
  · intro pins s σ H vs us Q I rv h
    obtain ⟨v, q, cv, b, rfl, ht, hv, hk, hd, hq⟩ := h
    cases rv with
    | cons r0 rr =>
      cases rr with
      | cons r1 rr =>
        cases rr
        cases r0
        have e1 := hv _ r1
        subst e1
        have F := (T _ ht).exc
        obtain ⟨there, _⟩ := I.pin (a, oe) (List.mem_append_left _ hot.pn)
        obtain ⟨fs, hf⟩ := hot.fl
        have done : ∀ od, PySem.W.InstAt s.heap a oe C od → wpAny (model X.prog X.w) X.A (call (.builtin "isinstance") [.ref a, _]) (EP X pins σ Q) X.xe s := fun od J =>
          PySem.W.kia_one (PySem.W.kitx_exc (by obtain ⟨cd, hc, _⟩ := PySem.W.any_some F.hd; rw [hc] <;> rfl) F.hg F.hk F.hs F.ha F.hn F.ht F.hm) I.kIn J hk (fun z => nomatch z) fun tk => ⟨.bl b, H, I.kept (t' := tk) fun _ _ z => z, rfl, hq⟩
        rcases hd with hd | ⟨dd, gs, hd, e⟩
        · refine done none ⟨there, hot.zn.1, by unfold PySem.W.notCls; rw [hf] <;> rfl, ?_⟩
          rw [hot.zn.2.1, hd]
          trivial
        · have at_ : ObjOk X.prog X.w H s.heap dd (.xd gs) := I.hok dd _ e
          obtain ⟨mA, hns, _⟩ := at_
          obtain ⟨od, ho, _⟩ := lookIn_ns hns
          refine done (some od) ⟨there, hot.zn.1, by unfold PySem.W.notCls; rw [hf] <;> rfl, ?_⟩
          rw [hot.zn.2.1, hd]
          exact ho
  · intro H Hd ds vs Qd Q rh rd h k
    obtain ⟨q, b, rfl, ht, hd, hq⟩ := h
    obtain ⟨cv, t1, t2⟩ := (T _ ht).one
    cases rd with
    | cons r0 rr =>
      cases rr with
      | cons r1 rr =>
        cases rr
        cases r0
        refine ⟨_, q, cv, b, rfl, ht, ?_, t2, ?_, k _ H _ Hd (.refl H) rh .bl hq⟩
        · intro u hu
          cases r1 with
          | ref => cases t1; exact hu
          | ty => cases t1; first | exact hu | (cases hu; rfl)
          | _ => cases t1
        · rcases hd with z | ⟨dd, fs, z, e⟩
          · exact .inl z
          · obtain ⟨vs, g, _⟩ := rh _ _ e
            exact .inr ⟨dd, vs, z, g⟩
end
end Lt

end
section
set_option Elab.async false
set_option linter.all false
set_option maxRecDepth 100000
set_option maxHeartbeats 3200000
/-! Dh4: which refusal an exception is: the table of isinstance's answers, its facts as Bools. -/
namespace Lt
open PySem PySem.Spec L2
open L2H (RoomH)
theorem _root_.L2H.RoomH.units {k : Nat} {A : Around} (r : RoomH k A) : A.units + 64 < cLine := by have := r.un; omega
theorem _root_.L2H.RoomH.units65 {k : Nat} {A : Around} (r : RoomH k A) : A.units + 65 < cLine := by have := r.un; omega
theorem huH_of {k : Nat} {A : Around} (r : RoomH k A) : A.units + 1 < cLine := by have := r.un; omega
theorem roomH_su {k : Nat} {A : Around} {h : Option Value} (r : Room k A) : RoomH k (A.mark h) := ⟨r.dp, r.un⟩
def five (c : CA) : List (Addr × Nat) := [(c.BadWeb, 0), (c.NoHand, 1), (c.NoRoad, 2), (c.NoLetter, 3), (c.BadText, 4)]
def isTab (c : CA) : List (Addr × D × Bool) := (five c).flatMap fun p => (p.1, .ty "ValueError", true) :: (five c).map fun q => (p.1, .ref q.1, decide (p.2 = q.2))
theorem isTab_ty {c : CA} {C : Addr} {i : Nat} (h : (C, i) ∈ five c) : (C, .ty "ValueError", true) ∈ isTab c := List.mem_flatMap.mpr ⟨_, h, List.mem_cons_self⟩
theorem isTab_ref {c : CA} {C B : Addr} {i j : Nat} (h : (C, i) ∈ five c) (g : (B, j) ∈ five c) : (C, .ref B, decide (i = j)) ∈ isTab c :=
  List.mem_flatMap.mpr ⟨_, h, List.mem_cons_of_mem _ (List.mem_map.mpr ⟨_, g, rfl⟩)⟩
def excCB (K : PySem.W.Frag) (C : Addr) : Bool := eqV (PySem.W.findIn K (.ref C) "__getattribute__") (some (some (.builtin "BaseException.__getattribute__"))) && (eqV (PySem.W.findIn K (.ref C) "__getattr__") (some none) &&
  (decide (PySem.W.subIn K (.ref C) (.type "BaseException") = some true) && (PySem.W.hasDictIn K C && (eqV (PySem.W.findIn K (.ref C) "__class__") (some (some (.builtin "object.__class__"))) &&
    (eqV (PySem.W.specialIn K (.builtin "object.__class__") "__get__") (some (some (.builtin "getset_descriptor.__get__"))) && (decide (PySem.W.takesIn K (.builtin "object.__class__") = some true) && decide (PySem.W.mroIn K C (.type "object") = some true)))))))
theorem excCB_ok {K : PySem.W.Frag} {C : Addr} (h : excCB K C = true) : ExcC K C := by
  obtain ⟨h1, h⟩ := Bool.and_eq_true_iff.mp h
  obtain ⟨h2, h⟩ := Bool.and_eq_true_iff.mp h
  obtain ⟨h3, h⟩ := Bool.and_eq_true_iff.mp h
  obtain ⟨h4, h⟩ := Bool.and_eq_true_iff.mp h
  obtain ⟨h5, h⟩ := Bool.and_eq_true_iff.mp h
  obtain ⟨h6, h⟩ := Bool.and_eq_true_iff.mp h
  obtain ⟨h7, h8⟩ := Bool.and_eq_true_iff.mp h
  exact ⟨of_decide_eq_true h1, of_decide_eq_true h2, of_decide_eq_true h3, h4, of_decide_eq_true h5, of_decide_eq_true h6, of_decide_eq_true h7, of_decide_eq_true h8⟩
def isfB (K : PySem.W.Frag) (C : Addr) (q : D) (b : Bool) : Bool := match tellB K q with
  | some cv => decide (PySem.W.kitOne K (.ref C) cv = some b)
  | none => false
def isTabB (K : PySem.W.Frag) (c : CA) : Bool := ((five c).all fun p => excCB K p.1) && (isTab c).all fun t => isfB K t.1 t.2.1 t.2.2
theorem isTabB_ok {K : PySem.W.Frag} {c : CA} (h : isTabB K c = true) : ∀ t ∈ isTab c, IsF K t.1 t.2.1 t.2.2 := fun t ht => by
  obtain ⟨h1, h2⟩ := Bool.and_eq_true_iff.mp h
  have h3 := List.all_eq_true.mp h2 t ht
  refine ⟨excCB_ok ?_, ?_⟩
  · obtain ⟨p, hp, hm⟩ := List.mem_flatMap.mp ht
    have e : t.1 = p.1 := by
      rcases List.mem_cons.mp hm with z | z
      · rw [z]
      · obtain ⟨q, _, z⟩ := List.mem_map.mp z
        rw [← z]
    rw [e]
    exact List.all_eq_true.mp h1 p hp
  · unfold isfB at h3
    split at h3
    · rename_i cv e
      exact ⟨cv, e, of_decide_eq_true h3⟩
    · cases h3
/-- isinstance of the exception, answered -/
theorem isx_ty {c : CA} {a C : Addr} {d : Option Addr} {i : Nat} {H : HD} {Q : QD} (h : (C, i) ∈ five c) (hd : d = none ∨ ∃ dd fs, d = some dd ∧ H dd = some (.xd fs)) (q : Q (.bl true) H) : rIsX a C d (isTab c) [.ref a, .ty "ValueError"] H Q :=
  ⟨_, _, rfl, isTab_ty h, hd, q⟩
theorem isx_ref {c : CA} {a C B : Addr} {d : Option Addr} {i : Nat} (j : Nat) {H : HD} {Q : QD} (h : (C, i) ∈ five c) (g : (B, j) ∈ five c) (hd : d = none ∨ ∃ dd fs, d = some dd ∧ H dd = some (.xd fs)) (q : Q (.bl (decide (i = j))) H) : rIsX a C d (isTab c) [.ref a, .ref B] H Q :=
  ⟨_, _, rfl, isTab_ref h g, hd, q⟩
def wordOf : Nat → Str
  | 0 => "web"
  | 1 => "hand"
  | 2 => "road"
  | 3 => "letter"
  | _ => "text"
theorem dfh_false {P : Program} {w : World} {K : PySem.W.Frag} {mg : Str → Option Value} {base : Heap} {cs : Addr → Option (List Str)} {x qual : Str} {st : Stmt} {f : Addr} {N ps : List Str} {k : Nat} (F : FB K x qual st f ps) (S : FnScope N ps (defScope st)) :
    DfH P w K mg base cs (k + 1) f (fun _ _ _ _ _ _ _ => False) := by
  obtain ⟨fd, F, b⟩ := F
  refine ⟨⟨fd, ps, fnP_of F S (fun p vs H Q E h => ?_) (fun cdv p A outer s H vs Q E hot hr h => ?_), b⟩, F.kp⟩
  · obtain ⟨_, _, _, _, _, _, _, _, _, _, h, _⟩ := h
    exact h.elim
  · obtain ⟨_, _, _, _, _, _, _, _, _, _, h, _⟩ := h
    exact h.elim
/-- _law_is -/
def sph__law_is (c : CA) (a C : Addr) (d : Option Addr) : SpD := fun ds H Q E => ∃ (w : Str) (i : Nat), ds = [.ref a, .str w] ∧ (C, i) ∈ five c ∧ (d = none ∨ ∃ dd fs, d = some dd ∧ H dd = some (.xd fs)) ∧
  ∀ H' : HD, Ext H H' → Q (.bl (decide (w = wordOf i))) H'
end Lt

end
section
set_option Elab.async false
set_option linter.all false
set_option maxRecDepth 100000
set_option maxHeartbeats 3200000
/-! Lm1: a lambda is made: with or without a default; told by content. -/
namespace Lt
open PySem PySem.Spec PyProof.Rows L2 LamX
section
variable {X : Cx} {pins : List (Addr × Obj)} {σ : L2.St} {H : Hp} {s : Shared}
theorem inv_lm {q : Str} {L : LamT} {cl : List (Str × Addr)} {c : Addr} {dV doc pm ctv : Value} {o : Obj} {t' : Nat} (I : Inv X pins σ H s) (ho : o = { cls := .type "function", data := .func (PySem.W.kdv_fn "<lambda>" q L.params (.expr L.body) L.scope cl dV doc pm (.ref c) ctv) }) :
    Inv X pins σ (upd H s.heap.objs.size (LmO s.heap.objs.size q L cl c dV)) { s with heap := s.heap.push o, toks := t' } := by
  subst ho
  refine I.laid (fun b u e => Heap.get?_push_of_some _ e) (Nat.le_refl _) ?_
  have e : (s.heap.push ({ cls := .type "function", data := .func (PySem.W.kdv_fn "<lambda>" q L.params (.expr L.body) L.scope cl dV doc pm (.ref c) ctv) } : Obj)).get? s.heap.objs.size = some ({ cls := .type "function", data := .func (PySem.W.kdv_fn "<lambda>" q L.params (.expr L.body) L.scope cl dV doc pm (.ref c) ctv) } : Obj) := Heap.get?_push_size _ rfl
  exact ⟨⟨_, _, doc, pm, ctv, e⟩, ⟨_, e⟩, fun h1 h2 ⟨od, sl, d, p, t, z⟩ st => ⟨od, sl, d, p, t, st _ z⟩⟩
/-- what the heap is when the lambda is made -/
structure Lmd (H H1 : Hp) (P f : Addr) (q : Str) (L : LamT) (cl : List (Str × Addr)) (dV : Value) : Prop where
  k : ∀ b o, b ≠ P → H b = some o → H1 b = some o
  t : TabS H1 P q
  n : H f = none
  f : ∃ c, H1 f = some (LmO f q L cl c dV) ∧ H1 c = some (CodeO c q)
theorem lm_tail {c P : Addr} {L : LamT} {dV : Value} {pos : Pos} {fl : Nat} {E : Value → Shared → Prop} {Q : Value → Shared → Prop} (I : Inv X pins σ H s) (TB : TabB X.base X.mg c P) (hcode : X.env.code = .ref c) (tS : TabS H P (X.env.qual ++ "<lambda>"))
    (hfree : ∀ y ∈ L.scope.names, y.2 = .free → ∃ c, X.env.cells.lookup y.1 = some c)
    (h : ∀ (f : Addr) (H1 : Hp) (s' : Shared), Inv X pins σ H1 s' → Lmd H H1 P f (X.env.qual ++ "<lambda>") L (cloFrom X.env.cells L.scope.names []) dV → Q (.ref f) s') :
    wpAny (model X.prog X.w) X.A (makeTail "<lambda>" (X.env.qual ++ "<lambda>") L.params (.expr L.body) L.scope X.env dV .none none pos fl) Q E s := by
  obtain ⟨ps, hP, ht, ha⟩ := tS
  have bP : s.heap.BuiltinsAt X.mg P := TB.bm.keeps I.bk
  have hP' : s.heap.get? P = some { cls := .none, data := .fields ps } := I.hok P _ hP
  cases hc : codeAmong pos ps.toList with
  | none =>
    refine PySem.W.kdv_makeTail (mg := X.mg) (c := c) (P := P) (ps := ps) (closure_ok hfree) I.ok.glob (I.mod.glob.keeps I.bk) hcode (TB.code.keeps I.bk) hP' ht hc TB.gP bP fun c' ctv doc h' tk hx hge hlt hrec htb => ?_
    obtain ⟨c2, oc, vs, t, e2, hoc, hd, hv⟩ := hrec
    cases e2
    have nC : H c' = none := I.hok.fresh hge
    have I1 := inv_table (q := X.env.qual ++ "<lambda>") (t' := tk) (more := #[rawInt pos.line, rawInt pos.col, .ref c']) (h' := h') I hP (fun b o hb e => hx b o hb e) htb hge ⟨oc, vs, t, hoc, hd, hv⟩
    have I2 := inv_lm (q := X.env.qual ++ "<lambda>") (L := L) (cl := cloFrom X.env.cells L.scope.names []) (c := c') (dV := dV) (doc := doc) (pm := (X.mg "__name__").getD .none) (ctv := ctv) (t' := tk) I1 rfl
    have nf : h'.objs.size ≠ c' := Nat.ne_of_gt hlt
    have nfP : h'.objs.size ≠ P := fun z => by
      have := I1.hok.fresh (Nat.le_refl h'.objs.size)
      rw [z, upd_ne (ne_of_none hP nC), upd_same] at this
      cases this
    have stay : ∀ b o, b ≠ P → H b = some o → upd (upd (upd H P (.tbl (ps ++ #[rawInt pos.line, rawInt pos.col, .ref c']))) c' (CodeO c' (X.env.qual ++ "<lambda>"))) h'.objs.size (LmO h'.objs.size (X.env.qual ++ "<lambda>") L (cloFrom X.env.cells L.scope.names []) c' dV) b = some o := fun b o hb e => by
      have e1 : upd (upd H P (.tbl (ps ++ #[rawInt pos.line, rawInt pos.col, .ref c']))) c' (CodeO c' (X.env.qual ++ "<lambda>")) b = some o := by rw [upd_ne (ne_of_none e nC), upd_ne hb]; exact e
      rw [upd_ne (ne_of_none e1 (I1.hok.fresh (Nat.le_refl _)))]
      exact e1
    have eL : (ps ++ #[rawInt pos.line, rawInt pos.col, .ref c']).toList = ps.toList ++ [rawInt pos.line, rawInt pos.col, .ref c'] := by simp
    have cc : upd (upd (upd H P (.tbl (ps ++ #[rawInt pos.line, rawInt pos.col, .ref c']))) c' (CodeO c' (X.env.qual ++ "<lambda>"))) h'.objs.size (LmO h'.objs.size (X.env.qual ++ "<lambda>") L (cloFrom X.env.cells L.scope.names []) c' dV) c' = some (CodeO c' (X.env.qual ++ "<lambda>")) := by
      rw [upd_ne nf.symm, upd_same]
    refine h h'.objs.size _ _ I2 ⟨stay, ?_, I.hok.fresh (Nat.le_trans hge (Nat.le_of_lt hlt)), c', upd_same, cc⟩
    refine ⟨_, by rw [upd_ne nfP.symm, upd_ne (ne_of_none hP nC), upd_same], by rw [eL]; exact PySem.TriplesOk_snoc _ _ _ _ ht, fun p' cv hcv => ?_⟩
    rw [eL] at hcv
    rcases among_app _ ht hcv with z | z
    · obtain ⟨c0, e1, e2⟩ := ha p' cv z
      exact ⟨c0, e1, stay _ _ (fun w => by rw [w, hP] at e2; exact codeO_ne _ (Option.some.inj e2).symm) e2⟩
    · exact ⟨c', z, cc⟩
  | some cv =>
    obtain ⟨c', e, hco⟩ := ha pos cv hc
    subst e
    refine PySem.W.kdv_makeTailHit (mg := X.mg) (c := c) (P := P) (ps := ps) (closure_ok hfree) I.ok.glob (I.mod.glob.keeps I.bk) hcode (TB.code.keeps I.bk) hP' ht hc bP fun ctv doc h' tk hx hsz => ?_
    have I1 : Inv X pins σ H { s with heap := h', toks := tk } := I.kept hx
    have I2 := inv_lm (q := X.env.qual ++ "<lambda>") (L := L) (cl := cloFrom X.env.cells L.scope.names []) (c := c') (dV := dV) (doc := doc) (pm := (X.mg "__name__").getD .none) (ctv := ctv) (t' := tk) I1 rfl
    have nF : H h'.objs.size = none := I1.hok.fresh (Nat.le_refl _)
    have stay : ∀ b o, H b = some o → upd H h'.objs.size (LmO h'.objs.size (X.env.qual ++ "<lambda>") L (cloFrom X.env.cells L.scope.names []) c' dV) b = some o := fun b o e => by rw [upd_ne (ne_of_none e nF)]; exact e
    exact h h'.objs.size _ _ I2 ⟨fun b o _ e => stay b o e, TabS.ext ⟨ps, hP, ht, ha⟩ stay, nF, c', upd_same, stay _ _ hco⟩
/-- the made lambda in the told heap -/
theorem Lmd.rel {cs : Addr → Option (List Str)} {H1 : Hp} {Hd : HD} {P f : Addr} {q : Str} {L : LamT} {fr : List (Str × Addr)} {dV : Value} (m : Lmd H H1 P f q L (cloFrom fr L.scope.names []) dV) (df : DfOk H L dV) (rh : RelH ⟨X.K, cs⟩ H Hd) (hP : Hd P = some (.tab q)) :
    TupX H H1 ∧ RelH ⟨X.K, cs⟩ H1 (upD Hd f (.fn L q fr)) := by
  obtain ⟨ps, hps, _⟩ := rh _ _ hP
  have x1 : TupX H H1 := ⟨fun a xs e => m.k a _ (fun z => by rw [z, hps] at e; cases e) e, fun a o u e => m.k a _ (fun z => by rw [z, hps] at e; cases e) e⟩
  have x2 : ExtS H H1 := ⟨fun a p e => m.k a _ (fun z => by rw [z, hps] at e; cases e) e⟩
  refine ⟨x1, fun a c e => ?_⟩
  by_cases z : a = f
  · subst z
    rw [upD_same] at e
    cases e
    obtain ⟨c', h1, h2⟩ := m.f
    exact ⟨c', dV, h1, h2, df.ext x1.w⟩
  · rw [upD_ne z] at e
    by_cases w : a = P
    · subst w
      rw [hP] at e
      cases e
      exact m.t
    · obtain ⟨o, ho, _⟩ := (rh a c e).some
      exact (rh a c e).keep x1 x2 ((m.k a o w ho).trans ho.symm)
end
/-! ### the expression -/
/-- lambda: .., made in a frame with the cells fr, the table of code objects at P -/
def tLam (P : Addr) (q : Str) (fr : List (Str × Addr)) (L : LamT) : TED := fun ρ H Q => H P = some (.tab q) ∧ ∀ f, H f = none → Q (.ref f) (upD H f (.fn L q fr))
section
variable {X : Cx} {cs : Addr → Option (List Str)} {pos : Pos}
theorem pd_lam {c P : Addr} {L : LamT} (TB : TabB X.base X.mg c P) (hcode : X.env.code = .ref c) (hfree : ∀ y ∈ L.scope.names, y.2 = .free → X.env.scope.names.lookup y.1 = some .cell ∨ X.env.scope.names.lookup y.1 = some .free)
    (hdf : L.df = none) (hdef : defaultsOf L.params X.env = ([], [])) : PD X cs (.Lambda L.params L.body L.scope pos) (tLam P (X.env.qual ++ "<lambda>") X.env.cells L) := by
  refine ⟨⟨fun pins s σ H Q I h => ?_⟩⟩
  obtain ⟨ρ, Hd, Qd, rs, rh, ⟨hP, h⟩, k⟩ := h
  have hfr : ∀ y ∈ L.scope.names, y.2 = .free → ∃ c, X.env.cells.lookup y.1 = some c := fun y hy e => I.ok.has _ (hfree y hy e)
  refine PySem.W.kla_eval hdef ?_
  rw [makeFunction_eq]
  simp only [List.zip_nil_right, List.filterMap_nil, List.isEmpty_nil, if_true, pure_bind]
  refine lm_tail I TB hcode (rh _ _ hP) hfr fun f H1 s' I1 m => ?_
  obtain ⟨x1, rh1⟩ := m.rel (fr := X.env.cells) (by unfold DfOk; rw [hdf]) rh hP
  exact ⟨.ref f, H1, I1, rfl, k _ _ _ _ x1 rh1 .ref (h f (rh.free m.n))⟩
theorem pd_lamD {c P : Addr} {L : LamT} {x : Str} {n : Int} {j : Nat} {p : Pos} (TB : TabB X.base X.mg c P) (hcode : X.env.code = .ref c) (hfree : ∀ y ∈ L.scope.names, y.2 = .free → X.env.scope.names.lookup y.1 = some .cell ∨ X.env.scope.names.lookup y.1 = some .free)
    (hdf : L.df = some (x, n)) (hd : L.params.defaults = [.Constant (.int n) j p]) (hk0 : L.params.kw_defaults = []) : PD X cs (.Lambda L.params L.body L.scope pos) (tLam P (X.env.qual ++ "<lambda>") X.env.cells L) := by
  refine ⟨⟨fun pins s σ H Q I h => ?_⟩⟩
  obtain ⟨ρ, Hd, Qd, rs, rh, ⟨hP, h⟩, k⟩ := h
  have hfr : ∀ y ∈ L.scope.names, y.2 = .free → ∃ c, X.env.cells.lookup y.1 = some c := fun y hy e => I.ok.has _ (hfree y hy e)
  refine PySem.W.kdv_lam (by rw [hd]; rfl) hk0 ?_
  rw [hd]
  refine PySem.W.kdv_all1 (thn ((pe_int (X := X) (i := n)).run pins s σ H (fun v H1 => v = .int n ∧ H1 = H) I ⟨rfl, rfl⟩) fun u s1 ⟨v, H1, I1, rv, q1⟩ => ?_)
  obtain ⟨ev, eH⟩ := q1
  subst ev
  subst eH
  refine PySem.W.kdv_all0 ?_
  rw [makeFunction_eq]
  simp only [List.zip_nil_right, List.filterMap_nil, List.isEmpty_nil, if_true, pure_bind, List.isEmpty_cons, Bool.false_eq_true, if_false]
  refine wpAny_bind (wpAny_newTextTuple ?_)
  have hf : H1 s1.heap.objs.size = none := I1.hok.fresh (Nat.le_refl _)
  have I2 : Inv X pins σ (upd H1 s1.heap.objs.size (.tup [.int n])) { s1 with heap := s1.heap.push { cls := .type "tuple", data := .seq [u].toArray }, toks := s1.toks } :=
    I1.laid (t' := s1.toks) (fun b u e => Heap.get?_push_of_some _ e) (Nat.le_refl _) ⟨by rw [sizeLine_eq]; simp, [u], .cons rv .nil, ⟨_, Heap.get?_push_size _ rfl, rfl, _, rfl⟩⟩
  have rh2 := rh.newT (o := .tup [.int n]) hf
  have xN : TupX H1 (upd H1 s1.heap.objs.size (.tup [.int n])) := .new hf
  refine lm_tail I2 TB hcode (rh2 _ _ hP) hfr fun f H3 s' I3 m => ?_
  obtain ⟨x1, rh3⟩ := m.rel (fr := X.env.cells) (by unfold DfOk; rw [hdf]; exact ⟨_, rfl, upd_same⟩) rh2 hP
  exact ⟨.ref f, H3, I3, rfl, k _ _ _ _ (xN.trans x1) rh3 .ref (h f (rh2.free m.n))⟩
end
end Lt

end
section
set_option Elab.async false
set_option linter.all false
set_option maxRecDepth 100000
set_option maxHeartbeats 3200000
/-! Lm2: a made lambda is called while its maker's frame lives: in a try of the maker, or in a def that the maker has called. -/
namespace Lt
open PySem PySem.Spec PyProof.Rows L2 LamX
/-- what is seen of a lambda's text: its names are captured ones, globals, and its parameter with a default; j: the maker's slot of the parameter's name, if it has one -/
structure LamOk (N : List Str) (sc : Scope) (L : LamT) (j : Nat) : Prop where
  kind : L.scope.kind = .function
  co : L.scope.isCoroutine = false
  gen : L.scope.isGenerator = false
  cell : ∀ y ∈ L.scope.names, y.2 ≠ .cell
  free : ∀ y ∈ L.scope.names, y.2 = .free → sc.names.lookup y.1 = some .cell ∨ sc.names.lookup y.1 = some .free
  loc : ∀ y ∈ L.scope.names, y.2 = .local → L.df.map (·.1) = some y.1
  par : ∀ x, L.df.map (·.1) = some x → L.scope.names.lookup x = some .local ∧ ∀ i : Nat, N[i]? = some x → i = j
  bd0 : L.df = none → ∀ (q : Str) (cl : List (Str × Addr)) (doc pm cv ct : Value) (s : Shared), BindsTo s (PySem.W.kdv_fn "<lambda>" q L.params (.expr L.body) L.scope cl .none doc pm cv ct) ⟨[], []⟩ []
  bd1 : ∀ x n, L.df = some (x, n) → ∀ (q : Str) (cl : List (Str × Addr)) (t : Addr) (doc pm cv ct v : Value) (o : Obj) (m : Nat) (s : Shared), s.heap.get? t = some o → o.data = .seq #[v] m → BindsTo s (PySem.W.kdv_fn "<lambda>" q L.params (.expr L.body) L.scope cl (.ref t) doc pm cv ct) ⟨[], []⟩ [(x, v)]
abbrev lamE (X : Cx) (L : LamT) (q : Str) (a f c : Addr) : Env := PySem.W.envX q L.scope a f (.ref c) (cloFrom X.env.cells L.scope.names [])
/-- the context of the lambda's body -/
def lamC (X : Cx) (A : Around) (outer : List Env) (s : Shared) (H : Hp) (E : XK) (L : LamT) (q : Str) (f c : Addr) : Cx where
  prog := X.prog
  w := X.w
  K := X.K
  mg := X.mg
  base := X.base
  A := A.deeper (lamE X L q s.heap.objs.size f c)
  N := X.N
  s_0 := s
  H_0 := H
  env := lamE X L q s.heap.objs.size f c
  outer := outer
  stack := lamE X L q s.heap.objs.size f c :: outer
  ex := []
  fn := fun _ => false
  calm := true
  pn := []
  xe := fun e s' => wpAny (model X.prog X.w) (A.deeper (lamE X L q s.heap.objs.size f c)) (leaving (lamE X L q s.heap.objs.size f c) e) (fun _ s'' => L2N.CX X.prog X.w outer H s E e s'') (fun e' s'' => L2N.CX X.prog X.w outer H s E e' s'') s'
section
variable {X : Cx} {cs : Addr → Option (List Str)} {pins : List (Addr × Obj)} {σ : L2.St} {H HZ : Hp} {s sZ : Shared}
theorem lam_inv {A : Around} {outer : List Env} {E : XK} {L : LamT} {q : Str} {f c : Addr} {j : Nat} {binds : List (Str × Value)} {h₁ : Heap} {tk : Nat} (I : Inv X pins σ H s) (k : LamOk X.N X.env.scope L j) (e0 : Env0 X.prog X.w X.K X.mg X.base A outer sZ HZ) (hd : A.handled = none)
    (un : Un (frs X.stack) [] H HZ s.heap sZ.heap) (hns : h₁.Ns sZ.heap.objs.size fun y => binds.reverse.lookup y) (kp : ∀ b o, sZ.heap.get? b = some o → h₁.get? b = some o) :
    Inv (lamC X A outer sZ HZ E L q f c) [] (σ.set j none) HZ { sZ with heap := h₁, toks := tk } := by
  have hfree : ∀ y ∈ L.scope.names, y.2 = .free → ∃ c, X.env.cells.lookup y.1 = some c := fun y hy e => I.ok.has _ (k.free y hy e)
  have cm : ∀ {y c}, (cloFrom X.env.cells L.scope.names []).lookup y = some c → X.env.cells.lookup y = some c := fun {y c} e => by
    rcases cloFrom_mem (PySem.mem_of_lookup e) with hm | ⟨h1, h2⟩
    · cases hm
    · obtain ⟨c1, hc⟩ := hfree _ h1 rfl
      have hc : X.env.cells.lookup y = some c1 := hc
      have e2 : c = c1 := by rw [h2, hc] <;> rfl
      rw [e2]; exact hc
  have look : ∀ {y}, L.scope.names.lookup y = some .free → ∃ c, (cloFrom X.env.cells L.scope.names []).lookup y = some c := fun {y} hl =>
    mem_lookup (cloFrom_has (cells := X.env.cells) (acc := []) (PySem.mem_of_lookup hl))
  have cellK : ∀ {c : Addr} {v : Option Value}, H c = none → s.heap.IsCell c v → h₁.IsCell c v := fun {c v} n ⟨o, ho, hd⟩ => by
    obtain ⟨sl, q⟩ := un.any ho n (by simp)
    exact ⟨_, kp _ _ q, hd⟩
  have noA : ∀ b : Addr, b ∉ ([] : List Addr) := fun b z => by cases z
  refine ⟨⟨e0.mod, k.kind, rfl, rfl, Nat.le_refl _, fun y z c e1 e2 => I.ok.inj y z c (cm e1) (cm e2), fun y hy => ?_, fun y c z _ => (by cases (show false = true from z)), fun _ => hd, Around.frames_deeper e0.frames, .inr ⟨rfl, rfl⟩, fun b z => absurd z (noA b), e0.bs, e0.bsz, fun b _ _ => noA b,
      fun b z => absurd z (noA b), e0.funs, e0.frf⟩,
    rfl, e0.bare, Un.kept kp, ⟨_, hns, fun i y v e1 e2 e3 => ?_⟩, fun y c e => ?_, e0.hok.fresh (Nat.le_refl _), fun y c e => ?_, fun q hq => absurd (show q ∈ ([] : List (Addr × Obj)) ++ [] from hq) (by simp), e0.hok.kept kp, by rw [List.length_set]; exact I.len⟩
  · have hy : L.scope.names.lookup y = some .cell ∨ L.scope.names.lookup y = some .free := hy
    rcases hy with hy | hy
    · exact absurd rfl (k.cell _ (PySem.mem_of_lookup hy))
    · exact look hy
  · have e3 : Vis L.scope y := e3
    have e1 : X.N[i]? = some y := e1
    have hij : i ≠ j := fun z => by
      subst z
      rw [List.getElem?_set] at e2
      split at e2
      · split at e2
        · cases e2
        · cases e2
      · rename_i w; exact w rfl
    rw [List.getElem?_set_ne (Ne.symm hij)] at e2
    rcases e3 with v1 | v1 | v1
    · have := (k.par y (k.loc _ (PySem.mem_of_lookup v1) rfl)).2 i e1
      exact absurd this hij
    · exact absurd rfl (k.cell _ (PySem.mem_of_lookup v1))
    · obtain ⟨m, hn, hl⟩ := I.loc
      have hvis : Vis X.env.scope y := (k.free _ (PySem.mem_of_lookup v1) rfl).elim (fun z => .inr (.inl z)) (fun z => .inr (.inr z))
      obtain ⟨w', r, q⟩ := hl i y v e1 e2 hvis
      obtain ⟨c2, h2⟩ := look v1
      refine ⟨w', r, .inr ⟨.inr v1, c2, h2, ?_⟩⟩
      have c1 := cm h2
      rcases q with ⟨k', _⟩ | ⟨_, c3, e', z⟩
      · have k' : X.env.scope.names.lookup y = some .local := k'
        rcases k.free _ (PySem.mem_of_lookup v1) rfl with k2 | k2 <;> rw [show X.env.scope.names.lookup y = _ from k2] at k' <;> cases k'
      · rw [c1] at e'
        cases e'
        exact cellK (I.freeC y _ c1) z
  · obtain ⟨w', z⟩ := I.cell y c (cm e)
    exact ⟨w', cellK (I.freeC y c (cm e)) z⟩
  · obtain ⟨v, o, ho, hd⟩ := I.cell y c (cm e)
    exact un.free c o ho (I.freeC y c (cm e)) (by simp)
/-- a lambda's body: tb reads it at the maker's slots -/
structure LamD (X : Cx) (cs : Addr → Option (List Str)) (k : Nat) (q : Str) (L : LamT) (j : Nat) (tb : XD → TED) : Prop where
  ok : LamOk X.N X.env.scope L j
  hb : ∀ (A : Around) (outer : List Env) (s : Shared) (H : Hp) (E : XK) (Ed : XD) (f c : Addr), Room k (A.deeper (lamE X L q s.heap.objs.size f c)) → Wish (lamC X A outer s H E L q f c) cs (fun cls d _ H => E cls d H) (WdE Ed) → PD (lamC X A outer s H E L q f c) cs L.body (tb Ed)
theorem lam_code {A : Around} {outer : List Env} {E : XK} {Ed : XD} {L : LamT} {q : Str} {f : Addr} {j k : Nat} {tb : XD → TED} {ρ : StD} {Hd : HD} {Qd : QD} {Q : VK} (D : LamD X cs k q L j tb) (I : Inv X pins σ H s) (e0 : Env0 X.prog X.w X.K X.mg X.base A outer sZ HZ) (hr : Room (k + 1) A)
    (un : Un (frs X.stack) [] H HZ s.heap sZ.heap) (rs : RelS X.K HZ ρ σ) (rh : RelH ⟨X.K, cs⟩ HZ Hd) (hf : Hd f = some (.fn L q X.env.cells)) (ht : tb Ed (ρ.set j none) Hd Qd) (k1 : To ⟨X.K, cs⟩ HZ Qd Q) (k2 : ToX ⟨X.K, cs⟩ HZ Ed E) :
    codeAny (model X.prog X.w) A (.call (.ref f) ⟨[], []⟩) (CR (L2N.CX X.prog X.w) outer X.prog X.w HZ sZ Q E) sZ := by
  obtain ⟨c, dV, hL, hC, hD⟩ := rh _ _ hf
  obtain ⟨⟨od, sl, doc, pm, ctv, hfo⟩, _, _⟩ := e0.hok f _ hL
  obtain ⟨⟨oc, vs, t, hoc, hdc, hvc⟩, _, _⟩ := e0.hok c _ hC
  have lim : sZ.heap.NoLimit := e0.mod.nolimit.keeps fun b o e => (e0.bs b o e).1
  have bd : ∃ binds, BindsTo sZ (PySem.W.kdv_fn "<lambda>" q L.params (.expr L.body) L.scope (cloFrom X.env.cells L.scope.names []) dV doc pm (.ref c) ctv) ⟨[], []⟩ binds ∧ ∀ y ∈ binds, L.scope.names.lookup y.1 = some .local := by
    unfold DfOk at hD
    cases hdf : L.df with
    | none =>
      rw [hdf] at hD
      have hD : dV = .none := hD
      subst hD
      exact ⟨[], D.ok.bd0 hdf _ _ _ _ _ _ _, fun y hy => by cases hy⟩
    | some p =>
      obtain ⟨x, n⟩ := p
      rw [hdf] at hD
      obtain ⟨t0, e1, e2⟩ := hD
      subst e1
      obtain ⟨z, us, r, ⟨o, ho, hoc', m, hod⟩⟩ := e0.hok t0 _ e2
      cases r with
      | cons r1 r2 =>
        cases r2
        rename_i u
        refine ⟨[(x, u)], D.ok.bd1 x n hdf _ _ _ _ _ _ _ _ _ _ _ ho hod, fun y hy => ?_⟩
        rw [List.mem_singleton.mp hy]
        exact (D.ok.par x (by rw [hdf]; rfl)).1
  obtain ⟨binds, hb, hbl⟩ := bd
  refine PySem.W.kla_callFunE hr.depth hfo rfl D.ok.co D.ok.gen rfl ⟨c, oc, vs, t, rfl, hoc, hdc, hvc⟩ ?_
  refine hb _ _ _ _ (wpAny_newFunctionEnv D.ok.cell hbl (fun h₁ hns hsb => ⟨lim.fresh _ hsb, ?_⟩) D.ok.kind)
  show codeAny _ _ (.expr L.body (lamE X L q sZ.heap.objs.size f c)) _ _
  have kp : ∀ b o, sZ.heap.get? b = some o → h₁.get? b = some o := fun b o e => hsb.extBut b o (Nat.ne_of_lt (Heap.lt_size e)) (Heap.get?_push_of_some _ e)
  have J := lam_inv (E := E) (q := q) (f := f) (c := c) (tk := sZ.toks + binds.length) I D.ok e0 hr.hd un hns kp
  have wl : Wish (lamC X A outer sZ HZ E L q f c) cs (fun cls d _ H => E cls d H) (WdE Ed) := ⟨L2N.takes_of rfl rfl rfl rfl, fun C fs d σ ρ H' Hd' ex rs rh' xr z => k2 C fs H' Hd' d ex rh' xr z⟩
  have pe := (D.hb A outer sZ HZ E Ed f c (hr.deeper _) wl).pe
  refine PySem.W.kla_codeExpr (wpAny_mono (pe.run [] _ (σ.set j none) HZ Q J ⟨ρ.set j none, Hd, Qd, rs.none j, rh, ht, k1⟩) (fun v s' hq => ?_) fun e s' hq => hq)
  obtain ⟨w', H', J', rv, q'⟩ := hq
  exact ⟨w', H', J'.os, J'.bare, J'.base, J'.hok, rv, q'⟩
end
end Lt

end
section
set_option Elab.async false
set_option linter.all false
set_option maxRecDepth 100000
set_option maxHeartbeats 3200000
/-! Lm3: calls of made lambdas as calls of a try. -/
namespace Lt
open PySem PySem.Spec PyProof.Rows L2 LamX
/-- the lambdas that may be called: text, slot of the parameter's name, reading -/
abbrev LamL := List (LamT × Nat × (XD → TED))
/-- x(), x the maker's own variable at i -/
def tLamI (Ls : LamL) (q : Str) (fr : List (Str × Addr)) (i : Nat) : WD → TED := fun wd ρ H Q => ∃ f p, ρ[i]? = some (some (.ref f)) ∧ p ∈ Ls ∧ H f = some (.fn p.1 q fr) ∧ p.2.2 (fun C fs Hx => wd C fs ρ Hx) (ρ.set p.2.1 none) H Q
/-- x(), x a variable of a def that the maker has called; ρm: the maker's slots -/
def tLamO (Ls : LamL) (q : Str) (fr : List (Str × Addr)) (i : Nat) (ρm : StD) : WD → TED := fun wd ρ H Q => ∃ f p, ρ[i]? = some (some (.ref f)) ∧ p ∈ Ls ∧ H f = some (.fn p.1 q fr) ∧ p.2.2 (fun C fs Hx => wd C fs ρ Hx) (ρm.set p.2.1 none) H Q
section
variable {X : Cx} {cs : Addr → Option (List Str)} {p1 p2 : Pos} {k : Nat} {q : Str} {Ls : LamL}
theorem px_lamIn {i : Nat} {a : Str} (hL : ∀ p ∈ Ls, LamD X cs k q p.1 p.2.1 p.2.2) (hr : Room (k + 1) X.A) (pn : List (Addr × Obj)) (xe : Value → Shared → Prop) (hv : Vis X.env.scope a) (hN : X.N[i]? = some a := by rfl)
    (hd : (a == ("__debug__" : Str)) = false := by decide) (hcd : (a == ("__classdict__" : Str)) = false := by decide) : PXD (X.tr pn xe) cs (.Call (.Name a p1) [] [] p2) (tLamI Ls q X.env.cells i) := by
  refine ⟨fun W tk => ⟨fun pins s σ H Q I h => ?_⟩⟩
  obtain ⟨wd, ρ, Hd, Qd, rs, rh, ⟨f, p, hi, hp, hf, ht⟩, k1, lk⟩ := h
  obtain ⟨v, hσ, rv⟩ := rs.at_ i _ hi
  cases rv
  refine wpAny_Call_Name_kw (thn ((pe_var (X := X.tr pn xe) (pos := p1) (i := i) hN hv hd hcd).run pins s σ H (fun v H1 => v = .ref f ∧ H1 = H) I ⟨.ref f, hσ, rfl, rfl⟩) fun u s1 ⟨v, H1, I1, r1, ev, eH⟩ => ?_)
  subst ev
  subst eH
  obtain rfl : u = Value.ref f := r1
  obtain ⟨c, dV, hLo, _, _⟩ := rh _ _ hf
  obtain ⟨⟨od, sl, doc, pm, ctv, hfo⟩, _, _⟩ := I1.hok f _ hLo
  refine PySem.W.callWith_F0 ⟨_, _, _, _, hfo⟩ ?_
  have D : LamD (X.tr pn xe) cs k q p.1 p.2.1 p.2.2 := ⟨(hL p hp).ok, (hL p hp).hb⟩
  have rc := lam_code (E := WE W σ) (Ed := fun C fs Hx => wd C fs ρ Hx) D I1 I1.env0 hr Un.refl rs rh hf ht k1 fun C fs H' Hd' d e rh' xr q' => lk C fs d ρ H' Hd' e (rs.ext e) rh' xr q'
  refine wpAny_call (codeAny_mono rc fun r s' hq => ?_)
  cases r with
  | error e => exact L2N.passAt tk σ pins _ _ e s' I1 hq
  | ok fl =>
    cases fl with
    | ret u => exact I1.after hq
    | next => exact False.elim hq
    | brk => exact False.elim hq
    | cont => exact False.elim hq
theorem px_lamOut {pins : List (Addr × Obj)} {σ : L2.St} {H : Hp} {s : Shared} {ρm : StD} {Ng : List Str} {qg : Str} {sg : Scope} {g : Addr} {cdg : Value} {Eg : XK} {i : Nat} {a : Str} (hL : ∀ p ∈ Ls, LamD X cs k q p.1 p.2.1 p.2.2) (I : Inv X pins σ H s) (rm : RelS X.K H ρm σ) (hr : Room (k + 1) (X.A.deeper (envOfC qg sg s.heap.objs.size g cdg)))
    (pn : List (Addr × Obj)) (xe : Value → Shared → Prop) (hv : Vis sg a) (hN : Ng[i]? = some a := by rfl)
    (hd : (a == ("__debug__" : Str)) = false := by decide) (hcd : (a == ("__classdict__" : Str)) = false := by decide) :
    PXD ((cxOf (L2N.CX X.prog X.w) X.prog X.w X.K X.mg X.base Ng qg sg g cdg X.A X.stack s H Eg).tr pn xe) cs (.Call (.Name a p1) [] [] p2) (tLamO Ls q X.env.cells i ρm) := by
  refine ⟨fun W tk => ⟨fun pinsZ sZ σZ HZ Q IZ h => ?_⟩⟩
  obtain ⟨wd, ρ, Hd, Qd, rs, rh, ⟨f, p, hi, hp, hf, ht⟩, k1, lk⟩ := h
  obtain ⟨v, hσ, rv⟩ := rs.at_ i _ hi
  cases rv
  refine wpAny_Call_Name_kw (thn ((pe_var (pos := p1) (i := i) hN hv hd hcd).run pinsZ sZ σZ HZ (fun v H1 => v = .ref f ∧ H1 = HZ) IZ ⟨.ref f, hσ, rfl, rfl⟩) fun u s1 ⟨v, H1, I1, r1, ev, eH⟩ => ?_)
  subst ev
  subst eH
  obtain rfl : u = Value.ref f := r1
  obtain ⟨c, dV, hLo, _, _⟩ := rh _ _ hf
  obtain ⟨⟨od, sl, doc, pm, ctv, hfo⟩, _, _⟩ := I1.hok f _ hLo
  refine PySem.W.callWith_F0 ⟨_, _, _, _, hfo⟩ ?_
  have tX : TupX H H1 := Inv.tupX I1
  have rc := lam_code (X := X) (E := WE W σZ) (Ed := fun C fs Hx => wd C fs ρ Hx) (hL p hp) I I1.env0 hr I1.base (rm.ext tX) rh hf ht k1 fun C fs H' Hd' d e rh' xr q' => lk C fs d ρ H' Hd' e (rs.ext e) rh' xr q'
  refine wpAny_call (codeAny_mono rc fun r s' hq => ?_)
  cases r with
  | error e => exact L2N.passAt tk σZ pinsZ _ _ e s' I1 hq
  | ok fl =>
    cases fl with
    | ret u => exact I1.after hq
    | next => exact False.elim hq
    | brk => exact False.elim hq
    | cont => exact False.elim hq
/-! ### a def that gets a lambda, called by its maker -/
def tRef (Ng : List Str) (m : Nat) (tB : StD → XD → TSD) (wd : WD) (t : TAD) : TED := fun ρ H Q => t ρ H fun ds H1 => ds.length = m ∧ tB ρ (fun C fs Hx => wd C fs ρ Hx) { nx := fun _ H' => Q .non H', rt := Q } (startD Ng ds) H1
theorem pd_lref {W : WX} {wd : WD} {xg qg x : Str} {st : Stmt} {g : Addr} {Ng psg : List Str} {t : TAD} {tB : StD → XD → TSD} {e : Expr} {es : List Expr} {p pos : Pos} (F : FB X.K xg qg st g psg) (S : FnScope Ng psg (defScope st)) (hr : Room (k + 1) X.A) (wl : Wish X cs W wd) (hm : X.mg x = some (.ref g)) (ha : PAD X cs (e :: es) t)
    (hB : ∀ (pins : List (Addr × Obj)) (σ : L2.St) (H : Hp) (s : Shared) (ρ : StD) (cdv : Value) (E : XK) (Ed : XD), Inv X pins σ H s → RelS X.K H ρ σ → Room k (X.A.deeper (envOfC qg (defScope st) s.heap.objs.size g cdv)) →
      Wish (cxOf (L2N.CX X.prog X.w) X.prog X.w X.K X.mg X.base Ng qg (defScope st) g cdv X.A X.stack s H E) cs (fun cls d _ H => E cls d H) (WdE Ed) →
      PassesOwn (model X.prog X.w) (cxOf (L2N.CX X.prog X.w) X.prog X.w X.K X.mg X.base Ng qg (defScope st) g cdv X.A X.stack s H E).A (cxOf (L2N.CX X.prog X.w) X.prog X.w X.K X.mg X.base Ng qg (defScope st) g cdv X.A X.stack s H E).env (cxOf (L2N.CX X.prog X.w) X.prog X.w X.K X.mg X.base Ng qg (defScope st) g cdv X.A X.stack s H E).xe →
      PSsD (cxOf (L2N.CX X.prog X.w) X.prog X.w X.K X.mg X.base Ng qg (defScope st) g cdv X.A X.stack s H E) cs (defBody st) (tB ρ Ed)) (hg : Gl X x := by rfl)
    (hdb : (x == ("__debug__" : Str)) = false := by decide) (he : starEach (e :: es) X.env = (false, eval e X.env) :: starEach es X.env := by rfl) (hpl : (backTo pos (starEach es X.env)).any (·.1) = false := by rfl) :
    PD X cs (.Call (.Name x p) (e :: es) [] pos) (tRef Ng psg.length tB wd t) := by
  refine ⟨⟨fun pins s σ H Q I h => ?_⟩⟩
  obtain ⟨ρ, Hd, Qd, rs, rh, h, k1⟩ := h
  obtain ⟨fd, F, hb⟩ := F
  refine wpAny_Call_Name_kw (ld_glob I hg hm ?_ hdb)
  refine PySem.W.callWith_K (h₀ := X.base) I.ok.mod.kin F.kp (thn (ha.pa.run pos pins s σ H (fun vs H1 => ∃ ds Hd1, TupX H H1 ∧ RelH ⟨X.K, cs⟩ H1 Hd1 ∧ RDs X.K H1 ds vs ∧ ds.length = psg.length ∧ tB ρ (fun C fs Hx => wd C fs ρ Hx) { nx := fun _ H' => Qd .non H', rt := Qd } (startD Ng ds) Hd1) I
    ⟨ρ, Hd, _, rs, rh, h, fun vs H1 ds Hd1 e1 rh1 rd h1 => ⟨ds, Hd1, e1, rh1, rd, h1⟩⟩) fun us s1 ⟨vs, H1, I1, r, ds, Hd1, e1, rh1, rd, hl, q1⟩ => ⟨I1.kIn, ?_⟩) he hpl
  obtain ⟨⟨oc, od, kV, doc, pm, an, cdv, ct, osl, rfl, found, code⟩, kp⟩ := F
  have hvl : vs.length = psg.length := by rw [← rd.length]; exact hl
  have hul : us.length = psg.length := by rw [← r.length]; exact hvl
  have b := hb s1 us I1.kIn (by rw [List.append_nil]; exact hul)
  rw [List.append_nil] at b
  have rc : codeAny (model X.prog X.w) X.A (.call (.ref g) ⟨us, []⟩) (CR (L2N.CX X.prog X.w) X.stack X.prog X.w H1 s1 Q (WE W σ)) s1 := by
    refine run_ofS (N := Ng) (ps := psg) (us := us) (vs := vs) found code S hr I1.env0 b r hvl fun hr' => ?_
    refine ⟨_, (hB pins σ H1 s1 ρ cdv (WE W σ) (fun C fs Hx => wd C fs ρ Hx) I1 (rs.ext e1) hr' ⟨L2N.takes_of rfl rfl rfl rfl, fun C fs d σ' ρ' H' Hd' ex rs' rh' xr z => wl.lk C fs d σ ρ H' Hd' (((Inv.tupX I).trans e1).trans ex) (rs.ext (e1.trans ex)) rh' xr z⟩ (passes_of rfl)).ps, ?_⟩
    exact ⟨startD Ng ds, Hd1, { nx := fun _ H' => Qd .non H', rt := Qd }, RelS.start rd Ng, rh1, q1, fun σ' ρ' H' Hd' e' rh' rs' z => (k1.ext e1) .non H' .non Hd' e' rh' .non z, k1.ext e1, fun _ _ _ _ _ _ _ z => z.elim, fun _ _ _ _ _ _ _ z => z.elim⟩
  refine wpAny_call (codeAny_mono rc fun r s' hq => ?_)
  cases r with
  | error e => exact L2N.passAt wl.tk σ pins _ _ e s' I1 hq
  | ok fl =>
    cases fl with
    | ret u => exact I1.after hq
    | next => exact False.elim hq
    | brk => exact False.elim hq
    | cont => exact False.elim hq
end
end Lt

end
section
set_option Elab.async false
set_option linter.all false
set_option maxRecDepth 100000
set_option maxHeartbeats 3200000
/-! Lm4: from the head to a def that makes lambdas: its code object, its table. -/
namespace Lt
open PySem PySem.Spec PyProof.Rows L2 LamX
/-! ### a def whose code object is known -/
section
variable {P : Program} {w : World} {K : PySem.W.Frag} {mg : Str → Option Value} {base : Heap} {cs : Addr → Option (List Str)}
theorem fn_okL {dn : He.Defn} {x qual : Str} {st : Stmt} {f : Addr} {fd : FuncData} {N ps : List Str} {k : Nat} (sp : SpD) (F : Fun K x qual st f fd) (hf : f = He.fAd K dn) (S : FnScope N ps (defScope st)) (len : ∀ ds H Q E, sp ds H Q E → ds.length = ps.length)
    (hbody : ∀ (A : Around) (outer : List Env) (s : Shared) (H : Hp) (E : XK) (Ed : XD), Room k (A.deeper (envOfC qual (defScope st) s.heap.objs.size f (.ref (He.codeOf K dn)))) →
      Wish (cxOf (L2N.CX P w) P w K mg base N qual (defScope st) f (.ref (He.codeOf K dn)) A outer s H E) cs (fun cls d _ H => E cls d H) (WdE Ed) →
      PassesOwn (model P w) (cxOf (L2N.CX P w) P w K mg base N qual (defScope st) f (.ref (He.codeOf K dn)) A outer s H E).A (cxOf (L2N.CX P w) P w K mg base N qual (defScope st) f (.ref (He.codeOf K dn)) A outer s H E).env (cxOf (L2N.CX P w) P w K mg base N qual (defScope st) f (.ref (He.codeOf K dn)) A outer s H E).xe →
      ∃ t, PSsD (cxOf (L2N.CX P w) P w K mg base N qual (defScope st) f (.ref (He.codeOf K dn)) A outer s H E) cs (defBody st) t ∧ ∀ ds Hd Qd, sp ds Hd Qd Ed → t { nx := fun _ H' => Qd .non H', rt := Qd } (startD N ds) Hd) :
    FnOk P w K mg base (L2N.CX P w) (k + 1) f fd ps (lfSp ⟨K, cs⟩ sp) := by
  obtain ⟨⟨oc, od, kV, doc, pm, an, cdv, ct, osl, rfl, found, code⟩, kp⟩ := F
  obtain ⟨c, rfl⟩ := He.codeIn_ref code
  have ec : He.codeOf K dn = c := He.codeOf_eq (by rw [← hf]; exact found) rfl
  subst ec
  refine fn_of found code S (fun vs H Q E h => ?_) fun A outer s H vs Q E hr h => ?_
  · obtain ⟨ds, Hd, Qd, Ed, rd, _, h, _⟩ := h
    rw [← rd.length]
    exact len _ _ _ _ h
  · obtain ⟨ds, Hd, Qd, Ed, rd, rh, h, k1, k2⟩ := h
    obtain ⟨t, ht, q⟩ := hbody A outer s H E Ed hr ⟨L2N.takes_of rfl rfl rfl rfl, fun C fs d σ ρ H' Hd' ex rs rh' xr z => k2 C fs H' Hd' d ex rh' xr z⟩ (passes_of rfl)
    refine ⟨_, ht.ps, startD N ds, Hd, { nx := fun _ H' => Qd .non H', rt := Qd }, RelS.start rd N, rh, q ds Hd Qd h, fun σ ρ H' Hd' e rh' rs' z => ?_, k1, fun _ _ _ _ _ _ _ z => z.elim, fun _ _ _ _ _ _ _ z => z.elim⟩
    exact k1 .non H' .non Hd' e rh' .non z
theorem df_ofL {dn : He.Defn} {x qual : Str} {st : Stmt} {f : Addr} {N ps : List Str} {k : Nat} (sp : SpD) (F : FB K x qual st f ps) (hf : f = He.fAd K dn) (S : FnScope N ps (defScope st)) (len : ∀ ds H Q E, sp ds H Q E → ds.length = ps.length)
    (hbody : ∀ (A : Around) (outer : List Env) (s : Shared) (H : Hp) (E : XK) (Ed : XD), Room k (A.deeper (envOfC qual (defScope st) s.heap.objs.size f (.ref (He.codeOf K dn)))) →
      Wish (cxOf (L2N.CX P w) P w K mg base N qual (defScope st) f (.ref (He.codeOf K dn)) A outer s H E) cs (fun cls d _ H => E cls d H) (WdE Ed) →
      PassesOwn (model P w) (cxOf (L2N.CX P w) P w K mg base N qual (defScope st) f (.ref (He.codeOf K dn)) A outer s H E).A (cxOf (L2N.CX P w) P w K mg base N qual (defScope st) f (.ref (He.codeOf K dn)) A outer s H E).env (cxOf (L2N.CX P w) P w K mg base N qual (defScope st) f (.ref (He.codeOf K dn)) A outer s H E).xe →
      ∃ t, PSsD (cxOf (L2N.CX P w) P w K mg base N qual (defScope st) f (.ref (He.codeOf K dn)) A outer s H E) cs (defBody st) t ∧ ∀ ds Hd Qd, sp ds Hd Qd Ed → t { nx := fun _ H' => Qd .non H', rt := Qd } (startD N ds) Hd) :
    Df P w K mg base cs (k + 1) f sp := by
  obtain ⟨fd, F, b⟩ := F
  exact ⟨⟨fd, ps, fn_okL sp F hf S len hbody, b⟩, F.kp⟩
/-! ### a body run while a cell is locked -/
theorem pss_lock {X : Cx} {st : List Stmt} {t : TS} (h : PSs X st t) : PSs X st (tLock t) := by
  refine ⟨fun pins s σ H D I hw => ?_⟩
  obtain ⟨d, u, hd, mu, hw⟩ := hw
  obtain ⟨od, I1⟩ := I.lock hd mu
  refine thn (h.run pins s σ _ _ I1 (hw od)) fun f s1 q => ?_
  cases f with
  | next => obtain ⟨σ', H', I2, e, q⟩ := q; exact ⟨σ', _, I2.unlock e (I.nofrz hd mu), q⟩
  | brk => obtain ⟨σ', H', I2, e, q⟩ := q; exact ⟨σ', _, I2.unlock e (I.nofrz hd mu), q⟩
  | cont => obtain ⟨σ', H', I2, e, q⟩ := q; exact ⟨σ', _, I2.unlock e (I.nofrz hd mu), q⟩
  | ret v => obtain ⟨x, σ', H', I2, r, e, q⟩ := q; exact ⟨x, σ', _, I2.unlock e (I.nofrz hd mu), r, q⟩
/-! ### the law -/
def tabH (ts : List (Addr × Str)) : HD := fun b => (ts.lookup b).map DO.tab
theorem lookup_memK {a : Addr} {q : Str} : ∀ {ts : List (Addr × Str)}, ts.lookup a = some q → (a, q) ∈ ts
  | [], h => by cases h
  | (b, u) :: r, h => by
    rw [List.lookup_cons] at h
    cases e : (a == b) with
    | true => rw [e] at h; cases h; rw [beq_iff_eq.mp e]; exact List.mem_cons_self ..
    | false => rw [e] at h; exact .tail _ (lookup_memK h)
theorem tabH_rel {H : Hp} {ts : List (Addr × Str)} (h : ∀ p ∈ ts, H p.1 = some (.tbl #[])) : RelH ⟨K, cs⟩ H (tabH ts) := fun a c e => by
  unfold tabH at e
  obtain ⟨q, e1, e2⟩ := Option.map_eq_some_iff.mp e
  rw [← e2]
  exact TabS.nil (h _ (lookup_memK e1))
/-- what the law is asked: the script; the tables are empty -/
def SpL (K : PySem.W.Frag) (ts : List (Addr × Str)) (sp : SpD) : Sp := fun vs H Q E => ∃ (a : Addr) (ns : List Int), vs = [.ref a] ∧ (∀ p ∈ ts, H p.1 = some (.tbl #[])) ∧ SqL K H a (ns.map V.int) ∧ sp [.rl (ns.map D.int)] (tabH ts) (fun d _ => d = .bl true) (fun _ _ _ => False) ∧ Q = fun v _ => v = .bl true
theorem fn_lawL {ts : List (Addr × Str)} {dn : He.Defn} {x xn qual : Str} {st : Stmt} {f : Addr} {fd : FuncData} {N : List Str} {k : Nat} (sp : SpD) (F : Fun K x qual st f fd) (hf : f = He.fAd K dn) (S : FnScope N [xn] (defScope st))
    (hbody : ∀ (A : Around) (outer : List Env) (s : Shared) (H : Hp) (E : XK) (Ed : XD), Room k (A.deeper (envOfC qual (defScope st) s.heap.objs.size f (.ref (He.codeOf K dn)))) →
      Wish (cxOf (L2N.CX P w) P w K mg base N qual (defScope st) f (.ref (He.codeOf K dn)) A outer s H E) cs (fun cls d _ H => E cls d H) (WdE Ed) →
      PassesOwn (model P w) (cxOf (L2N.CX P w) P w K mg base N qual (defScope st) f (.ref (He.codeOf K dn)) A outer s H E).A (cxOf (L2N.CX P w) P w K mg base N qual (defScope st) f (.ref (He.codeOf K dn)) A outer s H E).env (cxOf (L2N.CX P w) P w K mg base N qual (defScope st) f (.ref (He.codeOf K dn)) A outer s H E).xe →
      ∃ t, PSsD (cxOf (L2N.CX P w) P w K mg base N qual (defScope st) f (.ref (He.codeOf K dn)) A outer s H E) cs (defBody st) t ∧ ∀ ds Hd Qd, sp ds Hd Qd Ed → t { nx := fun _ H' => Qd .non H', rt := Qd } (startD N ds) Hd) :
    FnOk P w K mg base (L2N.CX P w) (k + 1) f fd [xn] (SpL K ts sp) := by
  obtain ⟨⟨oc, od, kV, doc, pm, an, cdv, ct, osl, rfl, found, code⟩, kp⟩ := F
  obtain ⟨c, rfl⟩ := He.codeIn_ref code
  have ec : He.codeOf K dn = c := He.codeOf_eq (by rw [← hf]; exact found) rfl
  subst ec
  refine fn_of found code S (fun vs H Q E h => ?_) fun A outer s H vs Q E hr h => ?_
  · obtain ⟨a, ns, rfl, _⟩ := h; rfl
  · obtain ⟨a, ns, rfl, hT, hS, h, rfl⟩ := h
    obtain ⟨t, ht, q⟩ := hbody A outer s H E (fun _ _ _ => False) hr ⟨L2N.takes_of rfl rfl rfl rfl, fun C fs d σ ρ H' Hd' ex rs rh' xr z => z.elim⟩ (passes_of rfl)
    have q1 := q _ _ _ h
    have go : ∀ H1 : Hp, SqR K H1 a (ns.map V.int) → RelH ⟨K, cs⟩ H1 (tabH ts) → ∀ Dn : Ends, (∀ v H', TupX H1 H' → v = V.bl true → Dn.rt v H') → lfS ⟨K, cs⟩ t Dn (start N [.ref a]) H1 := fun H1 hR rh Dn hk => by
      refine ⟨startD N [.rl (ns.map D.int)], tabH ts, { nx := fun _ H' => (fun (d : Lt.D) (_ : HD) => d = .bl true) .non H', rt := fun d _ => d = .bl true }, RelS.start (.cons (.rl hR (RDs.ints ns)) .nil) N, rh, q1, fun σ ρ H' Hd' e rh' rs' z => (by cases z), fun v H' d Hd' e _ r z => ?_, fun _ _ _ _ _ _ _ z => z.elim, fun _ _ _ _ _ _ _ z => z.elim⟩
      cases z
      cases r
      exact hk _ H' e rfl
    have fin : ∀ H1 : Hp, SqR K H1 a (ns.map V.int) → (∀ p ∈ ts, H1 p.1 = some (.tbl #[])) → ∀ Dn : Ends, (∀ v H', TupX H1 H' → v = V.bl true → Dn.rt v H') → lfS ⟨K, cs⟩ t Dn (start N [.ref a]) H1 := fun H1 hR hT1 Dn hk => go H1 hR (tabH_rel hT1) Dn hk
    have done : SqR K H a (ns.map V.int) → ∃ t, PSs (cxOf (L2N.CX P w) P w K mg base N qual (defScope st) f (.ref (He.codeOf K dn)) A outer s H E) (defBody st) t ∧ t { nx := fun _ H' => (fun v (_ : Hp) => v = V.bl true) .non H', rt := fun v _ => v = .bl true } (start N [.ref a]) H := fun hR =>
      ⟨_, ht.ps, fin H hR hT _ fun v H' _ e => e⟩
    rcases hS with hS | hS
    · rcases hS with hS | hS
      · refine ⟨_, pss_lock ht.ps, a, _, hS, True.intro, fun od => ?_⟩
        have ne : ∀ p ∈ ts, p.1 ≠ a := fun p hp z => by
          have := hT p hp
          rw [z, hS] at this; cases this
        refine fin _ (.inl ⟨od, upd_same⟩) (fun p hp => by rw [upd_ne (ne p hp)]; exact hT p hp) _ fun v H' e ev => ⟨e.z _ _ _ upd_same, ev⟩
      · exact done (.inl hS)
    · exact done (.inr hS)
end
/-! ### the hook -/
structure SaysL (fa : List He.Fa) (fn : List He.DefD) (ex : PySem.W.Frag → Bool) (tf : List He.Defn) (h : Heap) (K : PySem.W.Frag) : Prop where
  e : SaysE fa fn ex K
  hd : ∀ p ∈ tf, PySem.W.codeHdIn K (He.cT K p).1 (He.cT K p).2 = true
  out : ∀ p ∈ tf, K.lookup (He.cT K p).2 = none
  empty : ∀ p ∈ tf, h.get? (He.cT K p).2 = some { cls := .none, data := .fields #[] }
abbrev AlL : Type := AlE × Bool
def frL (g : Addr → Option Obj) (n : Nat) : PySem.W.Frag := He.frT g (PySem.cStatics :: He.asD g n)
def obsLG (n : Nat) (fa : List He.Fa) (fn : List He.DefD) (ex : PySem.W.Frag → Bool) (tf : List He.Defn) (g : Addr → Option Obj) : AlL := (obsE fa fn ex (frL g n), He.tabsB g tf (frL g n))
theorem saysL_of {n : Nat} {fa : List He.Fa} {fn : List He.DefD} {ex : PySem.W.Frag → Bool} {tf : List He.Defn} {h : Heap} (e : obsLG n fa fn ex tf h.get? = ((He.valD fn, true), true)) : SaysL fa fn ex tf h (frL h.get? n) := by
  have e1 : obsE fa fn ex (frL h.get? n) = (He.valD fn, true) := congrArg (fun z : AlL => z.1) e
  have e2 : He.tabsB h.get? tf (frL h.get? n) = true := congrArg (fun z : AlL => z.2) e
  have key : ∀ p ∈ tf, PySem.W.codeHdIn (frL h.get? n) (He.cT (frL h.get? n) p).1 (He.cT (frL h.get? n) p).2 = true ∧ ∃ o, h.get? (He.cT (frL h.get? n) p).2 = some o ∧ He.emptyTab o = true := fun p hp => by
    obtain ⟨h3, h4⟩ := Bool.and_eq_true_iff.mp (List.all_eq_true.mp e2 p hp)
    refine ⟨h3, ?_⟩
    cases q : h.get? (He.cT (frL h.get? n) p).2 with
    | none => rw [q] at h4; cases h4
    | some o => rw [q] at h4; exact ⟨o, rfl, h4⟩
  exact ⟨⟨congrArg (fun z : AlE => z.1) e1, congrArg (fun z : AlE => z.2) e1⟩, fun p hp => (key p hp).1, fun p hp => by
    obtain ⟨_, o, q, z⟩ := key p hp
    exact He.frT_none q z, fun p hp => by
    obtain ⟨_, o, q, z⟩ := key p hp
    rw [q, He.emptyTab_eq z]⟩
def hookL (n : Nat) (fa : List He.Fa) (fn : List He.DefD) (ex : PySem.W.Frag → Bool) (tf : List He.Defn) : PySem.W.Hook where
  α := AlL
  obs := fun s => obsLG n fa fn ex tf s.heap.get?
  val := fun _ => ((He.valD fn, true), true)
  says := fun _ h => ∃ K : PySem.W.Frag, K.In h ∧ SaysL fa fn ex tf h K
  of := fun _ _ e => ⟨_, He.frT_in, saysL_of e⟩
  keeps := fun _ _ _ ⟨K, hK, c⟩ k => ⟨K, PySem.W.Frag.In.keeps hK k, ⟨c.e, c.hd, c.out, fun p hp => k _ _ (c.empty p hp)⟩⟩
theorem obsLG_eq {n : Nat} {fa : List He.Fa} {fn : List He.DefD} {ex : PySem.W.Frag → Bool} {tf : List He.Defn} {g : Addr → Option Obj} {s : Shared} (h : ∀ a, g a = s.heap.get? a) : obsLG n fa fn ex tf g = (hookL n fa fn ex tf).obs s := by
  have e : g = s.heap.get? := funext h
  rw [e] <;> rfl
theorem walk_ofL {l : PySem.W.OpenLaw} {n k : Nat} {q : Program} {loose : List Str} {XP : (Str → Option Value) → Heap → Prop} {YP : World → Heap → Prop} {d : DefRec} {x : Str}
    (hn : l.most = some n) (hn2 : n ≤ sizeLine) (hdf : d.params.defaults = []) (hr : Room k callerA)
    (F : ∀ (w : World) (mg : Str → Option Value) (fa : Addr) (h : Heap), YP w h → h.Ns mainGlobals mg → mg d.name = some (.ref fa) →
      ∃ (K : PySem.W.Frag) (tf : List He.Defn) (ts : List (Addr × Str)) (fd : FuncData) (sp : SpD), K.In h ∧ (∀ p ∈ tf, PySem.W.codeHdIn K (He.cT K p).1 (He.cT K p).2 = true) ∧ (∀ p ∈ tf, K.lookup (He.cT K p).2 = none) ∧ (∀ p ∈ tf, h.get? (He.cT K p).2 = some { cls := .none, data := .fields #[] }) ∧
        (∀ p ∈ ts, ∃ p' ∈ tf, p.1 = (He.cT K p').2) ∧ (∀ (s : Shared) (u : Value), BindsTo s fd ⟨[u], []⟩ [(x, u)]) ∧ (∀ ns : List Int, sp [.rl (ns.map D.int)] (tabH ts) (fun d _ => d = .bl true) (fun _ _ _ => False)) ∧
        ∀ base : Heap, K.In base → base.Ns mainGlobals mg → (∀ p ∈ tf, TabB base mg (He.cT K p).1 (He.cT K p).2) → FnOk l.prog w K mg base (L2N.CX l.prog w) k fa fd [x] (SpL K ts sp)) :
    PySem.W.WalkO q loose XP YP l.row.toRowW d [] (fun f vs => PySem.call f vs) := by
  refine walk_ofTsE (x := x) (CX := fun w => L2N.CX l.prog w) hn hn2 hdf hr (fun w mg fa h Y G hmg => ?_) fun w H s e s' c => ?_
  · obtain ⟨K, tf, ts, fd, sp, KX, h1, h2, h3, h4, hb, hsp, hF⟩ := F w mg fa h Y G hmg
    have sub : ∀ p ∈ tf.map (He.cT K), ∃ p' ∈ tf, p = He.cT K p' := fun p hp => by obtain ⟨p', a, b⟩ := List.mem_map.mp hp; exact ⟨p', a, b.symm⟩
    refine ⟨K, KX, fd, tf.map (He.cT K), SpL K ts sp, fun p hp => ?_, fun p hp => ?_, fun p hp => ?_, hb, fun H a ns hl _ hT hS => ?_, fun base kb ns tb => hF base kb ns fun p hp => tb _ (List.mem_map.mpr ⟨p, hp, rfl⟩)⟩
    · obtain ⟨p', hp', rfl⟩ := sub p hp; exact h3 p' hp'
    · obtain ⟨p', hp', rfl⟩ := sub p hp; exact h2 p' hp'
    · obtain ⟨p', hp', rfl⟩ := sub p hp; exact PySem.W.codeHd_of_K KX (h1 p' hp')
    · exact ⟨a, ns, rfl, fun p hp => by obtain ⟨p', hp', e⟩ := h4 p hp; rw [e]; exact hT _ (List.mem_map.mpr ⟨p', hp', rfl⟩), hS, hsp ns, rfl⟩
  · obtain ⟨_, _, _, _, _, _, _, _, _, _, _, _, h⟩ := c
    exact h
end Lt

end
section
set_option Elab.async false
set_option linter.all false
set_option maxRecDepth 100000
set_option maxHeartbeats 3200000
/-! Lm5: the texts of lambdas in a def, what is checked of them, equations of the lambda rules. -/
namespace Lt
open PySem PySem.Spec PyProof.Rows L2 LamX
/-- where a def's lambdas lie -/
structure LmP where
  P : Addr
  q : Str
  fr : List (Str × Addr)
  l : Nat → LamT
def xS (i : Nat) (s : Stmt) : Expr := match (defBody s).getD i (.Pass ⟨0, 0, 0, 0⟩) with
  | .Return (some e) _ => e
  | .Assign _ e _ => e
  | .Expr e _ => e
  | _ => .Name "" ⟨0, 0, 0, 0⟩
def xB (i : Nat) (e : Expr) : Expr := match e with
  | .BoolOp _ es _ => es.getD i (.Name "" ⟨0, 0, 0, 0⟩)
  | _ => .Name "" ⟨0, 0, 0, 0⟩
def xA (i : Nat) (e : Expr) : Expr := match e with
  | .Call _ es _ _ => es.getD i (.Name "" ⟨0, 0, 0, 0⟩)
  | _ => .Name "" ⟨0, 0, 0, 0⟩
def xL (i : Nat) (e : Expr) : Expr := match e with
  | .List es _ => es.getD i (.Name "" ⟨0, 0, 0, 0⟩)
  | _ => .Name "" ⟨0, 0, 0, 0⟩
def xLam (df : Option (Str × Int)) (e : Expr) : LamT := match e with
  | .Lambda a b sc _ => ⟨a, b, sc, df⟩
  | _ => ⟨⟨[], [], none, [], [], none, []⟩, .Name "" ⟨0, 0, 0, 0⟩, { kind := .function, names := [], isGenerator := false, isCoroutine := false, more := [] }, df⟩
def lamOkB (N : List Str) (sc : Scope) (L : LamT) (j : Nat) : Bool :=
  decide (L.scope.kind = .function) && (!L.scope.isCoroutine && (!L.scope.isGenerator && (L.scope.names.all (fun y => decide (y.2 ≠ .cell) && ((decide (y.2 ≠ .free) || (decide (sc.names.lookup y.1 = some .cell) || decide (sc.names.lookup y.1 = some .free))) && (decide (y.2 ≠ .local) || decide (L.df.map (·.1) = some y.1)))) &&
    (match L.df with | none => true | some p => decide (L.scope.names.lookup p.1 = some .local) && N.zipIdx.all (fun z => decide (z.1 ≠ p.1) || decide (z.2 = j))))))
theorem lamOk_of {N : List Str} {sc : Scope} {L : LamT} {j : Nat} (h : lamOkB N sc L j = true)
    (b0 : L.df = none → ∀ (q : Str) (cl : List (Str × Addr)) (doc pm cv ct : Value) (s : Shared), BindsTo s (PySem.W.kdv_fn "<lambda>" q L.params (.expr L.body) L.scope cl .none doc pm cv ct) ⟨[], []⟩ [])
    (b1 : ∀ x n, L.df = some (x, n) → ∀ (q : Str) (cl : List (Str × Addr)) (t : Addr) (doc pm cv ct v : Value) (o : Obj) (m : Nat) (s : Shared), s.heap.get? t = some o → o.data = .seq #[v] m → BindsTo s (PySem.W.kdv_fn "<lambda>" q L.params (.expr L.body) L.scope cl (.ref t) doc pm cv ct) ⟨[], []⟩ [(x, v)]) : LamOk N sc L j := by
  unfold lamOkB at h
  obtain ⟨h1, h⟩ := Bool.and_eq_true_iff.mp h
  obtain ⟨h2, h⟩ := Bool.and_eq_true_iff.mp h
  obtain ⟨h3, h⟩ := Bool.and_eq_true_iff.mp h
  obtain ⟨h4, h5⟩ := Bool.and_eq_true_iff.mp h
  have h4 := List.all_eq_true.mp h4
  have k : ∀ y ∈ L.scope.names, y.2 ≠ .cell ∧ (y.2 ≠ .free ∨ (sc.names.lookup y.1 = some .cell ∨ sc.names.lookup y.1 = some .free)) ∧ (y.2 ≠ .local ∨ L.df.map (·.1) = some y.1) := fun y hy => by
    have := h4 y hy
    simpa only [Bool.and_eq_true, Bool.or_eq_true, decide_eq_true_eq] using this
  refine ⟨of_decide_eq_true h1, by simpa using h2, by simpa using h3, fun y hy => (k y hy).1, fun y hy e => (k y hy).2.1.resolve_left (fun z => z e), fun y hy e => (k y hy).2.2.resolve_left (fun z => z e), fun x hx => ?_, b0, b1⟩
  obtain ⟨p, hp, rfl⟩ := Option.map_eq_some_iff.mp hx
  rw [hp] at h5
  obtain ⟨h6, h7⟩ := Bool.and_eq_true_iff.mp h5
  refine ⟨of_decide_eq_true h6, fun i hi => ?_⟩
  have h7 := List.all_eq_true.mp h7 (p.1, i) (by rw [List.mem_zipIdx_iff_getElem?]; exact hi)
  simpa using h7
theorem lamL_nil {X : Cx} {cs : Addr → Option (List Str)} {k : Nat} {q : Str} : ∀ p ∈ ([] : LamL), LamD X cs k q p.1 p.2.1 p.2.2 := fun p h => by cases h
theorem lamL_cons {X : Cx} {cs : Addr → Option (List Str)} {k : Nat} {q : Str} {L : LamT} {j : Nat} {tb : XD → TED} {Ls : LamL} (h : LamD X cs k q L j tb) (t : ∀ p ∈ Ls, LamD X cs k q p.1 p.2.1 p.2.2) : ∀ p ∈ ((L, j, tb) :: Ls : LamL), LamD X cs k q p.1 p.2.1 p.2.2 := fun p hp => by
  cases hp with
  | head => exact h
  | tail _ hp => exact t p hp
theorem u_tLam (P : Addr) (q : Str) (fr : List (Str × Addr)) (L : LamT) (ρ : StD) (H : HD) (Q : QD) : tLam P q fr L ρ H Q = (H P = some (.tab q) ∧ ∀ f, H f = none → Q (.ref f) (upD H f (.fn L q fr))) := rfl
end Lt

end
section
set_option Elab.async false
set_option linter.all false
set_option maxRecDepth 100000
set_option maxHeartbeats 2000000
/-! Sp: what the web's defs are to do. -/
namespace Lt
open PySem PySem.Spec L2
/-! ### roads lead -/
inductive Rch (rs : List Rd) (b : Int) : Int → Prop where
  | base : Rch rs b b
  | fwd {r : Rd} : r ∈ rs → Rch rs b r.o → Rch rs b r.t
  | bwd {r : Rd} : r ∈ rs → Rch rs b r.t → Rch rs b r.o
structure RdOk (n : Int) (r : Rd) : Prop where
  o0 : 0 ≤ r.o
  ot : r.o < r.t
  tn : r.t < n
  c1 : 1 ≤ r.c
  c9 : r.c ≤ 99
/-- two roads that may stand side by side -/
def Apart (r s : Rd) : Prop := ¬ (r.o = s.o ∧ r.t = s.t) ∧ r.c ≠ s.c
structure WebOk (n : Int) (rs : List Rd) : Prop where
  n1 : 1 ≤ n
  n8 : n ≤ 8
  few : rs.length ≤ 20
  ok : ∀ r ∈ rs, RdOk n r
  ap : rs.Pairwise Apart
  con : ∀ x, 0 ≤ x → x < n → Rch rs 0 x
/-- a web at an address -/
def IsWeb (c : CA) (H : HD) (a : Addr) (n : Int) (rs : List Rd) : Prop := ∃ l, H a = some (.ins c.Web [.int n, .ref l]) ∧ H l = some (.lst (rs.map roD))
theorem IsWeb.ext {c : CA} {H H' : HD} {a : Addr} {n : Int} {rs : List Rd} (h : IsWeb c H a n rs) (e : Ext H H') : IsWeb c H' a n rs := by
  obtain ⟨l, h1, h2⟩ := h
  exact ⟨l, e _ _ h1, e _ _ h2⟩
/-! ### specs -/
def sp_led_to (_ : CA) : SpD := fun ds H Q E => ∃ (a : Addr) (rs : List Rd) (b : Int), ds = [.ref a, .int b] ∧ H a = some (.lst (rs.map roD)) ∧ rs.length ≤ 1000 ∧
  ∀ (p : Addr) (H' : HD) (fs : List Int), H p = none → Ext H H' → H' p = some (.lst (fs.map D.int)) → fs.Nodup → (∀ x, x ∈ fs ↔ Rch rs b x) → Q (.ref p) H'
def fitsB (n : Int) (ws : List Rd) (r : Rd) : Bool := decide (0 ≤ r.o) && (decide (r.o < r.t) && (decide (r.t < n) && (decide (1 ≤ r.c) && (decide (r.c ≤ 99) && ws.all fun w => !((decide (w.o = r.o) && decide (w.t = r.t)) || decide (w.c = r.c))))))
def sp_Web_fits (c : CA) : SpD := fun ds H Q E => ∃ (x : Addr) (n : Int) (l : Addr) (ws : List Rd) (r : Rd), ds = [.ref x, roD r] ∧ H x = some (.ins c.Web [.int n, .ref l]) ∧ H l = some (.lst (ws.map roD)) ∧ ws.length ≤ 1000 ∧
  ∀ H' : HD, Ext H H' → Q (.bl (fitsB n ws r)) H'
def sp_Web_hands (c : CA) : SpD := fun ds H Q E => ∃ (x : Addr) (n : Int) (rs : List Rd), ds = [.ref x] ∧ IsWeb c H x n rs ∧ Q (.int n) H
def sp_Web_roads (c : CA) : SpD := fun ds H Q E => ∃ (x : Addr) (n : Int) (rs : List Rd), ds = [.ref x] ∧ IsWeb c H x n rs ∧ ∀ p, H p = none → Q (.ref p) (upD H p (.lst (rs.map roD)))
def sp_Web_init (c : CA) : SpD := fun ds H Q E => ∃ (x : Addr) (n : Int) (l0 : Addr) (rs : List Rd), ds = [.ref x, .int n, .ref l0] ∧ H x = some (.ins c.Web []) ∧ H l0 = some (.lst (rs.map roD)) ∧ WebOk n rs ∧
  ∀ (l : Addr) (H' : HD), H l = none → ExtE x H H' → H' x = some (.ins c.Web [.int n, .ref l]) → H' l = some (.lst (rs.map roD)) → Q .non H'
/-! ### the law's dice and webs -/
def IsDice (H : HD) (a : Addr) : Prop := ∃ (ns : List Int) (k m r : Int), H a = some (.lst [.rl (ns.map D.int), .int k, .int m, .int r]) ∧ 0 ≤ k ∧ 0 ≤ m ∧ m < 2147483647
theorem IsDice.ext {H H' : HD} {a : Addr} (h : IsDice H a) (e : Ext H H') : IsDice H' a := by
  obtain ⟨ns, k, m, r, h, b⟩ := h
  exact ⟨ns, k, m, r, e _ _ h, b⟩
def sp__law_dice (_ : CA) : SpD := fun ds H Q E => ∃ (ns : List Int), ds = [.rl (ns.map D.int)] ∧ ∀ (p : Addr) (H' : HD), H p = none → Ext H H' → IsDice H' p → Q (.ref p) H'
def sp__law_next (_ : CA) : SpD := fun ds H Q E => ∃ (a : Addr) (m : Int), ds = [.ref a, .int m] ∧ IsDice H a ∧ 0 < m ∧ m < 1073741824 ∧ ∀ (v : Int) (H' : HD), 0 ≤ v → v < m → ExtE a H H' → IsDice H' a → Q (.int v) H'
def sp__law_web (_ : CA) : SpD := fun ds H Q E => ∃ (a : Addr) (m : Int), ds = [.ref a, .int m] ∧ IsDice H a ∧ 1 ≤ m ∧ m ≤ 8 ∧
  ∀ (n : Int) (rs : List Rd) (l : Addr) (H' : HD), H l = none → ExtE a H H' → IsDice H' a → H' l = some (.lst (rs.map roD)) → WebOk n rs → n ≤ m → Q (.tup [.int n, .ref l]) H'
end Lt

end
section
set_option Elab.async false
set_option linter.all false
set_option maxRecDepth 100000
set_option maxHeartbeats 2000000
/-! Kr: the least tree by joining: mirror and specs. -/
namespace Lt
open PySem PySem.Spec L2
open Classical in
noncomputable def kStep (rs : List Rd) (s : List Rd × List Int) (p : Int × Int) : List Rd × List Int :=
  match rs[p.2.toNat]? with
  | some r => if Rch s.1 r.o r.t then s else (s.1 ++ [r], s.2 ++ [p.2])
  | none => s
def costNums (rs : List Rd) : List (Int × Int) := rs.zipIdx.map fun q => (q.1.c, (q.2 : Int))
noncomputable def kRun (rs : List Rd) (l : List (Int × Int)) : List Rd × List Int := l.foldl (kStep rs) ([], [])
noncomputable def kru (rs : List Rd) : List Int := sortI (kRun rs (sortP (costNums rs))).2
theorem kStep_yes {rs : List Rd} {s : List Rd × List Int} {p : Int × Int} {r : Rd} (h : rs[p.2.toNat]? = some r) (g : Rch s.1 r.o r.t) : kStep rs s p = s := by
  unfold kStep; rw [h]; exact if_pos g
theorem kStep_no {rs : List Rd} {s : List Rd × List Int} {p : Int × Int} {r : Rd} (h : rs[p.2.toNat]? = some r) (g : ¬ Rch s.1 r.o r.t) : kStep rs s p = (s.1 ++ [r], s.2 ++ [p.2]) := by
  unfold kStep; rw [h]; exact if_neg g
theorem kRun_take {rs : List Rd} {l : List (Int × Int)} {i : Nat} {p : Int × Int} (h : l[i]? = some p) : kRun rs (l.take (i + 1)) = kStep rs (kRun rs (l.take i)) p := by
  obtain ⟨hi, e⟩ := List.getElem?_eq_some_iff.mp h
  unfold kRun
  rw [List.take_succ_eq_append_getElem hi, List.foldl_append, e]
  rfl
theorem costNums_mem {rs : List Rd} {p : Int × Int} (h : p ∈ costNums rs) : ∃ (j : Nat) (r : Rd), rs[j]? = some r ∧ p = (r.c, (j : Int)) := by
  unfold costNums at h
  obtain ⟨q, hq, rfl⟩ := List.mem_map.mp h
  exact ⟨q.2, q.1, List.mem_zipIdx_iff_getElem?.mp hq, rfl⟩
theorem sortP_mem {rs : List Rd} {p : Int × Int} {i : Nat} (h : (sortP (costNums rs))[i]? = some p) : ∃ (j : Nat) (r : Rd), rs[j]? = some r ∧ p = (r.c, (j : Int)) :=
  costNums_mem ((sortP_perm _).mem_iff.mp (List.mem_of_getElem? h))
theorem kStep_len {rs : List Rd} {s : List Rd × List Int} {p : Int × Int} : (kStep rs s p).1.length ≤ s.1.length + 1 ∧ (kStep rs s p).2.length ≤ s.2.length + 1 := by
  unfold kStep
  split
  · split
    · omega
    · simp
  · omega
theorem kRun_len {rs : List Rd} : ∀ (l : List (Int × Int)), (kRun rs l).1.length ≤ l.length ∧ (kRun rs l).2.length ≤ l.length := by
  intro l
  have go : ∀ (l : List (Int × Int)) (s : List Rd × List Int), (l.foldl (kStep rs) s).1.length ≤ s.1.length + l.length ∧ (l.foldl (kStep rs) s).2.length ≤ s.2.length + l.length := by
    intro l
    induction l with
    | nil => intro s; simp
    | cons p l ih =>
      intro s
      have h1 := ih (kStep rs s p)
      have h2 := kStep_len (rs := rs) (s := s) (p := p)
      rw [List.foldl_cons, List.length_cons]
      omega
  have := go l ([], [])
  unfold kRun
  simpa using this
theorem enumD_map {α : Type} {f : α → D} : ∀ (xs : List α) (n : Nat), enumD n (xs.map f) = (xs.zipIdx n).map fun q => .tup [.int (q.2 : Nat), f q.1]
  | [], _ => rfl
  | x :: xs, n => by
    rw [List.map_cons, enumD, enumD_map xs (n + 1), List.zipIdx_cons, List.map_cons]
theorem costNums_length (rs : List Rd) : (costNums rs).length = rs.length := by unfold costNums; simp
theorem kRun_sub {rs : List Rd} (l : List (Int × Int)) : (∀ x ∈ (kRun rs l).2, ∃ p ∈ l, p.2 = x ∧ ∃ r, rs[x.toNat]? = some r) ∧ (∀ r ∈ (kRun rs l).1, r ∈ rs) := by
  have go : ∀ (l : List (Int × Int)) (s : List Rd × List Int) (Z : Int → Prop), (∀ x ∈ s.2, Z x) → (∀ p ∈ l, (∃ r, rs[p.2.toNat]? = some r) → Z p.2) → (∀ r ∈ s.1, r ∈ rs) →
      (∀ x ∈ (l.foldl (kStep rs) s).2, Z x) ∧ (∀ r ∈ (l.foldl (kStep rs) s).1, r ∈ rs) := by
    intro l
    induction l with
    | nil => intro s Z h1 _ h3; exact ⟨h1, h3⟩
    | cons p l ih =>
      intro s Z h1 h2 h3
      rw [List.foldl_cons]
      refine ih _ Z (fun x hx => ?_) (fun p' hp' => h2 p' (List.mem_cons_of_mem _ hp')) (fun r hr => ?_)
      · unfold kStep at hx
        split at hx
        · rename_i r hr
          split at hx
          · exact h1 x hx
          · rcases List.mem_append.mp hx with z | z
            · exact h1 x z
            · rw [List.mem_singleton.mp z]; exact h2 p (List.mem_cons_self ..) ⟨r, hr⟩
        · exact h1 x hx
      · unfold kStep at hr
        split at hr
        · rename_i r' hr'
          split at hr
          · exact h3 r hr
          · rcases List.mem_append.mp hr with z | z
            · exact h3 r z
            · rw [List.mem_singleton.mp z]; exact List.mem_of_getElem? hr'
        · exact h3 r hr
  exact go l ([], []) (fun x => ∃ p ∈ l, p.2 = x ∧ ∃ r, rs[x.toNat]? = some r) (fun x hx => by cases hx) (fun p hp h => ⟨p, hp, rfl, h⟩) (fun r hr => by cases hr)
theorem kru_mem {rs : List Rd} {x : Int} (h : x ∈ kru rs) : ∃ (j : Nat) (r : Rd), x = (j : Int) ∧ rs[j]? = some r := by
  unfold kru at h
  obtain ⟨p, hp, e, r, hr⟩ := (kRun_sub _).1 x ((sortI_perm _).mem_iff.mp h)
  obtain ⟨j, r', hj, rfl⟩ := costNums_mem ((sortP_perm _).mem_iff.mp hp)
  exact ⟨j, r', e.symm, hj⟩
theorem kru_len (rs : List Rd) : (kru rs).length ≤ rs.length := by
  unfold kru
  rw [(sortI_perm _).length_eq]
  have := (kRun_len (rs := rs) (sortP (costNums rs))).2
  rw [(sortP_perm _).length_eq, costNums_length] at this
  exact this
/-! ### ways in a tree -/
/-- a way over the roads with these numbers: their numbers in turn, the hands in turn, none twice -/
inductive Way (rs : List Rd) (ts : List Int) (a : Int) : List Int → Int → List Int → Prop where
  | nil : Way rs ts a [] a [a]
  | fwd {ps vs : List Int} {h : Int} {j : Nat} {r : Rd} : Way rs ts a ps h vs → (j : Int) ∈ ts → rs[j]? = some r → r.o = h → r.t ∉ vs → Way rs ts a (ps ++ [(j : Int)]) r.t (vs ++ [r.t])
  | bwd {ps vs : List Int} {h : Int} {j : Nat} {r : Rd} : Way rs ts a ps h vs → (j : Int) ∈ ts → rs[j]? = some r → r.t = h → r.o ∉ vs → Way rs ts a (ps ++ [(j : Int)]) r.o (vs ++ [r.o])
/-- the roads with these numbers -/
def pick (rs : List Rd) (ns : List Int) : List Rd := ns.filterMap fun i => rs[i.toNat]?
theorem mem_pick {rs : List Rd} {ns : List Int} {r : Rd} : r ∈ pick rs ns ↔ ∃ x ∈ ns, rs[x.toNat]? = some r := List.mem_filterMap
theorem kRun_pick {rs : List Rd} (l : List (Int × Int)) : (kRun rs l).1 = pick rs (kRun rs l).2 := by
  have go : ∀ (l : List (Int × Int)) (s : List Rd × List Int), s.1 = pick rs s.2 → (l.foldl (kStep rs) s).1 = pick rs (l.foldl (kStep rs) s).2 := by
    intro l
    induction l with
    | nil => intro s h; exact h
    | cons p l ih =>
      intro s h
      rw [List.foldl_cons]
      refine ih _ ?_
      unfold kStep
      split
      · rename_i r hr
        split
        · exact h
        · show s.1 ++ [r] = pick rs (s.2 ++ [p.2])
          unfold pick at h ⊢
          rw [List.filterMap_append, ← h, List.filterMap_cons, hr]
          rfl
      · exact h
  exact go l ([], []) rfl
theorem Rch.mem {rs ss : List Rd} (h : ∀ r ∈ rs, r ∈ ss) {b x : Int} (k : Rch rs b x) : Rch ss b x := by
  induction k with
  | base => exact .base
  | fwd hr _ ih => exact .fwd (h _ hr) ih
  | bwd hr _ ih => exact .bwd (h _ hr) ih
theorem kStep_grow {rs : List Rd} {s : List Rd × List Int} {p : Int × Int} : ∀ r ∈ s.1, r ∈ (kStep rs s p).1 := by
  intro r hr
  unfold kStep
  split
  · split
    · exact hr
    · exact List.mem_append_left _ hr
  · exact hr
theorem kRun_span {rs : List Rd} (l : List (Int × Int)) : ∀ p ∈ l, ∀ r, rs[p.2.toNat]? = some r → Rch (kRun rs l).1 r.o r.t := by
  have go : ∀ (l : List (Int × Int)) (s : List Rd × List Int) (r : Rd), (Rch s.1 r.o r.t ∨ ∃ p ∈ l, rs[p.2.toNat]? = some r) → Rch (l.foldl (kStep rs) s).1 r.o r.t := by
    intro l
    induction l with
    | nil =>
      intro s r h
      rcases h with h | ⟨p, hp, _⟩
      · exact h
      · cases hp
    | cons p l ih =>
      intro s r h
      rw [List.foldl_cons]
      refine ih _ r ?_
      rcases h with h | ⟨p', hp', h⟩
      · exact .inl (h.mem kStep_grow)
      · rcases List.mem_cons.mp hp' with e | e
        · subst e
          left
          unfold kStep
          rw [h]
          by_cases g : Rch s.1 r.o r.t
          · simp only [if_pos g]; exact g
          · simp only [if_neg g]
            exact .fwd (List.mem_append_right _ (List.mem_singleton.mpr rfl)) .base
        · exact .inr ⟨p', e, h⟩
  exact fun p hp r hr => go l ([], []) r (.inr ⟨p, hp, hr⟩)
theorem costNums_all {rs : List Rd} {j : Nat} {r : Rd} (h : rs[j]? = some r) : (r.c, (j : Int)) ∈ costNums rs := by
  unfold costNums
  exact List.mem_map.mpr ⟨(r, j), List.mem_zipIdx_iff_getElem?.mpr h, rfl⟩
theorem pick_kru {rs : List Rd} {r : Rd} : r ∈ pick rs (kru rs) ↔ r ∈ (kRun rs (sortP (costNums rs))).1 := by
  rw [kRun_pick, mem_pick, mem_pick]
  unfold kru
  constructor
  · rintro ⟨x, hx, h⟩; exact ⟨x, (sortI_perm _).mem_iff.mp hx, h⟩
  · rintro ⟨x, hx, h⟩; exact ⟨x, (sortI_perm _).mem_iff.mpr hx, h⟩
/-- the tree joins all that the roads join -/
theorem kru_span {rs : List Rd} {r : Rd} (h : r ∈ rs) : Rch (pick rs (kru rs)) r.o r.t := by
  obtain ⟨j, hj⟩ := List.getElem?_of_mem h
  exact (kRun_span _ _ ((sortP_perm _).mem_iff.mpr (costNums_all hj)) r hj).mem fun r hr => pick_kru.mpr hr
/-- what joins when a road is put in -/
theorem rch_join {rs : List Rd} {r : Rd} {h x : Int} : Rch (rs ++ [r]) h x ↔ Rch rs h x ∨ ((Rch rs h r.o ∨ Rch rs h r.t) ∧ (Rch rs r.o x ∨ Rch rs r.t x)) := by
  constructor
  · intro k
    induction k with
    | base => exact .inl .base
    | @fwd s hs _ ih =>
      rcases List.mem_append.mp hs with z | z
      · rcases ih with q | ⟨q, q1 | q1⟩
        · exact .inl (.fwd z q)
        · exact .inr ⟨q, .inl (.fwd z q1)⟩
        · exact .inr ⟨q, .inr (.fwd z q1)⟩
      · have e := List.mem_singleton.mp z
        subst e
        rcases ih with q | ⟨q, _⟩
        · exact .inr ⟨.inl q, .inr .base⟩
        · exact .inr ⟨q, .inr .base⟩
    | @bwd s hs _ ih =>
      rcases List.mem_append.mp hs with z | z
      · rcases ih with q | ⟨q, q1 | q1⟩
        · exact .inl (.bwd z q)
        · exact .inr ⟨q, .inl (.bwd z q1)⟩
        · exact .inr ⟨q, .inr (.bwd z q1)⟩
      · have e := List.mem_singleton.mp z
        subst e
        rcases ih with q | ⟨q, _⟩
        · exact .inr ⟨.inr q, .inl .base⟩
        · exact .inr ⟨q, .inl .base⟩
  · intro k
    have m : ∀ {a b : Int}, Rch rs a b → Rch (rs ++ [r]) a b := fun k => k.mem fun s hs => List.mem_append_left _ hs
    have hr : r ∈ rs ++ [r] := List.mem_append_right _ (List.mem_singleton.mpr rfl)
    have tr : ∀ {a b c : Int}, Rch (rs ++ [r]) a b → Rch (rs ++ [r]) b c → Rch (rs ++ [r]) a c := by
      intro a b c h1 h2
      induction h2 with
      | base => exact h1
      | fwd hr _ ih => exact .fwd hr ih
      | bwd hr _ ih => exact .bwd hr ih
    rcases k with k | ⟨k1 | k1, k2 | k2⟩
    · exact m k
    · exact tr (m k1) (m k2)
    · exact tr (.fwd hr (m k1)) (m k2)
    · exact tr (.bwd hr (m k1)) (m k2)
    · exact tr (m k1) (m k2)
/-! ### specs -/
def sp_tree (c : CA) : SpD := fun ds H Q E => ∃ (a : Addr) (n : Int) (rs : List Rd), ds = [.ref a] ∧ IsWeb c H a n rs ∧ rs.length ≤ 60 ∧ (∀ r ∈ rs, r.o ≠ r.t) ∧
  ∀ (p : Addr) (H' : HD), H p = none → Ext H H' → H' p = some (.lst ((kru rs).map D.int)) → Q (.ref p) H'
def sp_need_road (c : CA) : SpD := fun ds H Q E => ∃ (a : Addr) (n : Int) (rs : List Rd) (i : Int), ds = [.ref a, .int i] ∧ IsWeb c H a n rs ∧ (¬ (0 ≤ i ∧ i < (rs.length : Nat)) → ∀ (H' : HD), Ext H H' → E c.NoRoad [] H') ∧ (0 ≤ i ∧ i < (rs.length : Nat) →
  ∀ (H' : HD), Ext H H' → Q .non H')
def sp_instead (c : CA) : SpD := fun ds H Q E => ∃ (a : Addr) (n : Int) (rs : List Rd) (i : Int), ds = [.ref a, .int i] ∧ IsWeb c H a n rs ∧ WebOk n rs ∧ (¬ (0 ≤ i ∧ i < (rs.length : Nat)) → ∀ (H' : HD), Ext H H' → E c.NoRoad [] H') ∧ ∀ (j : Nat) (r : Rd), i = (j : Int) → rs[j]? = some r →
  ((j : Int) ∈ kru rs → ∀ (H' : HD), Ext H H' → Q .non H') ∧
  ((j : Int) ∉ kru rs → ∀ (p : Addr) (H' : HD) (ps vs : List Int), H p = none → Ext H H' → Way rs (kru rs) r.o ps r.t vs → H' p = some (.lst (ps.map D.int)) → Q (.ref p) H')
def sp_side (c : CA) : SpD := fun ds H Q E => ∃ (a : Addr) (n : Int) (rs : List Rd) (i : Int), ds = [.ref a, .int i] ∧ IsWeb c H a n rs ∧ WebOk n rs ∧ (¬ (0 ≤ i ∧ i < (rs.length : Nat)) → ∀ (H' : HD), Ext H H' → E c.NoRoad [] H') ∧ ∀ (j : Nat) (r : Rd), i = (j : Int) → rs[j]? = some r →
  ((j : Int) ∉ kru rs → ∀ (H' : HD), Ext H H' → Q .non H') ∧
  ((j : Int) ∈ kru rs → ∀ (p : Addr) (H' : HD) (fs : List Int), H p = none → Ext H H' → fs.Nodup → fs.Pairwise (· ≤ ·) → (∀ x, x ∈ fs ↔ Rch (pick rs ((kru rs).filter fun z => !decide (z = (j : Int)))) r.o x) → H' p = some (.lst (fs.map D.int)) → Q (.ref p) H')
def sp__law_tree (_ : CA) : SpD := fun ds H Q E => ∃ (a : Addr) (rs : List Rd), ds = [.ref a] ∧ H a = some (.lst (rs.map roD)) ∧ rs.length ≤ 60 ∧
  ∀ (p : Addr) (H' : HD), H p = none → Ext H H' → H' p = some (.lst ((kru rs).map D.int)) → Q (.ref p) H'
end Lt

end
section
set_option Elab.async false
set_option linter.all false
set_option maxRecDepth 100000
set_option maxHeartbeats 4000000
namespace Lt
open PySem PySem.Spec L2
def t_Web_hands (c : CA) (Ed : XD) : TSD :=
  (sRet (tFl c.Web 0 (tV 0)))
theorem len_Web_hands : ∀ c ds H Q E, sp_Web_hands c ds H Q E → ds.length = (["self"] : List Str).length := by intro c ds H Q E h; first | (obtain ⟨_, _, _, _, _, _, _, _, _, _, _, _, rfl, _⟩ := h; rfl) | (obtain ⟨_, _, _, _, _, _, _, _, _, _, _, rfl, _⟩ := h; rfl) | (obtain ⟨_, _, _, _, _, _, _, _, _, _, rfl, _⟩ := h; rfl) | (obtain ⟨_, _, _, _, _, _, _, _, _, rfl, _⟩ := h; rfl) | (obtain ⟨_, _, _, _, _, _, _, _, rfl, _⟩ := h; rfl) | (obtain ⟨rfl, _⟩ := h; rfl) | (obtain ⟨_, rfl, _⟩ := h; rfl) | (obtain ⟨_, _, rfl, _⟩ := h; rfl) | (obtain ⟨_, _, _, rfl, _⟩ := h; rfl) | (obtain ⟨_, _, _, _, rfl, _⟩ := h; rfl) | (obtain ⟨_, _, _, _, _, rfl, _⟩ := h; rfl) | (obtain ⟨_, _, _, _, _, _, rfl, _⟩ := h; rfl) | (obtain ⟨_, _, _, _, _, _, _, rfl, _⟩ := h; rfl)
theorem rd_Web_hands (c : CA) (Ed : XD) (ds : List D) (Hd : HD) (Qd : QD) (h : sp_Web_hands c ds Hd Qd Ed) : t_Web_hands c Ed { nx := fun _ H' => Qd .non H', rt := Qd } (startD ["self"] ds) Hd := by
  obtain ⟨x, n, rs, rfl, ⟨l, h1, h2⟩, k⟩ := h
  unfold t_Web_hands
  simp only [↓u_sRet, ↓u_tFl, ↓u_tV, startD, List.map, List.length_cons, List.length_nil, Nat.reduceAdd, Nat.reduceSub, List.replicate, List.append_nil, List.getElem?_cons_zero, ↓u_slot, ↓u_asR, h1, Option.some.injEq, DO.ins.injEq, true_and, exists_eq_left', ↓u_gt1]
  exact k
def t_Web_roads (c : CA) (Ed : XD) : TSD :=
  (sRet (tCb rList (tC (tFl c.Web 1 (tV 0)) tN)))
theorem len_Web_roads : ∀ c ds H Q E, sp_Web_roads c ds H Q E → ds.length = (["self"] : List Str).length := by intro c ds H Q E h; first | (obtain ⟨_, _, _, _, _, _, _, _, _, _, _, _, rfl, _⟩ := h; rfl) | (obtain ⟨_, _, _, _, _, _, _, _, _, _, _, rfl, _⟩ := h; rfl) | (obtain ⟨_, _, _, _, _, _, _, _, _, _, rfl, _⟩ := h; rfl) | (obtain ⟨_, _, _, _, _, _, _, _, _, rfl, _⟩ := h; rfl) | (obtain ⟨_, _, _, _, _, _, _, _, rfl, _⟩ := h; rfl) | (obtain ⟨rfl, _⟩ := h; rfl) | (obtain ⟨_, rfl, _⟩ := h; rfl) | (obtain ⟨_, _, rfl, _⟩ := h; rfl) | (obtain ⟨_, _, _, rfl, _⟩ := h; rfl) | (obtain ⟨_, _, _, _, rfl, _⟩ := h; rfl) | (obtain ⟨_, _, _, _, _, rfl, _⟩ := h; rfl) | (obtain ⟨_, _, _, _, _, _, rfl, _⟩ := h; rfl) | (obtain ⟨_, _, _, _, _, _, _, rfl, _⟩ := h; rfl)
theorem rd_Web_roads (c : CA) (Ed : XD) (ds : List D) (Hd : HD) (Qd : QD) (h : sp_Web_roads c ds Hd Qd Ed) : t_Web_roads c Ed { nx := fun _ H' => Qd .non H', rt := Qd } (startD ["self"] ds) Hd := by
  obtain ⟨x, n, rs, rfl, ⟨l, h1, h2⟩, k⟩ := h
  unfold t_Web_roads
  simp only [↓u_sRet, ↓u_tCb, ↓u_tC, ↓u_tFl, ↓u_tV, startD, List.map, List.length_cons, List.length_nil, Nat.reduceAdd, Nat.reduceSub, List.replicate, List.append_nil, List.getElem?_cons_zero, ↓u_tN, ↓u_slot, ↓u_asR, h1, Option.some.injEq, DO.ins.injEq, true_and, exists_eq_left', List.getElem?_cons_succ, ↓u_gt1, ↓u_rList_ref, h2, DO.lst.injEq]
  exact k
theorem getRo_roD {ws : List Rd} {i : Nat} {d : D} (h : (ws.map roD)[i]? = some d) : ∃ r, ws[i]? = some r ∧ d = .tup [.int r.o, .int r.t, .int r.c] := getMap h
def t_Web_fits (c : CA) (Ed : XD) : TSD :=
  (sSeq (sAsg (tV 1) (.tp [(.nm 2), (.nm 3), (.nm 4)]))
    (sSeq (sIf (tOr (tNt (tTs (tChn3 rLe rLt rLt (tK (.int 0)) (tV 2) (tV 3) (tFl c.Web 0 (tV 0))))) (tNt (tTs (tChn rLe rLe (tK (.int 1)) (tV 4) (tK (.int 99)))))) (sRet (tK (.bl false))) sNx)
    (sRet (tO rEq (tLcG (iLs (tFl c.Web 1 (tV 0))) (.nm 5) (tOr (tTs (tO rEq (tSlD (tV 5) tPn (tPs (tK (.int 2)))) (tSlD (tV 1) tPn (tPs (tK (.int 2)))))) (tTs (tO rEq (tO rIx (tV 5) (tK (.int 2))) (tV 4)))) (tV 5) [5]) (tLs tN)))))
theorem len_Web_fits : ∀ c ds H Q E, sp_Web_fits c ds H Q E → ds.length = (["self", "road"] : List Str).length := by intro c ds H Q E h; first | (obtain ⟨_, _, _, _, _, _, _, _, _, _, _, _, rfl, _⟩ := h; rfl) | (obtain ⟨_, _, _, _, _, _, _, _, _, _, _, rfl, _⟩ := h; rfl) | (obtain ⟨_, _, _, _, _, _, _, _, _, _, rfl, _⟩ := h; rfl) | (obtain ⟨_, _, _, _, _, _, _, _, _, rfl, _⟩ := h; rfl) | (obtain ⟨_, _, _, _, _, _, _, _, rfl, _⟩ := h; rfl) | (obtain ⟨rfl, _⟩ := h; rfl) | (obtain ⟨_, rfl, _⟩ := h; rfl) | (obtain ⟨_, _, rfl, _⟩ := h; rfl) | (obtain ⟨_, _, _, rfl, _⟩ := h; rfl) | (obtain ⟨_, _, _, _, rfl, _⟩ := h; rfl) | (obtain ⟨_, _, _, _, _, rfl, _⟩ := h; rfl) | (obtain ⟨_, _, _, _, _, _, rfl, _⟩ := h; rfl) | (obtain ⟨_, _, _, _, _, _, _, rfl, _⟩ := h; rfl)
theorem rd_Web_fits (c : CA) (Ed : XD) (ds : List D) (Hd : HD) (Qd : QD) (h : sp_Web_fits c ds Hd Qd Ed) : t_Web_fits c Ed { nx := fun _ H' => Qd .non H', rt := Qd } (startD ["self", "road", "one", "other", "cost", "way"] ds) Hd := by
  obtain ⟨x, n, l, ws, r, rfl, h1, h2, hl, k⟩ := h
  unfold t_Web_fits
  simp only [↓u_sSeq, ↓u_sAsg, ↓u_tV, startD, List.map, roD_def, List.length_cons, List.length_nil, Nat.reduceAdd, Nat.reduceSub, List.replicate, List.cons_append, List.nil_append, List.getElem?_cons_succ, List.getElem?_cons_zero, ↓u_sIf, ↓u_tOr, ↓u_tNt, ↓u_tTs, ↓u_tChn3, ↓u_tK, ↓u_tFl, ↓u_sRet, ↓u_sNx, ↓u_tO, ↓u_tLcG, ↓u_iLs, ↓u_wipe_cons, ↓u_wipe_nil, ↓u_tLs, ↓u_tN, Nat.zero_le, true_and, if_true, ↓u_tChn, ↓u_asB, Bool.not_false, ↓u_slot, ↓u_goA_tp, ↓u_goAs_cons, ↓u_goA_nm, ↓u_goAs_nil, List.set, ↓u_asR, ↓u_rLe, decide_eq_true_eq, ↓u_rLt, h1, Option.some.injEq, DO.ins.injEq, exists_eq_left', ↓u_gt1, ↓u_lsI_ref, h2, DO.lst.injEq]
  have kf : fitsB n ws r = false → Qd (.bl false) Hd := fun e => by
    have := k Hd (.refl Hd)
    rw [e] at this
    exact this
  by_cases c1 : 0 ≤ r.o
  rotate_left
  · rw [if_neg c1]
    exact kf (by simp [fitsB, c1])
  by_cases c2 : r.o < r.t
  rotate_left
  · rw [if_pos c1, if_neg c2]
    exact kf (by simp [fitsB, c2])
  by_cases c3 : r.t < n
  rotate_left
  · rw [if_pos c1, if_pos c2, if_pos (by simp [c3])]
    exact kf (by simp [fitsB, c3])
  by_cases c4 : 1 ≤ r.c
  rotate_left
  · rw [if_pos c1, if_pos c2, if_neg (by simp [c3]), if_neg c4]
    exact kf (by simp [fitsB, c4])
  by_cases c5 : r.c ≤ 99
  rotate_left
  · rw [if_pos c1, if_pos c2, if_neg (by simp [c3]), if_pos c4, if_pos (by simp [c5])]
    exact kf (by simp [fitsB, c5])
  rw [if_pos c1, if_pos c2, if_neg (by simp [c3]), if_pos c4, if_neg (by simp [c5])]
  clear kf
  intro p hp
  refine lc_fm roD roD (fun w => (decide (w.o = r.o) && decide (w.t = r.t)) || decide (w.c = r.c)) hp (by omega) (fun H e => e _ _ h2) (fun i v H K K' hv e h3 h4 => ?_) (fun H e hq => ?_)
  · simp only [↓u_goA_nm, ↓u_tOr, ↓u_tTs, ↓u_tO, ↓u_tSlD, ↓u_tV, List.set, roD_def, List.getElem?_cons_succ, List.getElem?_cons_zero, ↓u_tPn, ↓u_tPs, ↓u_tK, ↓u_asI, ↓u_slot, if_true, ↓u_rIx_tup, ↓u_at2, Option.some.injEq, exists_eq_left', ↓u_rEq_int, ↓u_asB, decide_eq_true_eq, ↓u_rSl_tup, cut2, ↓u_rEq_t2]
    by_cases d1 : v.o = r.o ∧ v.t = r.t
    · rw [if_pos (by simp [d1])]
      exact h3 (by simp [d1]) H (.refl H)
    · have d1' : (decide (v.o = r.o) && decide (v.t = r.t)) = false := by simpa using d1
      rw [if_neg (by rw [d1']; simp)]
      by_cases d2 : v.c = r.c
      · rw [if_pos d2]
        exact h3 (by simp [d2]) H (.refl H)
      · rw [if_neg d2]
        exact h4 (by simp [d2, d1']) H (.refl H)
  · intro q hq2
    refine eqNil (H := upD H q (.lst [])) (ds := _) ?_ (upD_old hq hq2) upD_same ?_
    · exact lowMap low_ro
    · have := k (upD H q (.lst [])) (e.trans (.new hq2))
      have ef : fitsB n ws r = (List.map roD (List.filter (fun w => (decide (w.o = r.o) && decide (w.t = r.t)) || decide (w.c = r.c)) ws)).isEmpty := by
        unfold fitsB
        simp only [c1, c2, c3, c4, c5, decide_true, Bool.true_and]
        rw [Bool.eq_iff_iff]
        simp only [List.isEmpty_iff, List.map_eq_nil_iff, List.filter_eq_nil_iff, List.all_eq_true, Bool.not_eq_true', Bool.or_eq_false_iff, Bool.and_eq_false_iff, decide_eq_false_iff_not, Bool.or_eq_true, Bool.and_eq_true, decide_eq_true_eq, not_or, Decidable.not_and_iff_or_not]
      rw [ef] at this
      exact this
def endsOf (rs : List Rd) : List Int := rs.flatMap fun r => [r.o, r.t]
def cntN (rs : List Rd) (fs : List Int) : Nat := (endsOf rs).countP fun x => decide (x ∉ fs)
theorem ends_length : ∀ rs : List Rd, (endsOf rs).length = 2 * rs.length
  | [] => rfl
  | r :: rs => by
    have := ends_length rs
    unfold endsOf at *
    rw [List.flatMap_cons, List.length_append, this, List.length_cons]; simp; omega
theorem ends_o {rs : List Rd} {r : Rd} (h : r ∈ rs) : r.o ∈ endsOf rs := List.mem_flatMap.mpr ⟨r, h, by simp⟩
theorem ends_t {rs : List Rd} {r : Rd} (h : r ∈ rs) : r.t ∈ endsOf rs := List.mem_flatMap.mpr ⟨r, h, by simp⟩
theorem countP_lt {α : Type} {p q : α → Bool} {x : α} : ∀ {l : List α}, (∀ y, q y = true → p y = true) → x ∈ l → p x = true → q x = false → l.countP q < l.countP p
  | [], _, hx, _, _ => by cases hx
  | y :: l, h, hx, hp, hq => by
    have mono : l.countP q ≤ l.countP p := List.countP_mono_left fun z _ hz => h z hz
    by_cases e : y = x
    · subst e
      rw [List.countP_cons_of_pos hp, List.countP_cons_of_neg (by rw [hq]; decide)]
      omega
    · have hx' : x ∈ l := by
        rcases List.mem_cons.mp hx with z | z
        · exact absurd z.symm e
        · exact z
      have ih := countP_lt h hx' hp hq
      by_cases e1 : q y = true
      · rw [List.countP_cons_of_pos e1, List.countP_cons_of_pos (h y e1)]; omega
      · by_cases e2 : p y = true
        · rw [List.countP_cons_of_neg e1, List.countP_cons_of_pos e2]; omega
        · rw [List.countP_cons_of_neg e1, List.countP_cons_of_neg e2]; exact ih
theorem cnt_lt {rs : List Rd} {fs : List Int} {x : Int} (h : x ∈ endsOf rs) (hx : x ∉ fs) : cntN rs (fs ++ [x]) < cntN rs fs := by
  refine countP_lt (x := x) (fun y hy => ?_) h (by simpa using hx) (by simp)
  simp only [decide_eq_true_eq, List.mem_append, not_or] at hy ⊢
  exact hy.1
theorem rch_closed {rs : List Rd} {fs : List Int} {b : Int} (hb : b ∈ fs) (h : ∀ r ∈ rs, r.o ∈ fs ↔ r.t ∈ fs) {x : Int} (hx : Rch rs b x) : x ∈ fs := by
  induction hx with
  | base => exact hb
  | fwd hr _ ih => exact (h _ hr).mp ih
  | bwd hr _ ih => exact (h _ hr).mpr ih
def t_led_to (c : CA) (Ed : XD) : TSD :=
  (sSeq (sAsg (tLs (tC (tV 1) tN)) (.nm 2))
    (sSeq (sAsg (tK (.bl true)) (.nm 3))
    (sSeq (sWhile (tTs (tV 3))
    (sSeq (sAsg (tK (.bl false)) (.nm 3))
    (sFor (iLs (tV 0)) (.tp [(.nm 4), (.nm 5), (.nm 6)])
    (sIf (tTs (tO rNe (tO (rInG id) (tV 4) (tV 2)) (tO (rInG id) (tV 5) (tV 2)))) (sSeq (sDrop (tBm rApp (tV 2) (tC (tIfE (tTs (tO (rInG id) (tV 4) (tV 2))) (tV 5) (tV 4)) tN)))
    (sAsg (tK (.bl true)) (.nm 3))) sNx))))
    (sRet (tV 2)))))
theorem len_led_to : ∀ c ds H Q E, sp_led_to c ds H Q E → ds.length = (["roads", "begin"] : List Str).length := by intro c ds H Q E h; first | (obtain ⟨_, _, _, _, _, _, _, _, _, _, _, _, rfl, _⟩ := h; rfl) | (obtain ⟨_, _, _, _, _, _, _, _, _, _, _, rfl, _⟩ := h; rfl) | (obtain ⟨_, _, _, _, _, _, _, _, _, _, rfl, _⟩ := h; rfl) | (obtain ⟨_, _, _, _, _, _, _, _, _, rfl, _⟩ := h; rfl) | (obtain ⟨_, _, _, _, _, _, _, _, rfl, _⟩ := h; rfl) | (obtain ⟨rfl, _⟩ := h; rfl) | (obtain ⟨_, rfl, _⟩ := h; rfl) | (obtain ⟨_, _, rfl, _⟩ := h; rfl) | (obtain ⟨_, _, _, rfl, _⟩ := h; rfl) | (obtain ⟨_, _, _, _, rfl, _⟩ := h; rfl) | (obtain ⟨_, _, _, _, _, rfl, _⟩ := h; rfl) | (obtain ⟨_, _, _, _, _, _, rfl, _⟩ := h; rfl) | (obtain ⟨_, _, _, _, _, _, _, rfl, _⟩ := h; rfl)
theorem rd_led_to (c : CA) (Ed : XD) (ds : List D) (Hd : HD) (Qd : QD) (h : sp_led_to c ds Hd Qd Ed) : t_led_to c Ed { nx := fun _ H' => Qd .non H', rt := Qd } (startD ["roads", "begin", "found", "more", "one", "other", "cost"] ds) Hd := by
  obtain ⟨a, rs, b, rfl, ha, hl, k⟩ := h
  unfold t_led_to
  simp only [↓u_sSeq, ↓u_sAsg, ↓u_tLs, ↓u_tC, ↓u_tV, startD, List.map, List.length_cons, List.length_nil, Nat.reduceAdd, Nat.reduceSub, List.replicate, List.cons_append, List.nil_append, List.getElem?_cons_succ, List.getElem?_cons_zero, ↓u_tN, Nat.reduceLeDiff, ↓u_goA_nm, ↓u_tK, List.set, true_and, ↓u_slot]
  intro p hp
  refine ⟨fun m ρ H => ∃ (fs : List Int) (more : Bool) (x4 x5 x6 : Option D), ρ = [some (.ref a), some (.int b), some (.ref p), some (.bl more), x4, x5, x6] ∧ Ext Hd H ∧ H p = some (.lst (fs.map D.int)) ∧ fs.Nodup ∧ b ∈ fs ∧ (∀ x ∈ fs, Rch rs b x) ∧ (more = false → ∀ r ∈ rs, r.o ∈ fs ↔ r.t ∈ fs) ∧ m = 2 * cntN rs fs + more.toNat,
    ⟨_, [b], true, none, none, none, rfl, .new hp, upD_same, by simp, by simp, fun x hx => by rw [List.mem_singleton.mp hx]; exact .base, (fun h => nomatch h), rfl⟩, ?_⟩
  rintro m ρ H ⟨fs, more, x4, x5, x6, rfl, e, hpa, nd, hb, hr, hcl, rfl⟩
  simp only [↓u_tTs, ↓u_tV, List.getElem?_cons_succ, List.getElem?_cons_zero, ↓u_sSeq, ↓u_sAsg, ↓u_tK, ↓u_goA_nm, ↓u_sFor, ↓u_iLs, List.set, ↓u_slot, ↓u_lsI_ref, ↓u_sRet, ↓u_asB]
  cases more with
  | false =>
    rw [if_neg (by decide)]
    refine k p H fs hp e hpa nd fun x => ⟨hr x, rch_closed hb (hcl rfl)⟩
  | true =>
    rw [if_pos rfl]
    simp only [e _ _ ha, Option.some.injEq, DO.lst.injEq, exists_eq_left']
    refine loop_inv' (I := ⟨List.map roD rs, fun H => H a = some (.lst (List.map roD rs))⟩) (fun i ρ H' => ∃ (fs' : List Int) (more : Bool) (x4 x5 x6 : Option D), ρ = [some (.ref a), some (.int b), some (.ref p), some (.bl more), x4, x5, x6] ∧ Ext Hd H' ∧ H' p = some (.lst (fs'.map D.int)) ∧ fs'.Nodup ∧ b ∈ fs' ∧ (∀ x ∈ fs', Rch rs b x) ∧ (more = false → fs' = fs ∧ ∀ j r, j < i → rs[j]? = some r → (r.o ∈ fs' ↔ r.t ∈ fs')) ∧ (more = true → cntN rs fs' < cntN rs fs)) ?_ ?_ ?_
    · exact ⟨fs, false, _, _, _, rfl, e, hpa, nd, hb, hr, fun _ => ⟨rfl, fun j r hj => by omega⟩, (fun h => nomatch h)⟩
    · rintro i d ρ H' hd ⟨fs', more, y4, y5, y6, rfl, e', hpa', nd', hb', hr', hf, ht⟩
      obtain ⟨r, hr1, rfl⟩ := getRo_roD hd
      refine ⟨e' _ _ ha, fun N B hN _ => ?_⟩
      simp only [↓u_goA_tp, ↓u_goAs_cons, ↓u_goA_nm, ↓u_goAs_nil, ↓u_sIf, ↓u_tTs, ↓u_tO, ↓u_tV, List.set, List.getElem?_cons_succ, List.getElem?_cons_zero, ↓u_sSeq, ↓u_sDrop, ↓u_tBm, ↓u_tC, ↓u_tIfE, ↓u_tN, ↓u_rApp, ↓u_sAsg, ↓u_tK, ↓u_slot, ↓u_rInG_ref, ↓u_asR, ↓u_sNx, hpa', Option.some.injEq, exists_eq_left', ↓u_inC_ints, id_eq, ↓u_rNe_bl, ↓u_asB, DO.lst.injEq, exists_eq', decide_eq_true_eq, true_and]
      have hmem : r ∈ rs := List.mem_of_getElem? hr1
      have key : ∀ z : Int, z ∈ endsOf rs → z ∉ fs' → Rch rs b z → (r.o ∈ fs' ++ [z] ↔ r.t ∈ fs' ++ [z]) → N [some (.ref a), some (.int b), some (.ref p), some (.bl true), some (.int r.o), some (.int r.t), some (.int r.c)] (upD H' p (.lst (fs'.map D.int ++ [D.int z]))) := by
        intro z hz hn hrz hcl'
        refine hN _ _ ⟨fs' ++ [z], true, _, _, _, rfl, e'.up hp, by rw [upD_same]; simp, ?_, by simp [hb'], ?_, (fun h => nomatch h), fun _ => ?_⟩
        · rw [List.nodup_append]
          refine ⟨nd', by simp, fun x hx y hy => ?_⟩
          rw [List.mem_singleton.mp hy]
          exact fun q => hn (q ▸ hx)
        · intro x hx
          rcases List.mem_append.mp hx with q | q
          · exact hr' x q
          · rw [List.mem_singleton.mp q]; exact hrz
        · have h1 := cnt_lt (rs := rs) hz hn
          cases more with
          | true => have := ht rfl; omega
          | false => rw [← (hf rfl).1]; exact h1
      have hlen : (List.map D.int fs').length ≤ 1000000 := by
        rw [List.length_map]
        have : fs'.length ≤ (b :: endsOf rs).length := by
          refine List.Nodup.length_le_of_subset nd' fun x hx => ?_
          have := hr' x hx
          cases this with
          | base => exact List.mem_cons_self ..
          | fwd h1 _ => exact List.mem_cons_of_mem _ (ends_t h1)
          | bwd h1 _ => exact List.mem_cons_of_mem _ (ends_o h1)
        rw [List.length_cons, ends_length] at this
        omega
      by_cases c1 : r.o ∈ fs' <;> by_cases c2 : r.t ∈ fs'
      · simp only [c1, c2, decide_true, Bool.not_true, Bool.false_eq_true, if_false]
        refine hN _ _ ⟨fs', more, _, _, _, rfl, e', hpa', nd', hb', hr', fun h => ⟨(hf h).1, fun j s hj hs => ?_⟩, ht⟩
        rcases Nat.lt_succ_iff_lt_or_eq.mp hj with q | q
        · exact (hf h).2 j s q hs
        · subst q; rw [hr1] at hs; cases hs; simp [c1, c2]
      · simp only [c1, c2, decide_true, decide_false, Bool.true_eq_false, Bool.not_false, if_true]
        exact ⟨hlen, key r.t (ends_t hmem) c2 (.fwd hmem (hr' _ c1)) (by simp [c1])⟩
      · simp only [c1, c2, decide_true, decide_false, Bool.false_eq_true, Bool.not_false, if_true, if_false]
        exact ⟨hlen, key r.o (ends_o hmem) c1 (.bwd hmem (hr' _ c2)) (by simp [c2])⟩
      · simp only [c1, c2, decide_false, Bool.not_true, Bool.false_eq_true, if_false]
        refine hN _ _ ⟨fs', more, _, _, _, rfl, e', hpa', nd', hb', hr', fun h => ⟨(hf h).1, fun j s hj hs => ?_⟩, ht⟩
        rcases Nat.lt_succ_iff_lt_or_eq.mp hj with q | q
        · exact (hf h).2 j s q hs
        · subst q; rw [hr1] at hs; cases hs; simp [c1, c2]
    · rintro ρ H' ⟨fs', more, y4, y5, y6, rfl, e', hpa', nd', hb', hr', hf, ht⟩
      refine ⟨e' _ _ ha, ?_⟩
      cases more with
      | true => exact ⟨_, by have := ht rfl; show 2 * cntN rs fs' + 1 < 2 * cntN rs fs + 1; omega, fs', true, _, _, _, rfl, e', hpa', nd', hb', hr', (fun h => nomatch h), rfl⟩
      | false =>
        obtain ⟨rfl, hc⟩ := hf rfl
        refine ⟨_, ?_, fs', false, _, _, _, rfl, e', hpa', nd', hb', hr', fun _ r hr1 => ?_, rfl⟩
        · show 2 * cntN rs fs' + 0 < 2 * cntN rs fs' + 1; omega
        · obtain ⟨j, hj⟩ := List.getElem?_of_mem hr1
          exact hc j r (by show j < (List.map roD rs).length; rw [List.length_map]; exact (List.getElem?_eq_some_iff.mp hj).1) hj
end Lt


end
section
set_option Elab.async false
set_option linter.all false
set_option maxRecDepth 100000
set_option maxHeartbeats 4000000
namespace Lt
open PySem PySem.Spec L2
theorem nth_rng {lo : Int} {n i : Nat} {d : D} (h : (rngD lo n)[i]? = some d) : i < n ∧ d = .int (lo + (i : Nat)) := by
  unfold rngD at h
  obtain ⟨k, hk, rfl⟩ := getMap h
  rw [List.getElem?_range] at hk
  · cases hk
    exact ⟨by have := (List.getElem?_eq_some_iff.mp h).1; simpa using this, rfl⟩
  · have := (List.getElem?_eq_some_iff.mp h).1; simpa using this
theorem rngD_length {lo : Int} {n : Nat} : (rngD lo n).length = n := by unfold rngD; simp
theorem Rch.sub {rs ss : List Rd} (h : ∀ r ∈ rs, r ∈ ss) {b x : Int} (k : Rch rs b x) : Rch ss b x := by
  induction k with
  | base => exact .base
  | fwd hr _ ih => exact .fwd (h _ hr) ih
  | bwd hr _ ih => exact .bwd (h _ hr) ih
theorem fitsB_of {n : Int} {rs : List Rd} (ok : WebOk n rs) {i : Nat} {r : Rd} (h : rs[i]? = some r) : fitsB n (rs.take i) r = true := by
  obtain ⟨h1, h2, h3, h4, h5⟩ := ok.ok r (List.mem_of_getElem? h)
  unfold fitsB
  simp only [h1, h2, h3, h4, h5, decide_true, Bool.true_and, List.all_eq_true]
  intro w hw
  obtain ⟨j, hj⟩ := List.getElem?_of_mem hw
  have hji : j < i := by
    have := (List.getElem?_eq_some_iff.mp hj).1
    rw [List.length_take] at this
    omega
  rw [List.getElem?_take, if_pos hji] at hj
  have ap := List.pairwise_iff_getElem.mp ok.ap j i (List.getElem?_eq_some_iff.mp hj).1 (List.getElem?_eq_some_iff.mp h).1 hji
  rw [(List.getElem?_eq_some_iff.mp hj).2, (List.getElem?_eq_some_iff.mp h).2] at ap
  obtain ⟨a1, a2⟩ := ap
  simp only [a2, decide_false, Bool.or_false, Bool.not_eq_true', Bool.and_eq_false_iff, decide_eq_false_iff_not]
  by_cases e : w.o = r.o
  · exact .inr fun e2 => a1 ⟨e, e2⟩
  · exact .inl e
/-- all hands are among those led to -/
theorem len_ge {n : Int} {fs : List Int} (h : ∀ x, 0 ≤ x → x < n → x ∈ fs) : n ≤ (fs.length : Nat) := by
  have := List.Nodup.length_le_of_subset (l₁ := (List.range n.toNat).map fun i => ((i : Nat) : Int)) (l₂ := fs) (by
    refine List.Pairwise.map _ (fun a b h => ?_) List.nodup_range
    intro z; exact h (by omega)) (fun x hx => by
    obtain ⟨i, hi, rfl⟩ := List.mem_map.mp hx
    have := List.mem_range.mp hi
    exact h _ (by omega) (by omega))
  simp at this
  omega
def t_Web_init (c : CA) (Ed : XD) : TSD :=
  (sSeq (sIf (tNt (tTs (tChn rLe rLe (tK (.int 1)) (tV 1) (tK (.int 8))))) sNever sNx)
    (sSeq (sIf (tTs (tO rGt (tCb rLen (tC (tV 2) tN)) (tK (.int 20)))) sNever sNx)
    (sSeq (sFl c.Web 0 (tV 1) (tV 0))
    (sSeq (sFl c.Web 1 (tLs tN) (tV 0))
    (sSeq (sFor (iR1 (tC (tCb rLen (tC (tV 2) tN)) tN)) (.nm 3)
    (sSeq (sIf (tNt (tTs (tMet c.Web (sp_Web_fits c) (WdE Ed) (tV 0) (tC (tO rIx (tV 2) (tV 3)) tN)))) sNever sNx)
    (sDrop (tBm rApp (tFl c.Web 1 (tV 0)) (tC (tO rIx (tV 2) (tV 3)) tN)))))
    (sIf (tTs (tO rLt (tCb rLen (tC (tCal (sp_led_to c) (WdE Ed) (tC (tFl c.Web 1 (tV 0)) (tC (tK (.int 0)) tN))) tN)) (tV 1))) sNever sNx))))))
theorem len_Web_init : ∀ c ds H Q E, sp_Web_init c ds H Q E → ds.length = (["self", "hands", "roads"] : List Str).length := by intro c ds H Q E h; first | (obtain ⟨_, _, _, _, _, _, _, _, _, _, _, _, rfl, _⟩ := h; rfl) | (obtain ⟨_, _, _, _, _, _, _, _, _, _, _, rfl, _⟩ := h; rfl) | (obtain ⟨_, _, _, _, _, _, _, _, _, _, rfl, _⟩ := h; rfl) | (obtain ⟨_, _, _, _, _, _, _, _, _, rfl, _⟩ := h; rfl) | (obtain ⟨_, _, _, _, _, _, _, _, rfl, _⟩ := h; rfl) | (obtain ⟨rfl, _⟩ := h; rfl) | (obtain ⟨_, rfl, _⟩ := h; rfl) | (obtain ⟨_, _, rfl, _⟩ := h; rfl) | (obtain ⟨_, _, _, rfl, _⟩ := h; rfl) | (obtain ⟨_, _, _, _, rfl, _⟩ := h; rfl) | (obtain ⟨_, _, _, _, _, rfl, _⟩ := h; rfl) | (obtain ⟨_, _, _, _, _, _, rfl, _⟩ := h; rfl) | (obtain ⟨_, _, _, _, _, _, _, rfl, _⟩ := h; rfl)
theorem rd_Web_init (c : CA) (Ed : XD) (ds : List D) (Hd : HD) (Qd : QD) (h : sp_Web_init c ds Hd Qd Ed) : t_Web_init c Ed { nx := fun _ H' => Qd .non H', rt := Qd } (startD ["self", "hands", "roads", "number"] ds) Hd := by
  obtain ⟨x, n, l0, rs, rfl, h1, h2, ok, k⟩ := h
  unfold t_Web_init
  have nx : x ≠ l0 := fun z => by rw [z, h2] at h1; cases h1
  have hf := ok.few
  simp only [↓u_sSeq, ↓u_sIf, ↓u_tNt, ↓u_tTs, ↓u_tChn, ↓u_tK, ↓u_tV, startD, List.map, List.length_cons, List.length_nil, Nat.reduceAdd, Nat.reduceSub, List.replicate, List.cons_append, List.nil_append, List.getElem?_cons_succ, List.getElem?_cons_zero, ↓u_sNx, ↓u_tO, ↓u_tCb, ↓u_tC, ↓u_tN, ↓u_sFl, Nat.zero_le, ↓u_tLs, putI, ↓u_sFor, ↓u_iR1, ↓u_slot, ↓u_rLen_ref, ↓u_asR, true_and, ↓u_asB, Bool.not_false, if_true, ↓u_rLe, ok.n1, decide_true, ok.n8, Bool.not_true, Bool.false_eq_true, h2, Option.some.injEq, exists_eq_left', ↓u_lnC_lst, ↓u_rGt, List.length_map, decide_eq_true_eq, h1, DO.ins.injEq, Nat.lt_irrefl, List.set, if_false]
  rw [if_neg (by omega)]
  intro p hp
  have hp1 := upD_none hp
  have np := upD_noneNe hp
  have np0 : p ≠ l0 := neD' h2 hp1
  simp only [upD_ne np.symm, upD_same, Option.some.injEq, DO.ins.injEq, true_and, upD_ne nx.symm, upD_ne np0.symm, h2, exists_eq_left', ↓u_lnC_lst, ↓u_r1I, List.length_map, List.length_cons, List.length_nil, Nat.reduceAdd, Nat.le_refl, Nat.lt_irrefl, List.set, List.cons_append, List.nil_append, if_false]
  refine ⟨by omega, ?_⟩
  refine loop_inv' (I := ⟨rngD 0 (Int.toNat (rs.length : Nat)), fun _ => True⟩) (fun i ρ H => (∃ z, ρ = [some (.ref x), some (.int n), some (.ref l0), z]) ∧ ExtE x Hd H ∧ H x = some (.ins c.Web [.int n, .ref p]) ∧ H p = some (.lst ((rs.take i).map roD))) ?_ ?_ ?_
  · exact ⟨⟨_, rfl⟩, (((ExtE.refl x Hd).here.up hp1).here), upD_same, by rw [upD_ne np, upD_same]; rfl⟩
  · rintro i d ρ H hd ⟨⟨z, rfl⟩, e, e1, e2⟩
    obtain ⟨hi, rfl⟩ := nth_rng hd
    rw [Int.toNat_natCast] at hi
    refine ⟨trivial, fun N B hN _ => ?_⟩
    obtain ⟨r, hr⟩ : ∃ r, rs[i]? = some r := ⟨_, List.getElem?_eq_getElem hi⟩
    have hat : L2.atI (rs.map roD) (0 + (i : Nat)) = some (roD r) := by rw [Int.zero_add]; exact L2.atI_nat (getRo hr)
    simp only [↓u_goA_nm, ↓u_sSeq, ↓u_sIf, ↓u_tNt, ↓u_tTs, ↓u_tMet, ↓u_tV, List.set, List.getElem?_cons_zero, ↓u_tC, ↓u_tO, List.getElem?_cons_succ, ↓u_tN, ↓u_sNx, ↓u_sDrop, ↓u_tBm, ↓u_tFl, ↓u_rApp, ↓u_slot, ↓u_rIx_ref, ↓u_asR, ↓u_WdE, e _ _ nx.symm h2, Option.some.injEq, exists_eq_left', ↓u_ixC_lst, hat, roD_def, e1, DO.ins.injEq, true_and, exists_eq']
    refine ⟨x, n, p, _, r, rfl, e1, e2, by rw [List.length_take]; omega, fun H' e' => ?_⟩
    simp only [↓u_asB, fitsB_of ok hr, Bool.not_true, Bool.false_eq_true, e' _ _ e1, Option.some.injEq, DO.ins.injEq, true_and, (e.trans e'.but) _ _ nx.symm h2, exists_eq_left', ↓u_ixC_lst, hat, roD_def, List.getElem?_cons_succ, List.getElem?_cons_zero, ↓u_gt1, ↓u_asR, e' _ _ e2, DO.lst.injEq, exists_eq', if_false]
    refine ⟨by rw [List.length_map, List.length_take]; omega, hN _ _ ⟨⟨_, rfl⟩, ?_, ?_, ?_⟩⟩
    · exact (e.trans e'.but).up hp1
    · rw [upD_ne np.symm]; exact e' _ _ e1
    · rw [upD_same, map_take hr]; rfl
  · rintro ρ H ⟨⟨z, rfl⟩, e, e1, e2⟩
    refine ⟨trivial, ?_⟩
    rw [rngD_length, Int.toNat_natCast, List.take_length] at e2
    simp only [↓u_sIf, ↓u_tTs, ↓u_tO, ↓u_tCb, ↓u_tC, ↓u_tCal, ↓u_tFl, ↓u_tV, List.getElem?_cons_zero, ↓u_tK, ↓u_tN, List.getElem?_cons_succ, ↓u_sNx, ↓u_slot, ↓u_WdE, ↓u_asR, e1, Option.some.injEq, DO.ins.injEq, true_and, exists_eq_left', ↓u_gt1]
    refine ⟨p, rs, 0, rfl, e2, by omega, fun q H' fs hq e' h3 nd hm => ?_⟩
    simp only [↓u_rLen_ref, h3, Option.some.injEq, exists_eq_left', ↓u_lnC_lst, ↓u_rLt, ↓u_asB, List.length_map, decide_eq_true_eq]
    have := len_ge (n := n) (fs := fs) fun x h0 hn => (hm x).mpr (ok.con x h0 hn)
    rw [if_neg (by omega)]
    exact k p H' hp1 (e.trans e'.but) (e' _ _ e1) (e' _ _ e2)
end Lt


end
section
set_option Elab.async false
set_option linter.all false
set_option maxRecDepth 100000
set_option maxHeartbeats 4000000
namespace Lt
open PySem PySem.Spec L2
def t__law_dice (c : CA) (Ed : XD) : TSD :=
  (sSeq (sAsg (tK (.int 0)) (.nm 1))
    (sSeq (sFor (iLs (tV 0)) (.nm 2)
    (sAsg (tO rMod (tO rAdd (tO rAdd (tO rMul (tV 1) (tK (.int 48271))) (tO rMul (tO rMod (tV 2) (tK (.int 2147483647))) (tK (.int 69621)))) (tK (.int 11))) (tK (.int 2147483647))) (.nm 1)))
    (sRet (tLs (tC (tV 0) (tC (tK (.int 0)) (tC (tO rMul (tV 1) (tCb rInt (tC (tO rGt (tCb rLen (tC (tV 0) tN)) (tK (.int 2))) tN))) (tC (tK (.int 0)) tN))))))))
theorem len__law_dice : ∀ c ds H Q E, sp__law_dice c ds H Q E → ds.length = (["_law_script"] : List Str).length := by intro c ds H Q E h; first | (obtain ⟨_, _, _, _, _, _, _, _, _, _, _, _, rfl, _⟩ := h; rfl) | (obtain ⟨_, _, _, _, _, _, _, _, _, _, _, rfl, _⟩ := h; rfl) | (obtain ⟨_, _, _, _, _, _, _, _, _, _, rfl, _⟩ := h; rfl) | (obtain ⟨_, _, _, _, _, _, _, _, _, rfl, _⟩ := h; rfl) | (obtain ⟨_, _, _, _, _, _, _, _, rfl, _⟩ := h; rfl) | (obtain ⟨rfl, _⟩ := h; rfl) | (obtain ⟨_, rfl, _⟩ := h; rfl) | (obtain ⟨_, _, rfl, _⟩ := h; rfl) | (obtain ⟨_, _, _, rfl, _⟩ := h; rfl) | (obtain ⟨_, _, _, _, rfl, _⟩ := h; rfl) | (obtain ⟨_, _, _, _, _, rfl, _⟩ := h; rfl) | (obtain ⟨_, _, _, _, _, _, rfl, _⟩ := h; rfl) | (obtain ⟨_, _, _, _, _, _, _, rfl, _⟩ := h; rfl)
theorem rd__law_dice (c : CA) (Ed : XD) (ds : List D) (Hd : HD) (Qd : QD) (h : sp__law_dice c ds Hd Qd Ed) : t__law_dice c Ed { nx := fun _ H' => Qd .non H', rt := Qd } (startD ["_law_script", "_law_mixed", "_law_cell"] ds) Hd := by
  obtain ⟨ns, rfl, k⟩ := h
  unfold t__law_dice
  simp only [↓u_sSeq, ↓u_sAsg, ↓u_tK, ↓u_goA_nm, ↓u_sFor, ↓u_iLs, ↓u_tV, startD, List.map, List.length_cons, List.length_nil, Nat.reduceAdd, Nat.reduceSub, List.replicate, List.cons_append, List.nil_append, List.set, List.getElem?_cons_zero, ↓u_slot, ↓u_lsI_rl]
  refine loop_inv' (I := ⟨ns.map D.int, fun _ => True⟩) (fun i ρ H => H = Hd ∧ ∃ m z, ρ = [some (.rl (ns.map D.int)), some (.int m), z] ∧ 0 ≤ m ∧ m < 2147483647) ?_ ?_ ?_
  · exact ⟨rfl, 0, none, rfl, by omega, by omega⟩
  · rintro i d ρ H hd ⟨rfl, m, z, rfl, h1, h2⟩
    obtain ⟨v, hv, rfl⟩ := getMap hd
    refine ⟨trivial, fun N B hN _ => ?_⟩
    simp only [↓u_goA_nm, ↓u_sAsg, ↓u_tO, ↓u_tV, List.set, List.getElem?_cons_succ, List.getElem?_cons_zero, ↓u_tK, ↓u_slot, ↓u_rMod, ↓u_rMul_int, ↓u_rAdd_int]
    refine ⟨by unfold CMul; omega, by omega, by unfold CMul; omega, by omega, hN _ _ ⟨rfl, _, _, rfl, ?_, ?_⟩⟩
    · exact Int.emod_nonneg _ (by omega)
    · exact Int.emod_lt_of_pos _ (by omega)
  · rintro ρ H ⟨rfl, m, z, rfl, h1, h2⟩
    refine ⟨trivial, ?_⟩
    simp only [↓u_sRet, ↓u_tLs, ↓u_tC, ↓u_tV, List.getElem?_cons_zero, ↓u_tK, ↓u_tO, List.getElem?_cons_succ, ↓u_tCb, ↓u_tN, List.length_cons, List.length_nil, Nat.reduceAdd, Nat.reduceLeDiff, true_and, ↓u_slot, ↓u_rLen_rl, ↓u_rGt, ↓u_rInt_bl, decide_eq_true_eq, ↓u_rMul_int]
    refine ⟨.inl ⟨by omega, by omega⟩, fun p hp => k p _ hp (.new hp) ⟨ns, 0, _, 0, upD_same, by omega, ?_, ?_⟩⟩
    · split <;> omega
    · split <;> omega
def t__law_next (c : CA) (Ed : XD) : TSD :=
  (sSeq (sIf (tTs (tO rGt (tO rIx (tV 0) (tK (.int 3))) (tK (.int 0)))) (sSeq (sAsg (tO rMod (tO rIx (tV 0) (tK (.int 3))) (tV 1)) (.nm 2))
    (sSeq (sSub (tO rDiv (tO rIx (tV 0) (tK (.int 3))) (tV 1)) (tV 0) (tK (.int 3)))
    (sRet (tV 2)))) sNx)
    (sSeq (sSub (tO rAdd (tO rIx (tV 0) (tK (.int 1))) (tK (.int 1))) (tV 0) (tK (.int 1)))
    (sSeq (sIf (tTs (tO rLe (tO rIx (tV 0) (tK (.int 1))) (tCb rLen (tC (tO rIx (tV 0) (tK (.int 0))) tN)))) (sSeq (sAsg (tO rIx (tO rIx (tV 0) (tK (.int 0))) (tO rSub (tO rIx (tV 0) (tK (.int 1))) (tK (.int 1)))) (.nm 3))
    (sSeq (sSub (tIfE (tTs (tO rGe (tV 3) (tO rPow (tK (.int 10)) (tK (.int 18))))) (tO rDiv (tV 3) (tV 1)) (tK (.int 0))) (tV 0) (tK (.int 3)))
    (sRet (tO rMod (tV 3) (tV 1))))) sNx)
    (sSeq (sSub (tO rMod (tO rMul (tO rIx (tV 0) (tK (.int 2))) (tK (.int 48271))) (tK (.int 2147483647))) (tV 0) (tK (.int 2)))
    (sRet (tO rMod (tO rDiv (tO rIx (tV 0) (tK (.int 2))) (tK (.int 7))) (tV 1)))))))
theorem len__law_next : ∀ c ds H Q E, sp__law_next c ds H Q E → ds.length = (["_law_dice_here", "_law_many"] : List Str).length := by intro c ds H Q E h; first | (obtain ⟨_, _, _, _, _, _, _, _, _, _, _, _, rfl, _⟩ := h; rfl) | (obtain ⟨_, _, _, _, _, _, _, _, _, _, _, rfl, _⟩ := h; rfl) | (obtain ⟨_, _, _, _, _, _, _, _, _, _, rfl, _⟩ := h; rfl) | (obtain ⟨_, _, _, _, _, _, _, _, _, rfl, _⟩ := h; rfl) | (obtain ⟨_, _, _, _, _, _, _, _, rfl, _⟩ := h; rfl) | (obtain ⟨rfl, _⟩ := h; rfl) | (obtain ⟨_, rfl, _⟩ := h; rfl) | (obtain ⟨_, _, rfl, _⟩ := h; rfl) | (obtain ⟨_, _, _, rfl, _⟩ := h; rfl) | (obtain ⟨_, _, _, _, rfl, _⟩ := h; rfl) | (obtain ⟨_, _, _, _, _, rfl, _⟩ := h; rfl) | (obtain ⟨_, _, _, _, _, _, rfl, _⟩ := h; rfl) | (obtain ⟨_, _, _, _, _, _, _, rfl, _⟩ := h; rfl)
theorem rd__law_next (c : CA) (Ed : XD) (ds : List D) (Hd : HD) (Qd : QD) (h : sp__law_next c ds Hd Qd Ed) : t__law_next c Ed { nx := fun _ H' => Qd .non H', rt := Qd } (startD ["_law_dice_here", "_law_many", "_law_found", "_law_cell"] ds) Hd := by
  obtain ⟨a, m, rfl, ⟨ns, k, mx, r, ha, hk, hm1, hm2⟩, hm0, hm30, q⟩ := h
  unfold t__law_next
  have hcd : ∀ x : Int, CDiv x m := fun x => ⟨hm0, hm30⟩
  have hp18 : CPow 10 18 := ⟨by omega, by omega, by decide⟩
  simp only [↓u_sSeq, ↓u_sIf, ↓u_tTs, ↓u_tO, ↓u_tV, startD, List.map, List.length_cons, List.length_nil, Nat.reduceAdd, Nat.reduceSub, List.replicate, List.cons_append, List.nil_append, List.getElem?_cons_zero, ↓u_tK, ↓u_sAsg, List.getElem?_cons_succ, ↓u_goA_nm, ↓u_sSub, List.set, ↓u_slot, ↓u_asR, ↓u_rIx_ref, ↓u_sNx, ha, Option.some.injEq, exists_eq_left', ↓u_ixC_lst, ↓u_at3, ↓u_rGt, ↓u_asB, decide_eq_true_eq, ↓u_rMod, hm0, ↓u_rDiv, hcd, ↓u_sbC_lst, ↓u_ixN43, ↓u_sRet, true_and, ↓u_at1, ↓u_rAdd_int, ↓u_ixN41, ↓u_tCb, ↓u_tC, ↓u_tN, ↓u_tIfE, ↓u_rPow, hp18, Int.reduceToNat, upD_same, ↓u_at0, ↓u_rLen_rl, ↓u_rLe, ↓u_rSub, ↓u_rIx_rl, ↓u_at2, ↓u_rMul_int, ↓u_ixN42]
  by_cases c1 : 0 < r
  · rw [if_pos c1]
    exact q _ _ (Int.emod_nonneg _ (by omega)) (Int.emod_lt_of_pos _ hm0) ((ExtE.refl a Hd).here) ⟨ns, k, mx, _, upD_same, hk, hm1, hm2⟩
  · rw [if_neg c1]
    by_cases c2 : k + 1 ≤ ((ns.map D.int).length : Nat)
    · rw [if_pos c2]
      rw [List.length_map] at c2
      obtain ⟨v, hv⟩ : ∃ v, ns[k.toNat]? = some v := ⟨_, List.getElem?_eq_getElem (by omega)⟩
      have hat : L2.atI (ns.map D.int) (k + 1 - 1) = some (.int v) := by
        have e : k + 1 - 1 = ((k.toNat : Nat) : Int) := by omega
        rw [e]
        exact L2.atI_nat (by rw [List.getElem?_map, hv]; rfl)
      refine ⟨_, hat, ?_⟩
      simp only [↓u_rGe, ↓u_asB, decide_eq_true_eq, ↓u_rDiv, hcd, upD_same, Option.some.injEq, exists_eq_left', ↓u_sbC_lst, List.length_cons, List.length_nil, Nat.reduceAdd, ↓u_ixN43, ↓u_sRet, ↓u_tO, ↓u_tV, List.getElem?_cons_succ, List.getElem?_cons_zero, ↓u_slot, ↓u_rMod, hm0, true_and, List.set]
      split
      · exact q _ _ (Int.emod_nonneg _ (by omega)) (Int.emod_lt_of_pos _ hm0) (((ExtE.refl a Hd).here).here) ⟨ns, k + 1, mx, _, upD_same, by omega, hm1, hm2⟩
      · exact q _ _ (Int.emod_nonneg _ (by omega)) (Int.emod_lt_of_pos _ hm0) (((ExtE.refl a Hd).here).here) ⟨ns, k + 1, mx, _, upD_same, by omega, hm1, hm2⟩
    · rw [if_neg c2]
      refine ⟨by unfold CMul; omega, by omega, ⟨by omega, by omega⟩, ?_⟩
      exact q _ _ (Int.emod_nonneg _ (by omega)) (Int.emod_lt_of_pos _ hm0) (((ExtE.refl a Hd).here).here) ⟨ns, k + 1, _, r, upD_same, by omega, Int.emod_nonneg _ (by omega), Int.emod_lt_of_pos _ (by omega)⟩
theorem IsDice.ne {H : HD} {a p : Addr} (h : IsDice H a) (hp : H p = none) : p ≠ a := by
  obtain ⟨_, _, _, _, h, _⟩ := h
  exact neD' h hp
theorem IsDice.keep {H H' : HD} {a : Addr} (h : IsDice H a) (e : H' a = H a) : IsDice H' a := by
  obtain ⟨ns, k, m, r, h, b⟩ := h
  exact ⟨ns, k, m, r, e.trans h, b⟩
theorem IsDice.up {H : HD} {a p : Addr} {c : DO} (h : IsDice H a) (n : p ≠ a) : IsDice (upD H p c) a := h.keep (upD_ne n.symm)
def rgI (n : Nat) : List Int := (List.range n).map fun i => ((i : Nat) : Int)
theorem rngD_rgI {n : Nat} : rngD 0 n = (rgI n).map D.int := by
  unfold rngD rgI
  rw [List.map_map]
  refine List.map_congr_left fun i _ => ?_
  show D.int (0 + _) = D.int _
  rw [Int.zero_add]
theorem rgI_nodup {n : Nat} : (rgI n).Nodup := by
  unfold rgI
  refine List.Pairwise.map _ (fun a b h => ?_) List.nodup_range
  intro z
  exact h (by omega)
theorem rgI_mem {n : Nat} {x : Int} : x ∈ rgI n ↔ 0 ≤ x ∧ x < (n : Nat) := by
  unfold rgI
  rw [List.mem_map]
  constructor
  · rintro ⟨i, hi, rfl⟩
    have := List.mem_range.mp hi
    omega
  · rintro ⟨h0, h1⟩
    exact ⟨x.toNat, List.mem_range.mpr (by omega), by omega⟩
theorem rgI_length {n : Nat} : (rgI n).length = n := by unfold rgI; simp
def insAt {α : Type} (ps : List α) (i : Nat) (y : α) : List α := ps.take i ++ [y] ++ ps.drop i
theorem insAt_perm {α : Type} {ps : List α} {i : Nat} {y : α} : (insAt ps i y).Perm (y :: ps) := by
  unfold insAt
  rw [List.append_assoc]
  have h := List.perm_middle (a := y) (l₁ := ps.take i) (l₂ := ps.drop i)
  rw [List.take_append_drop] at h
  exact h
theorem insAt_map {α β : Type} {f : α → β} {ps : List α} {i : Nat} {y : α} : (ps.map f).take i ++ [f y] ++ (ps.map f).drop i = (insAt ps i y).map f := by
  unfold insAt
  simp [List.map_take, List.map_drop]
theorem eraseIdx_mapD {α β : Type} {f : α → β} : ∀ (l : List α) (i : Nat), (l.map f).eraseIdx i = (l.eraseIdx i).map f
  | [], _ => rfl
  | _ :: _, 0 => rfl
  | x :: l, i + 1 => by
    show f x :: (l.map f).eraseIdx i = f x :: (l.eraseIdx i).map f
    rw [eraseIdx_mapD l i]
theorem eraseIdx_permD {α : Type} {x : α} : ∀ {l : List α} {i : Nat}, l[i]? = some x → (x :: l.eraseIdx i).Perm l
  | [], i, h => by simp at h
  | y :: l, 0, h => by
    have e : y = x := by simpa using h
    subst e
    exact List.Perm.refl _
  | y :: l, i + 1, h => by
    have h' : l[i]? = some x := by simpa using h
    exact (List.Perm.swap y x _).trans ((eraseIdx_permD h').cons y)
structure Prs (n : Int) (ps : List (Int × Int)) : Prop where
  nd : ps.Nodup
  ok : ∀ p ∈ ps, 0 ≤ p.1 ∧ p.1 < p.2 ∧ p.2 < n
theorem Prs.ins {n : Int} {ps : List (Int × Int)} (h : Prs n ps) {i : Nat} {y : Int × Int} (hn : y ∉ ps) (hy : 0 ≤ y.1 ∧ y.1 < y.2 ∧ y.2 < n) : Prs n (insAt ps i y) := by
  refine ⟨insAt_perm.nodup_iff.mpr (List.nodup_cons.mpr ⟨hn, h.nd⟩), fun p hp => ?_⟩
  rcases List.mem_cons.mp (insAt_perm.mem_iff.mp hp) with e | e
  · rw [e]; exact hy
  · exact h.ok p e
def toR (p : Int × Int) : Rd := ⟨p.1, p.2, 0⟩
theorem Rch.mono {rs ss : List Rd} (h : ∀ r ∈ rs, ∃ s ∈ ss, s.o = r.o ∧ s.t = r.t) {b x : Int} (k : Rch rs b x) : Rch ss b x := by
  induction k with
  | base => exact .base
  | fwd hr _ ih =>
    obtain ⟨s, hs, e1, e2⟩ := h _ hr
    rw [← e2]
    exact .fwd hs (e1 ▸ ih)
  | bwd hr _ ih =>
    obtain ⟨s, hs, e1, e2⟩ := h _ hr
    rw [← e1]
    exact .bwd hs (e2 ▸ ih)
theorem Rch.trans {rs : List Rd} {x y z : Int} (h : Rch rs x y) (k : Rch rs y z) : Rch rs x z := by
  induction k with
  | base => exact h
  | fwd hr _ ih => exact .fwd hr ih
  | bwd hr _ ih => exact .bwd hr ih
theorem Rch.symm {rs : List Rd} {x y : Int} (h : Rch rs x y) : Rch rs y x := by
  induction h with
  | base => exact .base
  | fwd hr _ ih => exact Rch.trans (.bwd hr .base) ih
  | bwd hr _ ih => exact Rch.trans (.fwd hr .base) ih
abbrev RchP (ps : List (Int × Int)) (b x : Int) : Prop := Rch (ps.map toR) b x
theorem RchP.ins {ps : List (Int × Int)} {i : Nat} {y : Int × Int} {b x : Int} (h : RchP ps b x) : RchP (insAt ps i y) b x := by
  refine Rch.sub (fun r hr => ?_) h
  obtain ⟨p, hp, rfl⟩ := List.mem_map.mp hr
  exact List.mem_map.mpr ⟨p, insAt_perm.mem_iff.mpr (List.mem_cons_of_mem _ hp), rfl⟩
theorem sort2 (x y : Int) : ∃ lo hi, sortI [x, y] = [lo, hi] ∧ lo ≤ hi ∧ ((lo = x ∧ hi = y) ∨ (lo = y ∧ hi = x)) := by
  by_cases h : x ≤ y
  · exact ⟨x, y, by simp [sortI, srt, insL, leI, h], h, .inl ⟨rfl, rfl⟩⟩
  · exact ⟨y, x, by simp [sortI, srt, insL, leI, h], by omega, .inr ⟨rfl, rfl⟩⟩
def costL : List Int := (List.range 99).map fun i => 1 + (i : Nat)
theorem costL_mem {x : Int} (h : x ∈ costL) : 1 ≤ x ∧ x ≤ 99 := by
  unfold costL at h
  obtain ⟨i, hi, rfl⟩ := List.mem_map.mp h
  have := List.mem_range.mp hi
  omega
theorem costL_nodup : costL.Nodup := by
  unfold costL
  refine List.Pairwise.map _ (fun a b h => ?_) List.nodup_range
  intro z
  exact h (by omega)
/-- where the web's maker stands once the order is drawn -/
structure WebSt (Hd H : HD) (a p5 : Addr) (n : Int) (ps : List (Int × Int)) : Prop where
  e : ExtE a Hd H
  d : IsDice H a
  h : H p5 = some (.lst (ps.map prD))
  p : Prs n ps
theorem WebSt.next {Hd H H' : HD} {a p5 : Addr} {n : Int} {ps : List (Int × Int)} (w : WebSt Hd H a p5 n ps) (n5 : p5 ≠ a) (e : ExtE a H H') (d : IsDice H' a) : WebSt Hd H' a p5 n ps := ⟨w.e.trans e, d, e _ _ n5 w.h, w.p⟩
theorem WebSt.up {Hd H : HD} {a p5 q : Addr} {c : DO} {n : Int} {ps : List (Int × Int)} (w : WebSt Hd H a p5 n ps) (hq : H q = none) : WebSt Hd (upD H q c) a p5 n ps :=
  ⟨fun b u k1 k2 => upD_old (w.e b u k1 k2) hq, w.d.up (w.d.ne hq), upD_old w.h hq, w.p⟩
theorem WebSt.ins {Hd H : HD} {a p5 : Addr} {n : Int} {ps : List (Int × Int)} (w : WebSt Hd H a p5 n ps) (h5 : Hd p5 = none) (n5 : p5 ≠ a) {i : Nat} {y : Int × Int} (hn : y ∉ ps) (hy : 0 ≤ y.1 ∧ y.1 < y.2 ∧ y.2 < n) : WebSt Hd (upD H p5 (.lst ((insAt ps i y).map prD))) a p5 n (insAt ps i y) :=
  ⟨w.e.up h5, w.d.up n5, upD_same, w.p.ins hn hy⟩
def t__law_web (c : CA) (Ed : XD) : TSD :=
  (sSeq (sAsg (tO rAdd (tK (.int 1)) (tCal (sp__law_next c) (WdE Ed) (tC (tV 0) (tC (tV 1) tN)))) (.nm 2))
    (sSeq (sAsg (tLr1 (tV 2)) (.nm 3))
    (sSeq (sAsg (tLcG (iR1 (tC (tV 2) tN)) (.nm 6) tYs (tBm rPopI (tV 3) (tC (tCal (sp__law_next c) noW (tC (tV 0) (tC (tCb rLen (tC (tV 3) tN)) tN))) tN)) [6]) (.nm 4))
    (sSeq (sAsg (tLs tN) (.nm 5))
    (sSeq (sFor (iR2 (tC (tK (.int 1)) (tC (tV 2) tN))) (.nm 6)
    (sDrop (tBm rIns (tV 5) (tC (tCal (sp__law_next c) (WdE Ed) (tC (tV 0) (tC (tO rAdd (tCb rLen (tC (tV 5) tN)) (tK (.int 1))) tN))) (tC (tCb rTuple (tC (tCb rSorted (tC (tLs (tC (tO rIx (tV 4) (tCal (sp__law_next c) (WdE Ed) (tC (tV 0) (tC (tV 6) tN)))) (tC (tO rIx (tV 4) (tV 6)) tN))) tN)) tN)) tN)))))
    (sSeq (sFor (iR1 (tC (tCal (sp__law_next c) (WdE Ed) (tC (tV 0) (tC (tCb rMin2 (tC (tK (.int 13)) (tC (tO rMul (tK (.int 2)) (tV 2)) tN))) tN))) tN)) (.nm 6)
    (sSeq (sAsg (tCb rTuple (tC (tCb rSorted (tC (tLs (tC (tCal (sp__law_next c) (WdE Ed) (tC (tV 0) (tC (tV 2) tN))) (tC (tCal (sp__law_next c) (WdE Ed) (tC (tV 0) (tC (tV 2) tN))) tN))) tN)) tN)) (.nm 7))
    (sIf (tAn (tTs (tO rLt (tO rIx (tV 7) (tK (.int 0))) (tO rIx (tV 7) (tK (.int 1))))) (tTs (tO (rInG not) (tV 7) (tV 5)))) (sDrop (tBm rIns (tV 5) (tC (tCal (sp__law_next c) (WdE Ed) (tC (tV 0) (tC (tO rAdd (tCb rLen (tC (tV 5) tN)) (tK (.int 1))) tN))) (tC (tV 7) tN)))) sNx)))
    (sSeq (sFor (iR1 (tC (tO rMul (tV 2) (tCb rInt (tC (tO rEq (tCal (sp__law_next c) (WdE Ed) (tC (tV 0) (tC (tK (.int 8)) tN))) (tK (.int 7))) tN))) tN)) (.nm 6)
    (sFor (iR1 (tC (tV 6) tN)) (.nm 8)
    (sIf (tAn (tTs (tO (rInG not) (tTp (tC (tV 8) (tC (tV 6) tN))) (tV 5))) (tTs (tO rLt (tCb rLen (tC (tV 5) tN)) (tK (.int 20))))) (sDrop (tBm rIns (tV 5) (tC (tCal (sp__law_next c) (WdE Ed) (tC (tV 0) (tC (tO rAdd (tCb rLen (tC (tV 5) tN)) (tK (.int 1))) tN))) (tC (tTp (tC (tV 8) (tC (tV 6) tN))) tN)))) sNx)))
    (sSeq (sAsg (tLr2 (tK (.int 1)) (tK (.int 100))) (.nm 9))
    (sRet (tTp (tC (tV 2) (tC (tLcG (iLs (tV 5)) (.nm 7) tYs (tO rAdd (tV 7) (tTp (tC (tBm rPopI (tV 9) (tC (tCal (sp__law_next c) noW (tC (tV 0) (tC (tCb rLen (tC (tV 9) tN)) tN))) tN)) tN))) [7]) tN))))))))))))
theorem len__law_web : ∀ c ds H Q E, sp__law_web c ds H Q E → ds.length = (["_law_d", "_law_most"] : List Str).length := by intro c ds H Q E h; first | (obtain ⟨_, _, _, _, _, _, _, _, _, _, _, _, rfl, _⟩ := h; rfl) | (obtain ⟨_, _, _, _, _, _, _, _, _, _, _, rfl, _⟩ := h; rfl) | (obtain ⟨_, _, _, _, _, _, _, _, _, _, rfl, _⟩ := h; rfl) | (obtain ⟨_, _, _, _, _, _, _, _, _, rfl, _⟩ := h; rfl) | (obtain ⟨_, _, _, _, _, _, _, _, rfl, _⟩ := h; rfl) | (obtain ⟨rfl, _⟩ := h; rfl) | (obtain ⟨_, rfl, _⟩ := h; rfl) | (obtain ⟨_, _, rfl, _⟩ := h; rfl) | (obtain ⟨_, _, _, rfl, _⟩ := h; rfl) | (obtain ⟨_, _, _, _, rfl, _⟩ := h; rfl) | (obtain ⟨_, _, _, _, _, rfl, _⟩ := h; rfl) | (obtain ⟨_, _, _, _, _, _, rfl, _⟩ := h; rfl) | (obtain ⟨_, _, _, _, _, _, _, rfl, _⟩ := h; rfl)
theorem rd__law_web (c : CA) (Ed : XD) (ds : List D) (Hd : HD) (Qd : QD) (h : sp__law_web c ds Hd Qd Ed) : t__law_web c Ed { nx := fun _ H' => Qd .non H', rt := Qd } (startD ["_law_d", "_law_most", "_law_hands", "_law_left", "_law_order", "_law_pairs", "_law_k", "_law_pair", "_law_j", "_law_costs"] ds) Hd := by
  obtain ⟨a, m, rfl, hd, hm1, hm8, q⟩ := h
  unfold t__law_web
  simp only [↓u_sSeq, ↓u_sAsg, ↓u_tO, ↓u_tK, ↓u_tCal, ↓u_tC, ↓u_tV, startD, List.map, List.length_cons, List.length_nil, Nat.reduceAdd, Nat.reduceSub, List.replicate, List.cons_append, List.nil_append, List.getElem?_cons_zero, List.getElem?_cons_succ, ↓u_tN, ↓u_goA_nm, ↓u_tLr1, List.set, ↓u_tLcG, ↓u_iR1, ↓u_wipe_cons, ↓u_wipe_nil, ↓u_tLs, Nat.zero_le, ↓u_sFor, ↓u_iR2, ↓u_slot, true_and, ↓u_WdE]
  refine ⟨a, m, rfl, hd, by omega, by omega, fun v0 H1 h0 h1 e1 d1 => ?_⟩
  simp only [↓u_rAdd_int, ↓u_asI, ↓u_r1I, ↓u_r2I]
  generalize hn : 1 + v0 = n
  have n1 : 1 ≤ n := by omega
  have n8 : n ≤ 8 := by omega
  have nm : n ≤ m := by omega
  refine ⟨⟨by omega, by omega⟩, fun p3 hp3 => ⟨⟨by omega, by omega⟩, fun p4 hp4 => ?_⟩⟩
  have n3 := d1.ne hp3
  have hp4' := upD_none hp4
  have n43 := upD_noneNe hp4
  have n4 := d1.ne hp4'
  -- the order
  refine lc_inv' (I := ⟨rngD 0 n.toNat, fun _ => True⟩) (fun i acc H => ∃ os ls : List Int, acc = os.map D.int ∧ os.length = i ∧ H p4 = some (.lst acc) ∧ H p3 = some (.lst (ls.map D.int)) ∧ (os ++ ls).Perm (rgI n.toNat) ∧ ExtE a Hd H ∧ IsDice H a) ?_ ?_ ?_
  · refine ⟨[], rgI n.toNat, rfl, rfl, upD_same, ?_, by rw [List.nil_append], ?_, ?_⟩
    · rw [upD_ne n43.symm, upD_same, rngD_rgI]
    · exact fun b u k1 k2 => upD_old (upD_old (e1 b u k1 k2) hp3) hp4
    · exact (d1.up n3).up n4
  · rintro i d acc H hdi ⟨os, ls, rfl, hl, g4, g3, hpm, e, dd⟩
    obtain ⟨hi, rfl⟩ := nth_rng hdi
    refine ⟨trivial, fun N hN => ?_⟩
    simp only [↓u_goA_nm, ↓u_tYs, ↓u_tBm, ↓u_tV, List.set, List.getElem?_cons_succ, List.getElem?_cons_zero, ↓u_tC, ↓u_tCal, ↓u_tCb, ↓u_tN, ↓u_noW, ↓u_slot, ↓u_rLen_ref, g3, Option.some.injEq, exists_eq_left', ↓u_lnC_lst, ↓u_asR, DO.lst.injEq, exists_eq', true_and, if_true]
    have hll : os.length + ls.length = n.toNat := by
      have := hpm.length_eq
      rw [List.length_append, rgI_length] at this
      exact this
    refine ⟨a, _, rfl, dd, by rw [List.length_map]; omega, by rw [List.length_map]; omega, fun v H' k0 k1 e' d' => ?_⟩
    simp only [↓u_rPopI, e' _ _ n3 g3, Option.some.injEq, DO.lst.injEq, exists_eq_left']
    rw [List.length_map] at k1
    obtain ⟨x, hx⟩ : ∃ x, ls[v.toNat]? = some x := ⟨_, List.getElem?_eq_getElem (by omega)⟩
    refine ⟨k0, by omega, .int x, by rw [List.getElem?_map, hx]; rfl, ?_⟩
    rw [upD_ne n43, e' _ _ n4 g4]
    refine ⟨rfl, by rw [List.length_map]; omega, hN _ _ ⟨os ++ [x], ls.eraseIdx v.toNat, by simp, by simp [hl], upD_same, ?_, ?_, ?_, ?_⟩⟩
    · rw [upD_ne n43.symm, upD_same, eraseIdx_mapD]
    · rw [List.append_assoc]
      refine (List.Perm.append_left os ?_).trans hpm
      exact eraseIdx_permD hx
    · refine ExtE.up (ExtE.up (e.trans e') ?_) ?_
      · exact Ext.none (H := Hd) (fun _ _ h => h) (by
          cases z : Hd p3 with
          | none => rfl
          | some u => exact absurd (e1 _ _ n3 z) (by rw [hp3]; intro h; cases h))
      · cases z : Hd p4 with
        | none => rfl
        | some u => exact absurd (e1 _ _ n4 z) (by rw [hp4']; intro h; cases h)
    · exact (d'.up n3).up n4
  · rintro acc H ⟨os, ls, rfl, hl, g4, g3, hpm, e, dd⟩
    refine ⟨trivial, ?_⟩
    have hl' : os.length = n.toNat := by rw [hl]; exact rngD_length
    have els : ls = [] := by
      have := hpm.length_eq
      rw [List.length_append, rgI_length, hl'] at this
      exact List.length_eq_zero_iff.mp (by omega)
    subst els
    rw [List.append_nil] at hpm
    have ond : os.Nodup := hpm.nodup_iff.mpr rgI_nodup
    have omem : ∀ x, x ∈ os ↔ 0 ≤ x ∧ x < n := fun x => by
      rw [hpm.mem_iff, rgI_mem]
      omega
    intro p5 hp5
    have n5 := dd.ne hp5
    have n54 : p5 ≠ p4 := neD' g4 hp5
    have h5 : Hd p5 = none := by
      cases z : Hd p5 with
      | none => rfl
      | some u => exact absurd (e _ _ n5 z) (by rw [hp5]; intro h; cases h)
    refine ⟨⟨by omega, by omega, by omega, by omega⟩, ?_⟩
    obtain ⟨o0, ho0⟩ : ∃ x, os[0]? = some x := ⟨_, List.getElem?_eq_getElem (by omega)⟩
    -- the tree
    refine loop_inv' (I := ⟨rngD 1 (n - 1).toNat, fun _ => True⟩) (fun i ρ H => ∃ (ps : List (Int × Int)) (z6 : Option D), ρ = [some (.ref a), some (.int m), some (.int n), some (.ref p3), some (.ref p4), some (.ref p5), z6, none, none, none] ∧ WebSt Hd H a p5 n ps ∧ H p4 = some (.lst (os.map D.int)) ∧ ps.length = i ∧ (∀ p ∈ ps, p.1 ∈ os.take (i + 1) ∧ p.2 ∈ os.take (i + 1)) ∧ ∀ x ∈ os.take (i + 1), RchP ps o0 x) ?_ ?_ ?_
    · refine ⟨[], none, rfl, ⟨fun b u k1 k2 => upD_old (e b u k1 k2) hp5, dd.up n5, upD_same, .nil, fun p hp => (by cases hp)⟩, upD_old g4 hp5, rfl, fun p hp => (by cases hp), fun x hx => ?_⟩
      obtain ⟨j, hj⟩ := List.getElem?_of_mem hx
      have hj1 : j = 0 := by
        have := (List.getElem?_eq_some_iff.mp hj).1
        rw [List.length_take] at this
        omega
      subst hj1
      rw [List.getElem?_take, if_pos (by omega), ho0] at hj
      cases hj
      exact .base
    · rintro i d ρ H2 hdi ⟨ps, z6, rfl, w, w4, hpl, hin, hcon⟩
      obtain ⟨hi, rfl⟩ := nth_rng hdi
      refine ⟨trivial, fun N B hN _ => ?_⟩
      simp only [↓u_goA_nm, ↓u_sDrop, ↓u_tBm, ↓u_tV, List.set, List.getElem?_cons_succ, List.getElem?_cons_zero, ↓u_tC, ↓u_tCal, ↓u_tO, ↓u_tCb, ↓u_tN, ↓u_tK, ↓u_tLs, List.length_cons, List.length_nil, Nat.reduceAdd, Nat.reduceLeDiff, true_and, ↓u_slot, ↓u_rIx_ref, ↓u_WdE, ↓u_rLen_ref, w.h, Option.some.injEq, exists_eq_left', ↓u_lnC_lst, ↓u_rAdd_int, ↓u_asR, DO.lst.injEq, exists_eq']
      refine ⟨a, _, rfl, w.d, by omega, by rw [List.length_map]; omega, fun v H3 k0 k1 e3 d3 => ?_⟩
      rw [List.length_map] at k1
      have w3 := w.next n5 e3 d3
      have w34 := e3 _ _ n4 w4
      simp only [↓u_rIns]
      refine ⟨a, _, rfl, d3, by omega, by omega, fun u H4 j0 j1 e4 d4 => ?_⟩
      have w4' := w3.next n5 e4 d4
      have w44 := e4 _ _ n4 w34
      obtain ⟨x, hx⟩ : ∃ x, os[u.toNat]? = some x := ⟨_, List.getElem?_eq_getElem (by omega)⟩
      obtain ⟨y, hy⟩ : ∃ y, os[i + 1]? = some y := ⟨_, List.getElem?_eq_getElem (by omega)⟩
      have ax : L2.atI (os.map D.int) u = some (.int x) := by
        have e : u = ((u.toNat : Nat) : Int) := by omega
        rw [e]
        exact L2.atI_nat (by rw [List.getElem?_map, hx]; rfl)
      have ay : L2.atI (os.map D.int) (1 + (i : Nat)) = some (.int y) := by
        have e : (1 : Int) + (i : Nat) = ((i + 1 : Nat) : Int) := by omega
        rw [e]
        exact L2.atI_nat (by rw [List.getElem?_map, hy]; rfl)
      simp only [w44, Option.some.injEq, exists_eq_left', ↓u_ixC_lst, ax, ay]
      intro q1 hq1
      have w5 := w4'.up (c := .lst [.int x, .int y]) hq1
      have w54 : upD H4 q1 (.lst [.int x, .int y]) p4 = _ := upD_old w44 hq1
      refine rSorted_ints (ns := [x, y]) upD_same fun q2 hq2 => ?_
      have w6 := w5.up (c := .lst ((sortI [x, y]).map D.int)) hq2
      have w64 : upD (upD H4 q1 (.lst [.int x, .int y])) q2 (.lst ((sortI [x, y]).map D.int)) p4 = _ := upD_old w54 hq2
      simp only [↓u_rTuple_ref, upD_same, Option.some.injEq, DO.lst.injEq, w6.h, exists_eq_left']
      obtain ⟨lo, hh, es, hlo, hxy⟩ := sort2 x y
      have hxin : x ∈ os.take (i + 1) := List.mem_of_getElem? (i := u.toNat) (by rw [List.getElem?_take, if_pos (by omega)]; exact hx)
      have hyin : y ∉ os.take (i + 1) := by
        intro z
        obtain ⟨j, hj⟩ := List.getElem?_of_mem z
        have hj1 : j < i + 1 := by
          have := (List.getElem?_eq_some_iff.mp hj).1
          rw [List.length_take] at this
          omega
        rw [List.getElem?_take, if_pos hj1] at hj
        have := (List.getElem?_inj (by omega) ond).mp (hj.trans hy.symm)
        omega
      have hne : x ≠ y := fun z => hyin (z ▸ hxin)
      have hx1 := (omem x).mp (List.mem_of_getElem? hx)
      have hy1 := (omem y).mp (List.mem_of_getElem? hy)
      have hnot : (lo, hh) ∉ ps := fun z => by
        obtain ⟨z1, z2⟩ := hin _ z
        rcases hxy with ⟨rfl, rfl⟩ | ⟨rfl, rfl⟩
        · exact hyin z2
        · exact hyin z1
      have htk : os.take (i + 1 + 1) = os.take (i + 1) ++ [y] := by
        have := map_take (f := id) hy
        simpa using this
      refine ⟨by rw [List.length_map]; omega, k0, by omega, ?_⟩
      rw [es]
      have ei : (ps.map prD).take v.toNat ++ [D.tup (List.map D.int [lo, hh])] ++ (ps.map prD).drop v.toNat = (insAt ps v.toNat (lo, hh)).map prD := insAt_map (f := prD) (y := (lo, hh))
      rw [ei]
      rw [es] at w6 w64
      refine hN _ _ ⟨insAt ps v.toNat (lo, hh), _, rfl, w6.ins h5 n5 hnot (by rcases hxy with ⟨rfl, rfl⟩ | ⟨rfl, rfl⟩ <;> refine ⟨by omega, by show lo < hh; omega, by omega⟩), by rw [upD_ne n54.symm]; exact w64, by rw [insAt_perm.length_eq]; simp [hpl], ?_, ?_⟩
      · intro p hp
        rw [htk]
        rcases List.mem_cons.mp (insAt_perm.mem_iff.mp hp) with z | z
        · rw [z]
          rcases hxy with ⟨rfl, rfl⟩ | ⟨rfl, rfl⟩
          · exact ⟨List.mem_append_left _ hxin, by simp⟩
          · exact ⟨by simp, List.mem_append_left _ hxin⟩
        · obtain ⟨z1, z2⟩ := hin p z
          exact ⟨List.mem_append_left _ z1, List.mem_append_left _ z2⟩
      · intro z hz
        rw [htk] at hz
        rcases List.mem_append.mp hz with z1 | z1
        · exact (hcon z z1).ins
        · have ez := List.mem_singleton.mp z1
          subst ez
          have hr : toR (lo, hh) ∈ (insAt ps v.toNat (lo, hh)).map toR := List.mem_map.mpr ⟨_, insAt_perm.mem_iff.mpr (List.mem_cons_self ..), rfl⟩
          have hxr : RchP (insAt ps v.toNat (lo, hh)) o0 x := (hcon x hxin).ins
          rcases hxy with ⟨rfl, rfl⟩ | ⟨rfl, rfl⟩
          · exact .fwd hr hxr
          · exact .bwd hr hxr
    · rintro ρ H2 ⟨ps, z6, rfl, w, w4, hpl, hin, hcon⟩
      refine ⟨trivial, ?_⟩
      have hpl' : ps.length = (n - 1).toNat := by rw [hpl]; exact rngD_length
      have hcon' : ∀ x, 0 ≤ x → x < n → RchP ps o0 x := fun x h0 h1 => hcon x (by
        rw [List.take_of_length_le (by rw [show (ItD.mk (rngD 1 (n - 1).toNat) fun _ => True).ds.length = (n - 1).toNat from rngD_length]; omega)]
        exact (omem x).mpr ⟨h0, h1⟩)
      have ho0 : 0 ≤ o0 ∧ o0 < n := (omem o0).mp (List.mem_of_getElem? ho0)
      clear hcon hin hpl w4 omem ond hpm g3 hl' dd e hl g4 hp4' n43 hp4 hp3 d1 e1 h1 h0 hd hp5
      simp only [↓u_sSeq, ↓u_sFor, ↓u_iR1, ↓u_tC, ↓u_tCal, ↓u_tV, List.getElem?_cons_zero, ↓u_tCb, ↓u_tK, ↓u_tO, List.getElem?_cons_succ, ↓u_tN, ↓u_WdE, ↓u_slot, ↓u_rMul_int, ↓u_rMin2]
      refine ⟨by unfold CMul; omega, a, _, rfl, w.d, by split <;> omega, by split <;> omega, fun v1 H3 k0 k1 e3 d3 => ?_⟩
      simp only [↓u_r1I]
      have kv : v1 < 13 := by split at k1 <;> omega
      refine ⟨⟨by omega, by omega⟩, ?_⟩
      -- some more
      refine loop_inv' (I := ⟨rngD 0 v1.toNat, fun _ => True⟩) (fun i ρ H => ∃ (ps : List (Int × Int)) (z6 z7 : Option D), ρ = [some (.ref a), some (.int m), some (.int n), some (.ref p3), some (.ref p4), some (.ref p5), z6, z7, none, none] ∧ WebSt Hd H a p5 n ps ∧ ps.length ≤ (n - 1).toNat + i ∧ ∀ x, 0 ≤ x → x < n → RchP ps o0 x) ?_ ?_ ?_
      · exact ⟨ps, _, _, rfl, w.next n5 e3 d3, by omega, hcon'⟩
      · clear w hcon' hpl' e3 d3
        rintro i d ρ H4 hdi ⟨ps, z6, z7, rfl, w, hpl, hcon⟩
        obtain ⟨hi, rfl⟩ := nth_rng hdi
        refine ⟨trivial, fun N B hN _ => ?_⟩
        simp only [↓u_goA_nm, ↓u_sSeq, ↓u_sAsg, ↓u_tCb, ↓u_tC, ↓u_tLs, ↓u_tCal, ↓u_tV, List.set, List.getElem?_cons_zero, List.getElem?_cons_succ, ↓u_tN, List.length_cons, List.length_nil, Nat.reduceAdd, Nat.reduceLeDiff, ↓u_sIf, ↓u_tAn, ↓u_tTs, ↓u_tO, ↓u_tK, ↓u_sDrop, ↓u_tBm, ↓u_slot, ↓u_WdE, ↓u_rLen_ref, ↓u_asR, ↓u_sNx, ↓u_rInG_ref, Bool.false_eq_true, if_false, true_and]
        refine ⟨a, _, rfl, w.d, by omega, by omega, fun x H5 x0 x1 e5 d5 => ?_⟩
        have w5 := w.next n5 e5 d5
        simp only [↓u_asB, ↓u_asI, ↓u_asR, ↓u_slot, ↓u_gt1, ↓u_goA_nm, ↓u_goA_tp, ↓u_goAs_nil, ↓u_goAs_cons, ↓u_sSeq, ↓u_sNx, ↓u_sDrop, ↓u_sRet, ↓u_sRetN, ↓u_sIf, ↓u_sAsg, ↓u_sSub, ↓u_sbC_lst, ↓u_sbC_dK, ↓u_sbC_dT, ↓u_sFl, ↓u_sFor, ↓u_tV, ↓u_tK, ↓u_tO, ↓u_tNeg, ↓u_tPn, ↓u_tPs, ↓u_tSlD, ↓u_rSl_tup, ↓u_rSl_rl, ↓u_rSl_ref, ↓u_tFl, ↓u_tN, ↓u_tC, ↓u_tTp, ↓u_tLs, ↓u_tDK, ↓u_tDT, ↓u_tTs, ↓u_tChn, ↓u_tChn3, ↓u_tAn, ↓u_tOr, ↓u_tNt, ↓u_tIfE, ↓u_tAnV, ↓u_tOrV, ↓u_tNtV, ↓u_rAdd_int, ↓u_rAdd_str, ↓u_rAdd_tup, ↓u_rAdd_ref, ↓u_rSub, ↓u_rMod, ↓u_rDiv, ↓u_rPow, ↓u_rLt, ↓u_rLe, ↓u_rGt, ↓u_rGe, ↓u_rMul_int, ↓u_rMul_ref, ↓u_rEq_int, ↓u_rEq_str, ↓u_rEq_bl, ↓u_rEq_nn, ↓u_rEq_in, ↓u_rEq_ni, ↓u_rNe_int, ↓u_rNe_str, ↓u_rNe_bl, ↓u_rNe_nn, ↓u_rNe_in, ↓u_rNe_ni, ↓u_rEq_t2, ↓u_rIsN, ↓u_rIsN_bl, ↓u_rNotN, ↓u_rNotN_bl, ↓u_isNon_non, ↓u_isNon_int, ↓u_isNon_ref, ↓u_isNon_tup, ↓u_isNon_bl, ↓u_isNon_str, ↓u_DG, ↓u_dgC_K, ↓u_dgC_rK, ↓u_dgC_T, ↓u_dgC_rT, ↓u_rInG_ref, ↓u_inC_K, ↓u_inC_rK, ↓u_inC_T, ↓u_inC_ints, ↓u_inC_prs, ↓u_rInG_tup, ↓u_rIx_ref, ↓u_ixC_lst, ↓u_ixC_K, ↓u_ixC_rK, ↓u_ixC_T, ↓u_ixC_rT, ↓u_rIx_tup, ↓u_rIx_rl, ↓u_at0, ↓u_at1, ↓u_at2, ↓u_at3, ↓u_iLs, ↓u_lsI_ref, ↓u_lsI_rl, ↓u_iTp, ↓u_tpI, ↓u_iR1, ↓u_r1I, ↓u_iR2, ↓u_r2I, ↓u_iEn, ↓u_enI, ↓u_iKy, ↓u_kyC_K, ↓u_kyC_T, ↓u_tYs, ↓u_tLcG, ↓u_wipe_nil, ↓u_wipe_cons, ↓u_tCal, ↓u_tMet, ↓u_tMak, ↓u_WdE, ↓u_noW, ↓u_tCb, ↓u_rLen_tup, ↓u_rLen_rl, ↓u_rLen_str, ↓u_rLen_ref, ↓u_lnC_lst, ↓u_lnC_dK, ↓u_rList_tup, ↓u_rList_rl, ↓u_rList_ref, ↓u_rTuple_tup, ↓u_rTuple_ref, ↓u_rInt_int, ↓u_rInt_bl, ↓u_rStr, ↓u_rMin2, ↓u_rMax2, ↓u_rSum, ↓u_tLr1, ↓u_tLr2, ↓u_tBm, ↓u_rApp, ↓u_rPop0, ↓u_rPopI, ↓u_rIns, ↓u_rClr, ↓u_tGet2, ↓u_isD_K, ↓u_isD_T, ↓u_tDisp1, ↓u_ixN41, ↓u_ixN42, ↓u_ixN43, ↓u_isS, ↓u_tSplit, ↓u_rSplit, ↓u_tJn, ↓u_rIntT_str, ↓u_rIntT_int, ↓u_iSr, ↓u_srI, ↓u_rInG_str, ↓u_rIx_str, ↓u_isi_non, ↓u_isi_bl, ↓u_isi_int, ↓u_isi_str, ↓u_isi_tup, ↓u_isi_ref, ↓u_isiC_lst, ↓u_isiC_dK, ↓u_isiC_dT, ↓u_kit_NoneType_bool, ↓u_kit_NoneType_int, ↓u_kit_NoneType_str, ↓u_kit_NoneType_tuple, ↓u_kit_NoneType_list, ↓u_kit_NoneType_dict, ↓u_kit_bool_bool, ↓u_kit_bool_int, ↓u_kit_bool_str, ↓u_kit_bool_tuple, ↓u_kit_bool_list, ↓u_kit_bool_dict, ↓u_kit_int_bool, ↓u_kit_int_int, ↓u_kit_int_str, ↓u_kit_int_tuple, ↓u_kit_int_list, ↓u_kit_int_dict, ↓u_kit_str_bool, ↓u_kit_str_int, ↓u_kit_str_str, ↓u_kit_str_tuple, ↓u_kit_str_list, ↓u_kit_str_dict, ↓u_kit_tuple_bool, ↓u_kit_tuple_int, ↓u_kit_tuple_str, ↓u_kit_tuple_tuple, ↓u_kit_tuple_list, ↓u_kit_tuple_dict, ↓u_kit_list_bool, ↓u_kit_list_int, ↓u_kit_list_str, ↓u_kit_list_tuple, ↓u_kit_list_list, ↓u_kit_list_dict, ↓u_kit_dict_bool, ↓u_kit_dict_int, ↓u_kit_dict_str, ↓u_kit_dict_tuple, ↓u_kit_dict_list, ↓u_kit_dict_dict, startD, List.set, List.map, List.replicate, List.length_cons, List.length_nil, Nat.reduceAdd, Nat.reduceSub, List.cons_append, List.nil_append, List.append_nil, List.getElem?_cons_zero, List.getElem?_cons_succ, Option.some.injEq, DO.lst.injEq, DO.ins.injEq, DO.dK.injEq, DO.dT.injEq, DO.rdK.injEq, DO.rdT.injEq, exists_eq_left', exists_eq_left, exists_eq', Bool.false_eq_true, reduceCtorEq, Nat.reduceLeDiff, Bool.true_eq_false, if_true, if_false, ite_true, ite_false, Bool.not_true, Bool.not_false, cut2, true_and, and_true, false_and, and_false, decide_eq_true_eq, decide_true, roD_def, Int.reduceToNat, id_eq, forall_const, Nat.zero_le, Nat.le_refl, upD_same, putI, Nat.reduceLT, Nat.lt_irrefl, Nat.zero_lt_one, Nat.not_lt_zero]
        refine ⟨a, _, rfl, w5.d, by omega, by omega, fun y H6 y0 y1 e6 d6 => ?_⟩
        have w6 := w5.next n5 e6 d6
        simp only [↓u_asB, ↓u_asI, ↓u_asR, ↓u_slot, ↓u_gt1, ↓u_goA_nm, ↓u_goA_tp, ↓u_goAs_nil, ↓u_goAs_cons, ↓u_sSeq, ↓u_sNx, ↓u_sDrop, ↓u_sRet, ↓u_sRetN, ↓u_sIf, ↓u_sAsg, ↓u_sSub, ↓u_sbC_lst, ↓u_sbC_dK, ↓u_sbC_dT, ↓u_sFl, ↓u_sFor, ↓u_tV, ↓u_tK, ↓u_tO, ↓u_tNeg, ↓u_tPn, ↓u_tPs, ↓u_tSlD, ↓u_rSl_tup, ↓u_rSl_rl, ↓u_rSl_ref, ↓u_tFl, ↓u_tN, ↓u_tC, ↓u_tTp, ↓u_tLs, ↓u_tDK, ↓u_tDT, ↓u_tTs, ↓u_tChn, ↓u_tChn3, ↓u_tAn, ↓u_tOr, ↓u_tNt, ↓u_tIfE, ↓u_tAnV, ↓u_tOrV, ↓u_tNtV, ↓u_rAdd_int, ↓u_rAdd_str, ↓u_rAdd_tup, ↓u_rAdd_ref, ↓u_rSub, ↓u_rMod, ↓u_rDiv, ↓u_rPow, ↓u_rLt, ↓u_rLe, ↓u_rGt, ↓u_rGe, ↓u_rMul_int, ↓u_rMul_ref, ↓u_rEq_int, ↓u_rEq_str, ↓u_rEq_bl, ↓u_rEq_nn, ↓u_rEq_in, ↓u_rEq_ni, ↓u_rNe_int, ↓u_rNe_str, ↓u_rNe_bl, ↓u_rNe_nn, ↓u_rNe_in, ↓u_rNe_ni, ↓u_rEq_t2, ↓u_rIsN, ↓u_rIsN_bl, ↓u_rNotN, ↓u_rNotN_bl, ↓u_isNon_non, ↓u_isNon_int, ↓u_isNon_ref, ↓u_isNon_tup, ↓u_isNon_bl, ↓u_isNon_str, ↓u_DG, ↓u_dgC_K, ↓u_dgC_rK, ↓u_dgC_T, ↓u_dgC_rT, ↓u_rInG_ref, ↓u_inC_K, ↓u_inC_rK, ↓u_inC_T, ↓u_inC_ints, ↓u_inC_prs, ↓u_rInG_tup, ↓u_rIx_ref, ↓u_ixC_lst, ↓u_ixC_K, ↓u_ixC_rK, ↓u_ixC_T, ↓u_ixC_rT, ↓u_rIx_tup, ↓u_rIx_rl, ↓u_at0, ↓u_at1, ↓u_at2, ↓u_at3, ↓u_iLs, ↓u_lsI_ref, ↓u_lsI_rl, ↓u_iTp, ↓u_tpI, ↓u_iR1, ↓u_r1I, ↓u_iR2, ↓u_r2I, ↓u_iEn, ↓u_enI, ↓u_iKy, ↓u_kyC_K, ↓u_kyC_T, ↓u_tYs, ↓u_tLcG, ↓u_wipe_nil, ↓u_wipe_cons, ↓u_tCal, ↓u_tMet, ↓u_tMak, ↓u_WdE, ↓u_noW, ↓u_tCb, ↓u_rLen_tup, ↓u_rLen_rl, ↓u_rLen_str, ↓u_rLen_ref, ↓u_lnC_lst, ↓u_lnC_dK, ↓u_rList_tup, ↓u_rList_rl, ↓u_rList_ref, ↓u_rTuple_tup, ↓u_rTuple_ref, ↓u_rInt_int, ↓u_rInt_bl, ↓u_rStr, ↓u_rMin2, ↓u_rMax2, ↓u_rSum, ↓u_tLr1, ↓u_tLr2, ↓u_tBm, ↓u_rApp, ↓u_rPop0, ↓u_rPopI, ↓u_rIns, ↓u_rClr, ↓u_tGet2, ↓u_isD_K, ↓u_isD_T, ↓u_tDisp1, ↓u_ixN41, ↓u_ixN42, ↓u_ixN43, ↓u_isS, ↓u_tSplit, ↓u_rSplit, ↓u_tJn, ↓u_rIntT_str, ↓u_rIntT_int, ↓u_iSr, ↓u_srI, ↓u_rInG_str, ↓u_rIx_str, ↓u_isi_non, ↓u_isi_bl, ↓u_isi_int, ↓u_isi_str, ↓u_isi_tup, ↓u_isi_ref, ↓u_isiC_lst, ↓u_isiC_dK, ↓u_isiC_dT, ↓u_kit_NoneType_bool, ↓u_kit_NoneType_int, ↓u_kit_NoneType_str, ↓u_kit_NoneType_tuple, ↓u_kit_NoneType_list, ↓u_kit_NoneType_dict, ↓u_kit_bool_bool, ↓u_kit_bool_int, ↓u_kit_bool_str, ↓u_kit_bool_tuple, ↓u_kit_bool_list, ↓u_kit_bool_dict, ↓u_kit_int_bool, ↓u_kit_int_int, ↓u_kit_int_str, ↓u_kit_int_tuple, ↓u_kit_int_list, ↓u_kit_int_dict, ↓u_kit_str_bool, ↓u_kit_str_int, ↓u_kit_str_str, ↓u_kit_str_tuple, ↓u_kit_str_list, ↓u_kit_str_dict, ↓u_kit_tuple_bool, ↓u_kit_tuple_int, ↓u_kit_tuple_str, ↓u_kit_tuple_tuple, ↓u_kit_tuple_list, ↓u_kit_tuple_dict, ↓u_kit_list_bool, ↓u_kit_list_int, ↓u_kit_list_str, ↓u_kit_list_tuple, ↓u_kit_list_list, ↓u_kit_list_dict, ↓u_kit_dict_bool, ↓u_kit_dict_int, ↓u_kit_dict_str, ↓u_kit_dict_tuple, ↓u_kit_dict_list, ↓u_kit_dict_dict, startD, List.set, List.map, List.replicate, List.length_cons, List.length_nil, Nat.reduceAdd, Nat.reduceSub, List.cons_append, List.nil_append, List.append_nil, List.getElem?_cons_zero, List.getElem?_cons_succ, Option.some.injEq, DO.lst.injEq, DO.ins.injEq, DO.dK.injEq, DO.dT.injEq, DO.rdK.injEq, DO.rdT.injEq, exists_eq_left', exists_eq_left, exists_eq', Bool.false_eq_true, reduceCtorEq, Nat.reduceLeDiff, Bool.true_eq_false, if_true, if_false, ite_true, ite_false, Bool.not_true, Bool.not_false, cut2, true_and, and_true, false_and, and_false, decide_eq_true_eq, decide_true, roD_def, Int.reduceToNat, id_eq, forall_const, Nat.zero_le, Nat.le_refl, upD_same, putI, Nat.reduceLT, Nat.lt_irrefl, Nat.zero_lt_one, Nat.not_lt_zero]
        intro q1 hq1
        have w7 := w6.up (c := .lst [.int x, .int y]) hq1
        refine rSorted_ints (ns := [x, y]) upD_same fun q2 hq2 => ?_
        have w8 := w7.up (c := .lst ((sortI [x, y]).map D.int)) hq2
        obtain ⟨lo, hh, es, hlo, hxy⟩ := sort2 x y
        rw [es] at w8 ⊢
        have g8 : upD (upD H6 q1 (.lst [.int x, .int y])) q2 (.lst ([lo, hh].map D.int)) q2 = some (.lst [.int lo, .int hh]) := upD_same
        generalize upD (upD H6 q1 (.lst [.int x, .int y])) q2 (.lst ([lo, hh].map D.int)) = H8 at w8 g8 ⊢
        simp only [↓u_rTuple_ref, g8, Option.some.injEq, DO.lst.injEq, ↓u_rIx_tup, exists_eq_left', ↓u_at0, ↓u_at1, ↓u_rLt, ↓u_asB, decide_eq_true_eq, w8.h, ↓u_inC_prs, exists_eq', ↓u_lnC_lst, ↓u_rAdd_int, true_and]
        have hlo2 : 0 ≤ lo ∧ hh < n := by rcases hxy with ⟨rfl, rfl⟩ | ⟨rfl, rfl⟩ <;> omega
        by_cases c1 : lo < hh
        · rw [if_pos c1]
          by_cases c2 : (lo, hh) ∈ ps
          · rw [if_neg (by simp [c2])]
            exact hN _ _ ⟨ps, _, _, rfl, w8, by omega, hcon⟩
          · rw [if_pos (by simp [c2])]
            refine ⟨a, _, rfl, w8.d, by rw [List.length_map]; omega, by rw [List.length_map]; omega, fun v H9 k0 k1 e9 d9 => ?_⟩
            rw [List.length_map] at k1
            have w9 := w8.next n5 e9 d9
            simp only [↓u_rIns, w9.h, Option.some.injEq, DO.lst.injEq, exists_eq_left']
            refine ⟨by rw [List.length_map]; omega, k0, by omega, ?_⟩
            have ei : (ps.map prD).take v.toNat ++ [D.tup [.int lo, .int hh]] ++ (ps.map prD).drop v.toNat = (insAt ps v.toNat (lo, hh)).map prD := insAt_map (f := prD) (y := (lo, hh))
            rw [ei]
            exact hN _ _ ⟨insAt ps v.toNat (lo, hh), _, _, rfl, w9.ins h5 n5 c2 ⟨hlo2.1, c1, hlo2.2⟩, by rw [insAt_perm.length_eq, List.length_cons]; omega, fun x h0 h1 => (hcon x h0 h1).ins⟩
        · rw [if_neg c1]
          exact hN _ _ ⟨ps, _, _, rfl, w8, by omega, hcon⟩
      · clear w hcon' hpl' e3 d3
        rintro ρ H4 ⟨ps, z6, z7, rfl, w, hpl, hcon⟩
        refine ⟨trivial, ?_⟩
        have hl20 : ps.length ≤ 20 := by
          rw [show (ItD.mk (rngD 0 v1.toNat) fun _ => True).ds.length = v1.toNat from rngD_length] at hpl
          omega
        clear hpl kv k1 k0
        simp only [↓u_sSeq, ↓u_sFor, ↓u_iR1, ↓u_tC, ↓u_tO, ↓u_tV, List.getElem?_cons_succ, List.getElem?_cons_zero, ↓u_tCb, ↓u_tCal, ↓u_tK, ↓u_tN, ↓u_WdE, ↓u_slot]
        refine ⟨a, _, rfl, w.d, by omega, by omega, fun v H5 k0 k1 e5 d5 => ?_⟩
        have w5 := w.next n5 e5 d5
        simp only [↓u_rEq_int, ↓u_rInt_bl, ↓u_rMul_int, decide_eq_true_eq, ↓u_r1I]
        refine ⟨by unfold CMul; omega, ⟨by split <;> omega, by split <;> omega⟩, ?_⟩
        generalize hK : (n * if v = 7 then 1 else 0) = K
        have hKn : K ≤ n := by rw [← hK]; split <;> omega
        refine loop_inv' (I := ⟨rngD 0 K.toNat, fun _ => True⟩) (fun i ρ H => ∃ (ps : List (Int × Int)) (z6 z7 z8 : Option D), ρ = [some (.ref a), some (.int m), some (.int n), some (.ref p3), some (.ref p4), some (.ref p5), z6, z7, z8, none] ∧ WebSt Hd H a p5 n ps ∧ ps.length ≤ 20 ∧ ∀ x, 0 ≤ x → x < n → RchP ps o0 x) ?_ ?_ ?_
        · exact ⟨ps, _, _, _, rfl, w5, hl20, hcon⟩
        · clear w hcon hl20 e5 d5 w5 hK
          rintro i d ρ H6 hdi ⟨ps, z6, z7, z8, rfl, w, hpl, hcon⟩
          obtain ⟨hi, rfl⟩ := nth_rng hdi
          refine ⟨trivial, fun N B hN _ => ?_⟩
          simp only [↓u_goA_nm, ↓u_sFor, ↓u_iR1, ↓u_tC, ↓u_tV, List.set, List.getElem?_cons_succ, List.getElem?_cons_zero, ↓u_tN, ↓u_slot, ↓u_r1I]
          refine ⟨⟨by omega, by omega⟩, ?_⟩
          refine loop_inv' (I := ⟨rngD 0 ((0 : Int) + (i : Nat)).toNat, fun _ => True⟩) (fun i2 ρ H => ∃ (ps : List (Int × Int)) (z7 z8 : Option D), ρ = [some (.ref a), some (.int m), some (.int n), some (.ref p3), some (.ref p4), some (.ref p5), some (.int (0 + (i : Nat))), z7, z8, none] ∧ WebSt Hd H a p5 n ps ∧ ps.length ≤ 20 ∧ ∀ x, 0 ≤ x → x < n → RchP ps o0 x) ?_ ?_ ?_
          · exact ⟨ps, _, _, rfl, w, hpl, hcon⟩
          · clear w hpl hcon
            rintro j d ρ H7 hdj ⟨ps, z7, z8, rfl, w, hpl, hcon⟩
            obtain ⟨hj, rfl⟩ := nth_rng hdj
            refine ⟨trivial, fun N2 B2 hN2 _ => ?_⟩
            simp only [↓u_goA_nm, ↓u_sIf, ↓u_tAn, ↓u_tTs, ↓u_tO, ↓u_tTp, ↓u_tC, ↓u_tV, List.set, List.getElem?_cons_succ, List.getElem?_cons_zero, ↓u_tN, List.length_cons, List.length_nil, Nat.reduceAdd, Nat.reduceLeDiff, ↓u_tCb, ↓u_tK, ↓u_sDrop, ↓u_tBm, ↓u_tCal, true_and, ↓u_slot, ↓u_WdE, ↓u_rLen_ref, ↓u_asR, ↓u_sNx, Bool.false_eq_true, if_false, ↓u_rInG_ref, w.h, Option.some.injEq, exists_eq_left', ↓u_inC_prs, ↓u_asB, ↓u_lnC_lst, ↓u_rLt, decide_eq_true_eq, DO.lst.injEq, exists_eq', ↓u_rAdd_int]
            by_cases c2 : ((0 : Int) + (j : Nat), (0 : Int) + (i : Nat)) ∈ ps
            · rw [if_neg (by simp only [c2, decide_true]; decide)]
              exact hN2 _ _ ⟨ps, _, _, rfl, w, hpl, hcon⟩
            · rw [if_pos (by simp only [c2, decide_false]; decide)]
              by_cases c3 : ((ps.map prD).length : Int) < 20
              · rw [if_pos c3]
                rw [List.length_map] at c3
                refine ⟨a, _, rfl, w.d, by rw [List.length_map]; omega, by rw [List.length_map]; omega, fun v H9 k0 k1 e9 d9 => ?_⟩
                rw [List.length_map] at k1
                have w9 := w.next n5 e9 d9
                simp only [↓u_rIns, w9.h, Option.some.injEq, DO.lst.injEq, exists_eq_left']
                refine ⟨by rw [List.length_map]; omega, k0, by omega, ?_⟩
                have ei : (ps.map prD).take v.toNat ++ [D.tup [.int (0 + (j : Nat)), .int (0 + (i : Nat))]] ++ (ps.map prD).drop v.toNat = (insAt ps v.toNat ((0 : Int) + (j : Nat), (0 : Int) + (i : Nat))).map prD := insAt_map (f := prD) (y := ((0 : Int) + (j : Nat), (0 : Int) + (i : Nat)))
                rw [ei]
                exact hN2 _ _ ⟨insAt ps v.toNat ((0 : Int) + (j : Nat), (0 : Int) + (i : Nat)), _, _, rfl, w9.ins h5 n5 c2 ⟨by show (0 : Int) ≤ 0 + (j : Nat); omega, by show (0 : Int) + (j : Nat) < 0 + (i : Nat); omega, by show (0 : Int) + (i : Nat) < n; omega⟩, by rw [insAt_perm.length_eq, List.length_cons]; omega, fun x h0 h1 => (hcon x h0 h1).ins⟩
              · rw [if_neg c3]
                exact hN2 _ _ ⟨ps, _, _, rfl, w, hpl, hcon⟩
          · rintro ρ H7 ⟨ps, z7, z8, rfl, w, hpl, hcon⟩
            exact ⟨trivial, hN _ _ ⟨ps, _, _, _, rfl, w, hpl, hcon⟩⟩
        · clear w hcon hl20 e5 d5 w5 hK
          rintro ρ H6 ⟨ps, z6, z7, z8, rfl, w, hpl, hcon⟩
          refine ⟨trivial, ?_⟩
          simp only [↓u_sSeq, ↓u_sAsg, ↓u_tLr2, ↓u_tK, ↓u_asI, ↓u_goA_nm, ↓u_sRet, ↓u_tTp, ↓u_tC, ↓u_tV, List.set, List.getElem?_cons_succ, List.getElem?_cons_zero, ↓u_tLcG, ↓u_iLs, ↓u_wipe_cons, ↓u_wipe_nil, ↓u_tN, List.length_cons, List.length_nil, Nat.reduceAdd, Nat.reduceLeDiff, true_and, ↓u_slot, ↓u_lsI_ref]
          refine ⟨⟨by omega, by omega, by omega, by omega⟩, fun p9 hp9 => ?_⟩
          have n9 := w.d.ne hp9
          have n59 : p5 ≠ p9 := neD w.h hp9
          have w9 := w.up (c := .lst (rngD 1 (100 - 1 : Int).toNat)) hp9
          have g9 : upD H6 p9 (.lst (rngD 1 (100 - 1 : Int).toNat)) p9 = some (.lst (costL.map D.int)) := by rw [upD_same]; rfl
          have h9 : Hd p9 = none := by
            cases z : Hd p9 with
            | none => rfl
            | some u => exact absurd (w.e _ _ n9 z) (by rw [hp9]; intro h; cases h)
          generalize upD H6 p9 (.lst (rngD 1 (100 - 1 : Int).toNat)) = H7 at w9 g9 ⊢
          refine ⟨_, w9.h, fun p10 hp10 => ?_⟩
          have n10 := w9.d.ne hp10
          have n910 : p9 ≠ p10 := neD g9 hp10
          have n510 : p5 ≠ p10 := neD w9.h hp10
          have h10 : Hd p10 = none := by
            cases z : Hd p10 with
            | none => rfl
            | some u => exact absurd (w9.e _ _ n10 z) (by rw [hp10]; intro h; cases h)
          refine lc_inv' (I := ⟨ps.map prD, fun H => H p5 = some (.lst (ps.map prD))⟩) (fun i acc H => ∃ (rs : List Rd) (cl : List Int), acc = rs.map roD ∧ rs.map (fun r => (r.o, r.t)) = ps.take i ∧ (rs.map (·.c) ++ cl).Perm costL ∧ H p10 = some (.lst acc) ∧ H p9 = some (.lst (cl.map D.int)) ∧ WebSt Hd H a p5 n ps) ?_ ?_ ?_
          · exact ⟨[], costL, rfl, rfl, List.Perm.refl _, upD_same, by rw [upD_ne n910]; exact g9, w9.up hp10⟩
          · clear w w9 g9
            rintro i d acc H8 hdi ⟨rs, cl, rfl, hrs, hpm, g10, g9, w⟩
            obtain ⟨⟨x, y⟩, hp, rfl⟩ := getMap hdi
            refine ⟨w.h, fun N hN => ?_⟩
            simp only [prD_def]
            simp only [↓u_goA_nm, ↓u_tYs, ↓u_tO, ↓u_tV, List.set, List.getElem?_cons_succ, List.getElem?_cons_zero, ↓u_tTp, ↓u_tC, ↓u_tBm, ↓u_tCal, ↓u_tCb, ↓u_tN, List.length_cons, List.length_nil, Nat.reduceAdd, Nat.reduceLeDiff, true_and, ↓u_noW, ↓u_slot, ↓u_rLen_ref, g9, Option.some.injEq, exists_eq_left', ↓u_lnC_lst, ↓u_asR, DO.lst.injEq, exists_eq', ↓u_rAdd_tup, List.cons_append, List.nil_append, if_true]
            have hlen : rs.length = i := by
              have := congrArg List.length hrs
              rw [List.length_map, List.length_take] at this
              have := (List.getElem?_eq_some_iff.mp hp).1
              omega
            have hcl : 79 ≤ cl.length := by
              have h1 := hpm.length_eq
              rw [List.length_append, List.length_map] at h1
              have h2 : costL.length = 99 := rfl
              have := (List.getElem?_eq_some_iff.mp hp).1
              omega
            have hcl2 : cl.length ≤ 99 := by
              have h1 := hpm.length_eq
              rw [List.length_append, List.length_map] at h1
              have h2 : costL.length = 99 := rfl
              omega
            refine ⟨a, _, rfl, w.d, by rw [List.length_map]; omega, by rw [List.length_map]; omega, fun v H9 k0 k1 e9 d9 => ?_⟩
            rw [List.length_map] at k1
            have w' := w.next n5 e9 d9
            have g9' := e9 _ _ n9 g9
            have g10' := e9 _ _ n10 g10
            obtain ⟨k, hk⟩ : ∃ x, cl[v.toNat]? = some x := ⟨_, List.getElem?_eq_getElem (by omega)⟩
            simp only [↓u_rPopI, g9', Option.some.injEq, DO.lst.injEq, exists_eq_left']
            refine ⟨k0, by omega, .int k, by rw [List.getElem?_map, hk]; rfl, ?_⟩
            refine ⟨by rw [sizeLine_eq]; omega, by rw [upD_ne n910.symm]; exact g10', by rw [List.length_map]; have := (List.getElem?_eq_some_iff.mp hp).1; omega, hN _ _ ⟨rs ++ [⟨x, y, k⟩], cl.eraseIdx v.toNat, by simp [roD_def], ?_, ?_, upD_same, ?_, ?_⟩⟩
            · rw [List.map_append, hrs]
              have := map_take (f := id) hp
              simp only [List.map_id] at this
              rw [this]
              rfl
            · rw [List.map_append, List.append_assoc]
              exact (List.Perm.append_left _ (eraseIdx_permD hk)).trans hpm
            · rw [upD_ne n910, upD_same, eraseIdx_mapD]
            · refine ⟨(w'.e.up h9).up h10, (w'.d.up n9).up n10, ?_, w'.p⟩
              rw [upD_ne n510, upD_ne n59]
              exact w'.h
          · rintro acc H8 ⟨rs, cl, rfl, hrs, hpm, g10, g9', w'⟩
            refine ⟨w'.h, ?_⟩
            rw [show (ItD.mk (ps.map prD) fun H => H p5 = some (.lst (ps.map prD))).ds.length = ps.length from List.length_map .., List.take_length] at hrs
            have hlr : rs.length = ps.length := by
              have := congrArg List.length hrs
              rwa [List.length_map] at this
            have hin : ∀ r ∈ rs, (r.o, r.t) ∈ ps := fun r hr => hrs ▸ List.mem_map.mpr ⟨r, hr, rfl⟩
            have hco : ∀ r ∈ rs, 1 ≤ r.c ∧ r.c ≤ 99 := fun r hr => by
              have : r.c ∈ costL := hpm.mem_iff.mp (List.mem_append_left _ (List.mem_map.mpr ⟨r, hr, rfl⟩))
              exact costL_mem this
            have hmono : ∀ x, RchP ps o0 x → Rch rs o0 x := fun x hx => Rch.mono (fun r hr => by
              obtain ⟨p, hp, rfl⟩ := List.mem_map.mp hr
              rw [← hrs] at hp
              obtain ⟨s, hs, rfl⟩ := List.mem_map.mp hp
              exact ⟨s, hs, rfl, rfl⟩) hx
            refine q n rs p10 H8 h10 w'.e w'.d g10 ⟨n1, n8, by omega, fun r hr => ?_, ?_, fun x h0 h1 => ?_⟩ nm
            · obtain ⟨z1, z2, z3⟩ := w'.p.ok _ (hin r hr)
              exact ⟨z1, z2, z3, (hco r hr).1, (hco r hr).2⟩
            · have p1 : rs.Pairwise fun r s => (r.o, r.t) ≠ (s.o, s.t) := List.pairwise_map.mp (hrs ▸ w'.p.nd)
              have p2 : rs.Pairwise fun r s => r.c ≠ s.c := List.pairwise_map.mp (List.nodup_append.mp (hpm.nodup_iff.mpr costL_nodup)).1
              refine List.Pairwise.imp₂ (fun r s z1 z2 => ⟨fun z => z1 (by rw [z.1, z.2]), z2⟩) p1 p2
            · exact (hmono 0 (hcon 0 (by omega) (by omega))).symm.trans (hmono x (hcon x h0 h1))
end Lt


end
section
set_option Elab.async false
set_option linter.all false
set_option maxRecDepth 100000
set_option maxHeartbeats 4000000
namespace Lt
open PySem PySem.Spec L2
def t_tree (c : CA) (Ed : XD) : TSD :=
  (sSeq (sAsg (tLs tN) (.nm 1))
    (sSeq (sAsg (tLs tN) (.nm 2))
    (sSeq (sFor (iLs (tCb rSorted (tC (tLcG (iEn (tC (tMet c.Web (sp_Web_roads c) (WdE Ed) (tV 0) tN) tN)) (.tp [(.nm 4), (.nm 7)]) tYs (tTp (tC (tO rIx (tV 7) (tK (.int 2))) (tC (tV 4) tN))) [4, 7]) tN))) (.tp [(.nm 3), (.nm 4)])
    (sSeq (sAsg (tO rIx (tMet c.Web (sp_Web_roads c) (WdE Ed) (tV 0) tN) (tV 4)) (.tp [(.nm 5), (.nm 6), (.nm 3)]))
    (sIf (tTs (tO (rInG not) (tV 6) (tCal (sp_led_to c) (WdE Ed) (tC (tV 2) (tC (tV 5) tN))))) (sSeq (sDrop (tBm rApp (tV 2) (tC (tO rIx (tMet c.Web (sp_Web_roads c) (WdE Ed) (tV 0) tN) (tV 4)) tN)))
    (sDrop (tBm rApp (tV 1) (tC (tV 4) tN)))) sNx)))
    (sRet (tCb rSorted (tC (tV 1) tN))))))
theorem len_tree : ∀ c ds H Q E, sp_tree c ds H Q E → ds.length = (["web"] : List Str).length := by intro c ds H Q E h; first | (obtain ⟨_, _, _, _, _, _, _, _, _, _, _, _, rfl, _⟩ := h; rfl) | (obtain ⟨_, _, _, _, _, _, _, _, _, _, _, rfl, _⟩ := h; rfl) | (obtain ⟨_, _, _, _, _, _, _, _, _, _, rfl, _⟩ := h; rfl) | (obtain ⟨_, _, _, _, _, _, _, _, _, rfl, _⟩ := h; rfl) | (obtain ⟨_, _, _, _, _, _, _, _, rfl, _⟩ := h; rfl) | (obtain ⟨rfl, _⟩ := h; rfl) | (obtain ⟨_, rfl, _⟩ := h; rfl) | (obtain ⟨_, _, rfl, _⟩ := h; rfl) | (obtain ⟨_, _, _, rfl, _⟩ := h; rfl) | (obtain ⟨_, _, _, _, rfl, _⟩ := h; rfl) | (obtain ⟨_, _, _, _, _, rfl, _⟩ := h; rfl) | (obtain ⟨_, _, _, _, _, _, rfl, _⟩ := h; rfl) | (obtain ⟨_, _, _, _, _, _, _, rfl, _⟩ := h; rfl)
theorem rd_tree (c : CA) (Ed : XD) (ds : List D) (Hd : HD) (Qd : QD) (h : sp_tree c ds Hd Qd Ed) : t_tree c Ed { nx := fun _ H' => Qd .non H', rt := Qd } (startD ["web", "found", "kept", "cost", "number", "one", "other", "road"] ds) Hd := by
  obtain ⟨a, n, rs, rfl, hw, hl, hne, k⟩ := h
  unfold t_tree
  simp only [↓u_sSeq, ↓u_sAsg, ↓u_tLs, ↓u_tN, List.length_nil, Nat.zero_le, ↓u_goA_nm, ↓u_sFor, ↓u_iLs, ↓u_tCb, ↓u_tC, ↓u_tLcG, ↓u_iEn, ↓u_tMet, ↓u_tV, startD, List.map, List.length_cons, Nat.reduceAdd, Nat.reduceSub, List.replicate, List.cons_append, List.nil_append, List.set, List.getElem?_cons_zero, ↓u_wipe_cons, ↓u_wipe_nil, ↓u_WdE, ↓u_slot, ↓u_asR, true_and]
  intro p1 hp1 p2 hp2
  have hw' := hw
  obtain ⟨w, g1, g2⟩ := hw
  have x2 : Ext Hd (upD (upD Hd p1 (.lst [])) p2 (.lst [])) := (Ext.new hp1).trans (.new hp2)
  have f1 : upD (upD Hd p1 (.lst [])) p2 (.lst []) p1 = some (.lst []) := upD_old upD_same hp2
  have f2 : upD (upD Hd p1 (.lst [])) p2 (.lst []) p2 = some (.lst []) := upD_same
  have n12 : p1 ≠ p2 := neD (upD_same (H := Hd) (a := p1) (o := .lst [])) hp2
  have h2 : Hd p2 = none := upD_none hp2
  generalize upD (upD Hd p1 (.lst [])) p2 (.lst []) = H2 at x2 f1 f2 ⊢
  refine ⟨⟨_, x2 _ _ g1⟩, a, n, rs, rfl, hw'.ext x2, fun p3 hp3 => ?_⟩
  simp only [↓u_enI, upD_same, Option.some.injEq, DO.lst.injEq, exists_eq_left']
  rw [enumD_map]
  intro p4 hp4
  have f3 : upD H2 p3 (.lst (rs.map roD)) p3 = some (.lst (rs.map roD)) := upD_same
  have x3 : Ext H2 (upD H2 p3 (.lst (rs.map roD))) := .new hp3
  generalize upD H2 p3 (.lst (rs.map roD)) = H3 at x3 f3 hp4 ⊢
  refine lc_map (fun q : Rd × Nat => .tup [.int (q.2 : Nat), roD q.1]) (fun q => prD (q.1.c, (q.2 : Nat))) hp4 (by rw [List.length_zipIdx]; omega) (fun H e => e _ _ f3) (fun i q H K hq e h3 => ?_) (fun H4 x4 f4 => ?_)
  · simp only [↓u_goA_tp, ↓u_goAs_cons, ↓u_goA_nm, ↓u_goAs_nil, ↓u_tTp, ↓u_tC, ↓u_tO, ↓u_tV, List.set, roD_def, List.getElem?_cons_succ, List.getElem?_cons_zero, ↓u_tK, ↓u_tN, List.length_cons, List.length_nil, Nat.reduceAdd, Nat.reduceLeDiff, true_and, ↓u_slot, ↓u_rIx_tup, ↓u_at2, Option.some.injEq, exists_eq_left']
    exact h3 H (.refl H)
  · have f4' : H4 p4 = some (.lst ((costNums rs).map prD)) := by rw [f4]; unfold costNums; rw [List.map_map]; rfl
    refine rSorted_prs f4' fun p5 hp5 => ?_
    simp only [↓u_lsI_ref, upD_same, Option.some.injEq, DO.lst.injEq, exists_eq_left']
    have x5 : Ext Hd (upD H4 p5 (.lst ((sortP (costNums rs)).map prD))) := ((x2.trans x3).trans x4).trans (.new hp5)
    have f51 : upD H4 p5 (.lst ((sortP (costNums rs)).map prD)) p1 = some (.lst []) := upD_old (x4 _ _ (x3 _ _ f1)) hp5
    have f52 : upD H4 p5 (.lst ((sortP (costNums rs)).map prD)) p2 = some (.lst []) := upD_old (x4 _ _ (x3 _ _ f2)) hp5
    have f55 : upD H4 p5 (.lst ((sortP (costNums rs)).map prD)) p5 = some (.lst ((sortP (costNums rs)).map prD)) := upD_same
    have n51 : p5 ≠ p1 := neD' (x4 _ _ (x3 _ _ f1)) hp5
    have n52 : p5 ≠ p2 := neD' (x4 _ _ (x3 _ _ f2)) hp5
    generalize upD H4 p5 (.lst ((sortP (costNums rs)).map prD)) = H5 at x5 f51 f52 f55 ⊢
    have hls : (sortP (costNums rs)).length = rs.length := by rw [(sortP_perm _).length_eq, costNums_length]
    refine loop_inv' (I := ⟨(sortP (costNums rs)).map prD, fun H => H p5 = some (.lst ((sortP (costNums rs)).map prD))⟩) (fun i ρ H => ∃ z3 z4 z5 z6 : Option D, ρ = [some (.ref a), some (.ref p1), some (.ref p2), z3, z4, z5, z6, none] ∧ Ext Hd H ∧ H p5 = some (.lst ((sortP (costNums rs)).map prD)) ∧
        H p2 = some (.lst ((kRun rs ((sortP (costNums rs)).take i)).1.map roD)) ∧ H p1 = some (.lst ((kRun rs ((sortP (costNums rs)).take i)).2.map D.int))) ?_ ?_ ?_
    · exact ⟨_, _, _, _, rfl, x5, f55, f52, f51⟩
    · rintro i d ρ H hdi ⟨z3, z4, z5, z6, rfl, e, e5, e2, e1⟩
      obtain ⟨q, hq, rfl⟩ := getMap hdi
      obtain ⟨j, r, hj, rfl⟩ := sortP_mem hq
      refine ⟨e5, fun N B hN _ => ?_⟩
      have hkt := kRun_take (rs := rs) hq
      have hi : i < rs.length := by rw [← hls]; exact (List.getElem?_eq_some_iff.mp hq).1
      obtain ⟨l1, l2⟩ := kRun_len (rs := rs) ((sortP (costNums rs)).take i)
      rw [List.length_take] at l1 l2
      have hat : L2.atI (rs.map roD) ((j : Nat) : Int) = some (roD r) := L2.atI_nat (getRo hj)
      simp only [prD_def]
      simp only [↓u_goA_tp, ↓u_goAs_cons, ↓u_goA_nm, ↓u_goAs_nil, ↓u_sSeq, ↓u_sAsg, ↓u_tO, ↓u_tMet, ↓u_tV, List.set, List.getElem?_cons_zero, ↓u_tN, List.getElem?_cons_succ, ↓u_sIf, ↓u_tTs, ↓u_tCal, ↓u_tC, ↓u_sDrop, ↓u_tBm, ↓u_rApp, ↓u_WdE, ↓u_sNx, ↓u_slot, ↓u_asR]
      refine ⟨⟨_, e _ _ g1⟩, a, n, rs, rfl, hw'.ext e, fun p6 hp6 => ?_⟩
      simp only [↓u_rIx_ref, upD_same, Option.some.injEq, exists_eq_left', ↓u_ixC_lst, hat, roD_def, ↓u_goA_tp, ↓u_goAs_cons, ↓u_goA_nm, ↓u_goAs_nil, List.set, List.getElem?_cons_succ, List.getElem?_cons_zero, ↓u_slot, ↓u_asR]
      have x6 : Ext H (upD H p6 (.lst (rs.map roD))) := .new hp6
      generalize upD H p6 (.lst (rs.map roD)) = H6 at x6 ⊢
      refine ⟨p2, _, r.o, rfl, x6 _ _ e2, by omega, fun p7 H7 fs hp7 x7 f7 nd hm => ?_⟩
      simp only [↓u_rInG_ref, f7, Option.some.injEq, exists_eq_left', ↓u_inC_ints, ↓u_asB]
      have x67 := x6.trans x7
      by_cases c1 : r.t ∈ fs
      · rw [if_neg (by simp [c1])]
        have hk2 := hkt.trans (kStep_yes hj ((hm r.t).mp c1))
        exact hN _ _ ⟨_, _, _, _, rfl, e.trans x67, x67 _ _ e5, by rw [hk2]; exact x67 _ _ e2, by rw [hk2]; exact x67 _ _ e1⟩
      · rw [if_pos (by simp [c1])]
        have hk2 := hkt.trans (kStep_no hj fun z => c1 ((hm r.t).mpr z))
        refine ⟨⟨_, x67 _ _ e2⟩, ⟨_, x67 _ _ (e _ _ g1)⟩, a, n, rs, rfl, hw'.ext (e.trans x67), fun p8 hp8 => ?_⟩
        simp only [↓u_rIx_ref, upD_same, Option.some.injEq, exists_eq_left', ↓u_ixC_lst, hat, roD_def]
        have x8 : Ext H (upD H7 p8 (.lst (rs.map roD))) := x67.trans (.new hp8)
        generalize upD H7 p8 (.lst (rs.map roD)) = H8 at x8 ⊢
        simp only [x8 _ _ e2, Option.some.injEq, DO.lst.injEq, exists_eq_left']
        refine ⟨by rw [List.length_map]; omega, ?_⟩
        rw [upD_ne n12, x8 _ _ e1]
        refine ⟨⟨_, rfl⟩, _, rfl, by rw [List.length_map]; omega, hN _ _ ⟨_, _, _, _, rfl, ((e.trans x8).up h2).up hp1, ?_, ?_, ?_⟩⟩
        · rw [upD_ne n51, upD_ne n52]; exact x8 _ _ e5
        · rw [upD_ne n12.symm, upD_same, hk2]; simp [roD_def]
        · rw [upD_same, hk2]; simp
    · rintro ρ H ⟨z3, z4, z5, z6, rfl, e, e5, e2, e1⟩
      refine ⟨e5, ?_⟩
      rw [show (ItD.mk ((sortP (costNums rs)).map prD) fun H => H p5 = some (.lst ((sortP (costNums rs)).map prD))).ds.length = (sortP (costNums rs)).length from List.length_map .., List.take_length] at e1
      simp only [↓u_sRet, ↓u_tCb, ↓u_tC, ↓u_tV, List.getElem?_cons_succ, List.getElem?_cons_zero, ↓u_tN, ↓u_slot]
      refine rSorted_ints e1 fun p9 hp9 => ?_
      exact k p9 _ (Ext.none e hp9) (e.trans (.new hp9)) upD_same
def t_need_road (c : CA) (Ed : XD) : TSD :=
  (sIf (tNt (tTs (tChn rLe rLt (tK (.int 0)) (tV 1) (tCb rLen (tC (tMet c.Web (sp_Web_roads c) (WdE Ed) (tV 0) tN) tN))))) (sRaiN c.NoRoad (WdE Ed)) sNx)
theorem len_need_road : ∀ c ds H Q E, sp_need_road c ds H Q E → ds.length = (["web", "number"] : List Str).length := by intro c ds H Q E h; first | (obtain ⟨_, _, _, _, _, _, _, _, _, _, _, _, rfl, _⟩ := h; rfl) | (obtain ⟨_, _, _, _, _, _, _, _, _, _, _, rfl, _⟩ := h; rfl) | (obtain ⟨_, _, _, _, _, _, _, _, _, _, rfl, _⟩ := h; rfl) | (obtain ⟨_, _, _, _, _, _, _, _, _, rfl, _⟩ := h; rfl) | (obtain ⟨_, _, _, _, _, _, _, _, rfl, _⟩ := h; rfl) | (obtain ⟨rfl, _⟩ := h; rfl) | (obtain ⟨_, rfl, _⟩ := h; rfl) | (obtain ⟨_, _, rfl, _⟩ := h; rfl) | (obtain ⟨_, _, _, rfl, _⟩ := h; rfl) | (obtain ⟨_, _, _, _, rfl, _⟩ := h; rfl) | (obtain ⟨_, _, _, _, _, rfl, _⟩ := h; rfl) | (obtain ⟨_, _, _, _, _, _, rfl, _⟩ := h; rfl) | (obtain ⟨_, _, _, _, _, _, _, rfl, _⟩ := h; rfl)
theorem rd_need_road (c : CA) (Ed : XD) (ds : List D) (Hd : HD) (Qd : QD) (h : sp_need_road c ds Hd Qd Ed) : t_need_road c Ed { nx := fun _ H' => Qd .non H', rt := Qd } (startD ["web", "number"] ds) Hd := by
  obtain ⟨a, n, rs, i, rfl, hw, kb, k⟩ := h
  unfold t_need_road
  have hw' := hw
  obtain ⟨w, g1, g2⟩ := hw
  simp only [↓u_sIf, ↓u_tNt, ↓u_tTs, ↓u_tChn, ↓u_tK, ↓u_tV, startD, List.map, List.length_cons, List.length_nil, Nat.reduceAdd, Nat.reduceSub, List.replicate, List.append_nil, List.getElem?_cons_succ, List.getElem?_cons_zero, ↓u_tCb, ↓u_tC, ↓u_tMet, ↓u_tN, ↓u_sNx, ↓u_WdE, ↓u_slot, ↓u_asR, ↓u_asB, Bool.not_false, if_true, ↓u_rLe, ↓u_sRaiN, decide_eq_true_eq]
  by_cases h0 : 0 ≤ i
  rotate_left
  · rw [if_neg h0]
    exact kb (fun z => h0 z.1) _ (.refl _)
  rw [if_pos h0]
  refine ⟨⟨_, g1⟩, a, n, rs, rfl, hw', fun p hp => ?_⟩
  simp only [↓u_rLen_ref, upD_same, Option.some.injEq, exists_eq_left', ↓u_lnC_lst, ↓u_rLt, ↓u_asB, List.length_map]
  by_cases h1 : i < (rs.length : Nat)
  · rw [if_neg (by simp; omega)]
    exact k ⟨h0, h1⟩ _ (.new hp)
  · rw [if_pos (by simp; omega)]
    exact kb (fun z => h1 z.2) _ (.new hp)
theorem WebOk.ne {n : Int} {rs : List Rd} (w : WebOk n rs) : ∀ r ∈ rs, r.o ≠ r.t := fun r hr => by
  have := (w.ok r hr).ot
  omega
theorem atJ {rs : List Rd} {j : Nat} {r : Rd} (h : rs[j]? = some r) : L2.atI (rs.map roD) ((j : Nat) : Int) = some (roD r) := L2.atI_nat (getRo h)
theorem pick_map {rs : List Rd} : ∀ {ns : List Int}, (∀ x ∈ ns, ∃ (j : Nat) (r : Rd), x = (j : Int) ∧ rs[j]? = some r) → ns.map (fun x => roD (rs[x.toNat]?.getD ⟨0, 0, 0⟩)) = (pick rs ns).map roD
  | [], _ => rfl
  | x :: ns, h => by
    obtain ⟨j, r, e, hj⟩ := h x (List.mem_cons_self ..)
    subst e
    unfold pick
    rw [List.filterMap_cons, List.map_cons, Int.toNat_natCast, hj, pick_map fun y hy => h y (List.mem_cons_of_mem _ hy)]
    rfl
theorem pick_len {rs : List Rd} (ns : List Int) : (pick rs ns).length ≤ ns.length := List.length_filterMap_le ..
def t_side (c : CA) (Ed : XD) : TSD :=
  (sSeq (sDrop (tCal (sp_need_road c) (WdE Ed) (tC (tV 0) (tC (tV 1) tN))))
    (sSeq (sAsg (tCal (sp_tree c) (WdE Ed) (tC (tV 0) tN)) (.nm 2))
    (sSeq (sIf (tTs (tO (rInG not) (tV 1) (tV 2))) (sRet (tK .non)) sNx)
    (sSeq (sAsg (tLcG (iLs (tV 2)) (.nm 4) (tTs (tO rNe (tV 4) (tV 1))) (tO rIx (tMet c.Web (sp_Web_roads c) noW (tV 0) tN) (tV 4)) [4]) (.nm 3))
    (sRet (tCb rSorted (tC (tCal (sp_led_to c) (WdE Ed) (tC (tV 3) (tC (tO rIx (tO rIx (tMet c.Web (sp_Web_roads c) (WdE Ed) (tV 0) tN) (tV 1)) (tK (.int 0))) tN))) tN)))))))
theorem len_side : ∀ c ds H Q E, sp_side c ds H Q E → ds.length = (["web", "number"] : List Str).length := by intro c ds H Q E h; first | (obtain ⟨_, _, _, _, _, _, _, _, _, _, _, _, rfl, _⟩ := h; rfl) | (obtain ⟨_, _, _, _, _, _, _, _, _, _, _, rfl, _⟩ := h; rfl) | (obtain ⟨_, _, _, _, _, _, _, _, _, _, rfl, _⟩ := h; rfl) | (obtain ⟨_, _, _, _, _, _, _, _, _, rfl, _⟩ := h; rfl) | (obtain ⟨_, _, _, _, _, _, _, _, rfl, _⟩ := h; rfl) | (obtain ⟨rfl, _⟩ := h; rfl) | (obtain ⟨_, rfl, _⟩ := h; rfl) | (obtain ⟨_, _, rfl, _⟩ := h; rfl) | (obtain ⟨_, _, _, rfl, _⟩ := h; rfl) | (obtain ⟨_, _, _, _, rfl, _⟩ := h; rfl) | (obtain ⟨_, _, _, _, _, rfl, _⟩ := h; rfl) | (obtain ⟨_, _, _, _, _, _, rfl, _⟩ := h; rfl) | (obtain ⟨_, _, _, _, _, _, _, rfl, _⟩ := h; rfl)
theorem rd_side (c : CA) (Ed : XD) (ds : List D) (Hd : HD) (Qd : QD) (h : sp_side c ds Hd Qd Ed) : t_side c Ed { nx := fun _ H' => Qd .non H', rt := Qd } (startD ["web", "number", "numbers", "left", "at"] ds) Hd := by
  obtain ⟨a, n, rs, i0, rfl, hw, ok, kb, kk⟩ := h
  unfold t_side
  have hw' := hw
  obtain ⟨w, g1, g2⟩ := hw
  have hl := ok.few
  simp only [↓u_sSeq, ↓u_sDrop, ↓u_tCal, ↓u_tC, ↓u_tV, startD, List.map, List.length_cons, List.length_nil, Nat.reduceAdd, Nat.reduceSub, List.replicate, List.cons_append, List.nil_append, List.getElem?_cons_zero, List.getElem?_cons_succ, ↓u_tN, ↓u_sAsg, ↓u_goA_nm, ↓u_sIf, ↓u_tTs, ↓u_tO, List.set, ↓u_sRet, ↓u_tK, ↓u_sNx, ↓u_tLcG, ↓u_iLs, ↓u_wipe_cons, ↓u_wipe_nil, ↓u_tCb, ↓u_tMet, ↓u_WdE, ↓u_slot, ↓u_asR]
  refine ⟨a, n, rs, _, rfl, hw', kb, fun hr H1 x1 => ?_⟩
  obtain ⟨h0, h1⟩ := hr
  obtain ⟨i, rfl⟩ : ∃ i : Nat, i0 = (i : Int) := ⟨i0.toNat, by omega⟩
  have hil : i < rs.length := by omega
  obtain ⟨r, hi⟩ : ∃ r, rs[i]? = some r := ⟨_, List.getElem?_eq_getElem hil⟩
  obtain ⟨k1, k2⟩ := kk i r rfl hi
  refine ⟨a, n, rs, rfl, hw'.ext x1, by omega, ok.ne, fun p2 H2 hp2 x2 f2 => ?_⟩
  have x12 := x1.trans x2
  simp only [↓u_rInG_ref, f2, Option.some.injEq, ↓u_lsI_ref, exists_eq_left', ↓u_inC_ints, ↓u_asB, DO.lst.injEq]
  by_cases c1 : (i : Int) ∈ kru rs
  rotate_left
  · rw [if_pos (by simp [c1])]
    exact k1 c1 H2 x12
  rw [if_neg (by simp [c1])]
  intro p3 hp3
  refine lc_fm D.int (fun x => roD (rs[x.toNat]?.getD ⟨0, 0, 0⟩)) (fun j => !decide (j = (i : Int))) hp3 (by have := kru_len rs; omega) (fun H e => e _ _ f2) (fun j x H K K' hx e h3 h4 => ?_) (fun H3 x3 f3 => ?_)
  · simp only [↓u_goA_nm, ↓u_tTs, ↓u_tO, ↓u_tV, List.set, List.getElem?_cons_succ, List.getElem?_cons_zero, ↓u_tMet, ↓u_tN, ↓u_slot, ↓u_noW, ↓u_asR, ↓u_rNe_int, ↓u_asB]
    by_cases c2 : x = (i : Int)
    · rw [if_neg (by simp [c2])]
      exact h4 (by simp [c2]) H (.refl H)
    · rw [if_pos (by simp [c2])]
      refine ⟨⟨_, e _ _ (x12 _ _ g1)⟩, a, n, rs, rfl, hw'.ext (x12.trans e), fun p4 hp4 => ?_⟩
      obtain ⟨m, r', rfl, hm⟩ := kru_mem (List.mem_of_getElem? hx)
      simp only [↓u_rIx_ref, upD_same, Option.some.injEq, exists_eq_left', ↓u_ixC_lst, atJ hm, roD_def]
      have := h3 (by simp [c2]) (upD H p4 (.lst (rs.map roD))) (.new hp4)
      rw [Int.toNat_natCast, hm] at this
      exact this
  · rw [pick_map fun x hx => kru_mem (List.mem_filter.mp hx).1] at f3
    have x123 := x12.trans x3
    refine ⟨⟨_, x123 _ _ g1⟩, a, n, rs, rfl, hw'.ext x123, fun p4 hp4 => ?_⟩
    simp only [↓u_rIx_ref, upD_same, Option.some.injEq, exists_eq_left', ↓u_ixC_lst, atJ hi, roD_def, ↓u_rIx_tup, ↓u_at0]
    have x4 : Ext Hd (upD H3 p4 (.lst (rs.map roD))) := x123.trans (.new hp4)
    have f4 : upD H3 p4 (.lst (rs.map roD)) p3 = _ := upD_old f3 hp4
    generalize upD H3 p4 (.lst (rs.map roD)) = H4 at x4 f4 ⊢
    refine ⟨p3, _, r.o, rfl, f4, ?_, fun p5 H5 fs hp5 x5 f5 nd hm => ?_⟩
    · have := pick_len (rs := rs) ((kru rs).filter fun j => !decide (j = (i : Int)))
      have h2 := List.length_filter_le (fun j => !decide (j = (i : Int))) (kru rs)
      have h3 := kru_len rs
      omega
    refine rSorted_ints f5 fun p6 hp6 => ?_
    refine k2 c1 p6 _ (sortI fs) (Ext.none (x4.trans x5) hp6) ((x4.trans x5).trans (.new hp6)) ((sortI_perm fs).nodup_iff.mpr nd) (sortI_sorted fs) (fun x => ?_) upD_same
    rw [(sortI_perm fs).mem_iff]
    exact hm x
end Lt


end
section
set_option Elab.async false
set_option linter.all false
set_option maxRecDepth 100000
set_option maxHeartbeats 4000000
namespace Lt
open PySem PySem.Spec L2
theorem lookP_app {κ α : Type} [DecidableEq κ] {kvs : List (κ × α)} {k k' : κ} {v : α} : lookP (kvs ++ [(k, v)]) k' = (lookP kvs k').or (if k = k' then some v else none) := by
  unfold lookP
  rw [List.find?_append]
  cases h : kvs.find? (fun kv => decide (kv.1 = k')) with
  | some x => simp
  | none =>
    by_cases e : k = k'
    · subst e; simp
    · simp [e]
theorem putP_new {κ α : Type} [DecidableEq κ] {kvs : List (κ × α)} {k : κ} {v : α} (h : lookP kvs k = none) : putP kvs k v = kvs ++ [(k, v)] := by
  unfold putP
  rw [if_neg]
  intro z
  unfold lookP at h
  rw [Option.map_eq_none_iff, List.find?_eq_none] at h
  obtain ⟨x, hx, e⟩ := List.any_eq_true.mp z
  exact h x hx e
/-- which ends are not yet keys -/
def cntK (rs : List Rd) (kvs : List (Key × D)) : Nat := (endsOf rs).countP fun x => !(lookP kvs (.inl x)).isSome
theorem cntK_lt {rs : List Rd} {kvs : List (Key × D)} {x : Int} {v : D} (h : x ∈ endsOf rs) (hx : lookP kvs (.inl x) = none) : cntK rs (kvs ++ [(.inl x, v)]) < cntK rs kvs := by
  refine countP_lt (x := x) (fun y hy => ?_) h (by rw [hx]; rfl) (by rw [lookP_app, hx]; simp)
  rw [lookP_app] at hy
  cases e : lookP kvs (.inl y) with
  | none => rfl
  | some d => rw [e] at hy; simp at hy
/-- the search's state -/
structure SrSt (rs : List Rd) (o : Int) (Hd H : HD) (p2 p6 p7 : Addr) (kvs : List (Key × D)) (wt : List Int) : Prop where
  e : Ext Hd H
  g2 : H p2 = some (.lst ((kru rs).map D.int))
  g6 : H p6 = some (.dK kvs)
  g7 : H p7 = some (.lst (wt.map D.int))
  a : ∀ h q, lookP kvs (.inl h) = some q → ∃ (ps vs : List Int) (pq : Addr), q = .ref pq ∧ Hd pq = none ∧ pq ≠ p6 ∧ pq ≠ p7 ∧ H pq = some (.lst (ps.map D.int)) ∧ ps.length ≤ kvs.length ∧ Way rs (kru rs) o ps h vs ∧ ∀ v ∈ vs, (lookP kvs (.inl v)).isSome
  b : ∀ h ∈ wt, (lookP kvs (.inl h)).isSome
  d : (lookP kvs (.inl o)).isSome
  l : kvs.length + cntK rs kvs ≤ 100
/-- what leads out of a hand is known -/
def Clo (rs : List Rd) (kvs : List (Key × D)) (h : Int) : Prop := ∀ (j : Nat) (r : Rd), (j : Int) ∈ kru rs → rs[j]? = some r → (r.o = h → (lookP kvs (.inl r.t)).isSome) ∧ (r.t = h → (lookP kvs (.inl r.o)).isSome)
theorem some_app {kvs : List (Key × D)} {k k' : Key} {v : D} (h : (lookP kvs k').isSome) : (lookP (kvs ++ [(k, v)]) k').isSome := by
  rw [lookP_app]
  cases e : lookP kvs k' with
  | none => rw [e] at h; cases h
  | some d => rfl
theorem Clo.app {rs : List Rd} {kvs : List (Key × D)} {k : Key} {v : D} {h : Int} (c : Clo rs kvs h) : Clo rs (kvs ++ [(k, v)]) h := fun j r hj hr => ⟨fun e => some_app ((c j r hj hr).1 e), fun e => some_app ((c j r hj hr).2 e)⟩
theorem SrSt.ext {rs : List Rd} {o : Int} {Hd H H' : HD} {p2 p6 p7 : Addr} {kvs : List (Key × D)} {wt : List Int} (s : SrSt rs o Hd H p2 p6 p7 kvs wt) (e : Ext H H') : SrSt rs o Hd H' p2 p6 p7 kvs wt :=
  ⟨s.e.trans e, e _ _ s.g2, e _ _ s.g6, e _ _ s.g7, fun h q hq => by
    obtain ⟨ps, vs, pq, h1, h2, h3, h4, h5, h6⟩ := s.a h q hq
    exact ⟨ps, vs, pq, h1, h2, h3, h4, e _ _ h5, h6⟩, s.b, s.d, s.l⟩
theorem SrSt.pop {rs : List Rd} {o : Int} {Hd H : HD} {p2 p6 p7 : Addr} {kvs : List (Key × D)} {wt : List Int} {x : Int} (s : SrSt rs o Hd H p2 p6 p7 kvs (wt ++ [x])) (h7 : Hd p7 = none) (n27 : p2 ≠ p7) (n67 : p6 ≠ p7) : SrSt rs o Hd (upD H p7 (.lst (wt.map D.int))) p2 p6 p7 kvs wt :=
  ⟨s.e.up h7, by rw [upD_ne n27]; exact s.g2, by rw [upD_ne n67]; exact s.g6, upD_same, fun h q hq => by
    obtain ⟨ps, vs, pq, h1, h2, h3, h4, h5, h6⟩ := s.a h q hq
    exact ⟨ps, vs, pq, h1, h2, h3, h4, by rw [upD_ne h4]; exact h5, h6⟩, fun h hh => s.b h (List.mem_append_left _ hh), s.d, s.l⟩
theorem SrSt.ins {rs : List Rd} {o : Int} {Hd H : HD} {p2 p6 p7 pb : Addr} {kvs : List (Key × D)} {wt ps vs : List Int} {x : Int} (s : SrSt rs o Hd H p2 p6 p7 kvs wt) (h6 : Hd p6 = none) (h7 : Hd p7 = none) (n26 : p2 ≠ p6) (n27 : p2 ≠ p7) (n67 : p6 ≠ p7)
    (hb : Hd pb = none) (b6 : pb ≠ p6) (b7 : pb ≠ p7) (gb : H pb = some (.lst (ps.map D.int))) (hx : lookP kvs (.inl x) = none) (he : x ∈ endsOf rs) (hl : ps.length ≤ kvs.length + 1) (wy : Way rs (kru rs) o ps x (vs ++ [x])) (hv : ∀ v ∈ vs, (lookP kvs (.inl v)).isSome) :
    SrSt rs o Hd (upD (upD H p6 (.dK (kvs ++ [(.inl x, .ref pb)]))) p7 (.lst ((wt ++ [x]).map D.int))) p2 p6 p7 (kvs ++ [(.inl x, .ref pb)]) (wt ++ [x]) := by
  refine ⟨(s.e.up h6).up h7, by rw [upD_ne n27, upD_ne n26]; exact s.g2, by rw [upD_ne n67, upD_same], upD_same, fun h q hq => ?_, fun h hh => ?_, some_app s.d, ?_⟩
  · rw [lookP_app] at hq
    cases e : lookP kvs (.inl h) with
    | some d =>
      rw [e] at hq
      have eq : d = q := Option.some.inj hq
      subst eq
      obtain ⟨ps', vs', pq, h1, h2, h3, h4, h5, h6', h7', h8⟩ := s.a h d e
      exact ⟨ps', vs', pq, h1, h2, h3, h4, by rw [upD_ne h4, upD_ne h3]; exact h5, by rw [List.length_append]; omega, h7', fun v hv => some_app (h8 v hv)⟩
    | none =>
      rw [e] at hq
      by_cases ex : (Sum.inl x : Key) = .inl h
      · have ex' : x = h := by injection ex
        subst ex'
        rw [if_pos rfl] at hq
        have eq : D.ref pb = q := Option.some.inj hq
        subst eq
        refine ⟨ps, vs ++ [x], pb, rfl, hb, b6, b7, by rw [upD_ne b7, upD_ne b6]; exact gb, by rw [List.length_append]; exact hl, wy, fun v hv' => ?_⟩
        rcases List.mem_append.mp hv' with z | z
        · exact some_app (hv v z)
        · rw [List.mem_singleton.mp z, lookP_app, hx]; simp
      · rw [if_neg ex] at hq; cases hq
  · rcases List.mem_append.mp hh with z | z
    · exact some_app (s.b h z)
    · rw [List.mem_singleton.mp z, lookP_app, hx]; simp
  · have := cntK_lt (rs := rs) (v := D.ref pb) he hx
    have := s.l
    rw [List.length_append, List.length_singleton]
    omega
theorem rch_pick {rs : List Rd} {ks : Int → Prop} {o : Int} (h0 : ks o) (h : ∀ (j : Nat) (r : Rd), (j : Int) ∈ kru rs → rs[j]? = some r → (ks r.o → ks r.t) ∧ (ks r.t → ks r.o)) {x : Int} (k : Rch (pick rs (kru rs)) o x) : ks x := by
  induction k with
  | base => exact h0
  | fwd hr _ ih =>
    obtain ⟨x, hx, e⟩ := mem_pick.mp hr
    obtain ⟨j, r, rfl, hj⟩ := kru_mem hx
    rw [Int.toNat_natCast, hj] at e
    cases e
    exact (h j _ hx hj).1 ih
  | bwd hr _ ih =>
    obtain ⟨x, hx, e⟩ := mem_pick.mp hr
    obtain ⟨j, r, rfl, hj⟩ := kru_mem hx
    rw [Int.toNat_natCast, hj] at e
    cases e
    exact (h j _ hx hj).2 ih
def t_instead (c : CA) (Ed : XD) : TSD :=
  (sSeq (sDrop (tCal (sp_need_road c) (WdE Ed) (tC (tV 0) (tC (tV 1) tN))))
    (sSeq (sAsg (tCal (sp_tree c) (WdE Ed) (tC (tV 0) tN)) (.nm 2))
    (sSeq (sIf (tTs (tO (rInG id) (tV 1) (tV 2))) (sRet (tK .non)) sNx)
    (sSeq (sAsg (tO rIx (tMet c.Web (sp_Web_roads c) (WdE Ed) (tV 0) tN) (tV 1)) (.tp [(.nm 3), (.nm 4), (.nm 5)]))
    (sSeq (sAsg (tDisp1 (tV 3) (tLs tN)) (.nm 6))
    (sSeq (sAsg (tLs (tC (tV 3) tN)) (.nm 7))
    (sSeq (sWhile (tTs (tO rNe (tV 7) (tLs tN)))
    (sSeq (sAsg (tBm rPop0 (tV 7) tN) (.nm 8))
    (sFor (iLs (tV 2)) (.nm 9)
    (sSeq (sAsg (tO rIx (tMet c.Web (sp_Web_roads c) (WdE Ed) (tV 0) tN) (tV 9)) (.tp [(.nm 10), (.nm 11), (.nm 12)]))
    (sFor (iLs (tLs (tC (tTp (tC (tV 10) (tC (tV 11) tN))) (tC (tTp (tC (tV 11) (tC (tV 10) tN))) tN)))) (.tp [(.nm 13), (.nm 14)])
    (sIf (tAn (tTs (tO rEq (tV 13) (tV 8))) (tTs (tO (rInG not) (tV 14) (tV 6)))) (sSeq (sSub (tO rAdd (tO rIx (tV 6) (tV 8)) (tLs (tC (tV 9) tN))) (tV 6) (tV 14))
    (sDrop (tBm rApp (tV 7) (tC (tV 14) tN)))) sNx))))))
    (sRet (tO rIx (tV 6) (tV 4))))))))))
theorem len_instead : ∀ c ds H Q E, sp_instead c ds H Q E → ds.length = (["web", "number"] : List Str).length := by intro c ds H Q E h; first | (obtain ⟨_, _, _, _, _, _, _, _, _, _, _, _, rfl, _⟩ := h; rfl) | (obtain ⟨_, _, _, _, _, _, _, _, _, _, _, rfl, _⟩ := h; rfl) | (obtain ⟨_, _, _, _, _, _, _, _, _, _, rfl, _⟩ := h; rfl) | (obtain ⟨_, _, _, _, _, _, _, _, _, rfl, _⟩ := h; rfl) | (obtain ⟨_, _, _, _, _, _, _, _, rfl, _⟩ := h; rfl) | (obtain ⟨rfl, _⟩ := h; rfl) | (obtain ⟨_, rfl, _⟩ := h; rfl) | (obtain ⟨_, _, rfl, _⟩ := h; rfl) | (obtain ⟨_, _, _, rfl, _⟩ := h; rfl) | (obtain ⟨_, _, _, _, rfl, _⟩ := h; rfl) | (obtain ⟨_, _, _, _, _, rfl, _⟩ := h; rfl) | (obtain ⟨_, _, _, _, _, _, rfl, _⟩ := h; rfl) | (obtain ⟨_, _, _, _, _, _, _, rfl, _⟩ := h; rfl)
theorem rd_instead (c : CA) (Ed : XD) (ds : List D) (Hd : HD) (Qd : QD) (h : sp_instead c ds Hd Qd Ed) : t_instead c Ed { nx := fun _ H' => Qd .non H', rt := Qd } (startD ["web", "number", "numbers", "one", "other", "cost", "ways", "waiting", "here", "at", "near", "far", "price", "begin", "end"] ds) Hd := by
  obtain ⟨a, n, rs, i0, rfl, hw, ok, kb, kk⟩ := h
  unfold t_instead
  have hw' := hw
  obtain ⟨w, g1, g2⟩ := hw
  have hl := ok.few
  simp only [↓u_sSeq, ↓u_sDrop, ↓u_tCal, ↓u_tC, ↓u_tV, startD, List.map, List.length_cons, List.length_nil, Nat.reduceAdd, Nat.reduceSub, List.replicate, List.cons_append, List.nil_append, List.getElem?_cons_zero, List.getElem?_cons_succ, ↓u_tN, ↓u_sAsg, ↓u_goA_nm, ↓u_sIf, ↓u_tTs, ↓u_tO, List.set, ↓u_sRet, ↓u_tK, ↓u_sNx, ↓u_tMet, ↓u_tDisp1, ↓u_tLs, Nat.zero_le, Nat.reduceLeDiff, true_and, ↓u_slot, ↓u_WdE, ↓u_asR]
  refine ⟨a, n, rs, _, rfl, hw', kb, fun hr H1 x1 => ?_⟩
  obtain ⟨h0, h1⟩ := hr
  obtain ⟨i, rfl⟩ : ∃ i : Nat, i0 = (i : Int) := ⟨i0.toNat, by omega⟩
  have hil : i < rs.length := by omega
  obtain ⟨r0, hi⟩ : ∃ r, rs[i]? = some r := ⟨_, List.getElem?_eq_getElem hil⟩
  obtain ⟨k1, k2⟩ := kk i r0 rfl hi
  refine ⟨a, n, rs, rfl, hw'.ext x1, by omega, ok.ne, fun p2 H2 hp2 x2 f2 => ?_⟩
  have x12 := x1.trans x2
  simp only [↓u_rInG_ref, f2, Option.some.injEq, exists_eq_left', ↓u_inC_ints, ↓u_asB, id_eq, decide_eq_true_eq]
  by_cases c1 : (i : Int) ∈ kru rs
  · rw [if_pos (by simp [c1])]
    exact k1 c1 H2 x12
  rw [if_neg (by simp [c1])]
  refine ⟨⟨_, x12 _ _ g1⟩, a, n, rs, rfl, hw'.ext x12, fun p3 hp3 => ?_⟩
  simp only [↓u_rIx_ref, upD_same, Option.some.injEq, exists_eq_left', ↓u_ixC_lst, atJ hi, roD_def, ↓u_goA_tp, ↓u_goAs_cons, ↓u_goA_nm, ↓u_goAs_nil, List.set, List.getElem?_cons_succ, List.getElem?_cons_zero, ↓u_slot, ↓u_asI]
  have x3 : Ext Hd (upD H2 p3 (.lst (rs.map roD))) := x12.trans (.new hp3)
  have f3 : upD H2 p3 (.lst (rs.map roD)) p2 = _ := upD_old f2 hp3
  generalize upD H2 p3 (.lst (rs.map roD)) = H3 at x3 f3 ⊢
  intro p6 hp6 p10 hp10
  refine ⟨upD_old upD_same hp10, fun p7 hp7 => ?_⟩
  have h6 := Ext.none x3 hp6
  have n106 := upD_noneNe hp10
  have hp10' := upD_none hp10
  have h10 := Ext.none x3 hp10'
  have n76 := upD_noneNe hp7
  have hp7a := upD_none hp7
  have n710 := upD_noneNe hp7a
  have hp7' := upD_none (upD_none hp7a)
  have h7 := Ext.none x3 hp7'
  have n26 : p2 ≠ p6 := neD f3 hp6
  have n27 : p2 ≠ p7 := neD f3 hp7'
  have n210 : p2 ≠ p10 := neD f3 hp10'
  have st0 : SrSt rs r0.o Hd (upD (upD (upD (upD H3 p6 (DO.dK [])) p10 (DO.lst [])) p6 (DO.dK [(Sum.inl r0.o, D.ref p10)])) p7 (DO.lst [D.int r0.o])) p2 p6 p7 [(Sum.inl r0.o, D.ref p10)] [r0.o] := by
    refine ⟨(((x3.up h6).up h10).up h6).up h7, ?_, ?_, upD_same, fun h q hq => ?_, fun h hh => ?_, ?_, ?_⟩
    · rw [upD_ne n27, upD_ne n26, upD_ne n210, upD_ne n26]; exact f3
    · rw [upD_ne n76.symm, upD_same]
    · by_cases e : r0.o = h
      · subst e
        have eq : D.ref p10 = q := by
          have := hq
          simp [lookP] at this
          exact this
        subst eq
        refine ⟨[], [r0.o], p10, rfl, h10, n106, n710.symm, by rw [upD_ne n710.symm, upD_ne n106, upD_same]; rfl, by simp, .nil, fun v hv => ?_⟩
        rw [List.mem_singleton.mp hv]
        simp [lookP]
      · simp [lookP, e] at hq
    · rw [List.mem_singleton.mp hh]; simp [lookP]
    · simp [lookP]
    · have h1 : cntK rs [(Sum.inl r0.o, D.ref p10)] ≤ (endsOf rs).length := List.countP_le_length ..
      rw [ends_length] at h1
      simp
      omega
  generalize upD (upD (upD (upD H3 p6 (DO.dK [])) p10 (DO.lst [])) p6 (DO.dK [(Sum.inl r0.o, D.ref p10)])) p7 (DO.lst [D.int r0.o]) = H5 at st0 ⊢
  refine ⟨fun m ρ H => ∃ (kvs : List (Key × D)) (wt : List Int) (z8 z9 z10 z11 z12 z13 z14 : Option D), ρ = [some (.ref a), some (.int (i : Int)), some (.ref p2), some (.int r0.o), some (.int r0.t), some (.int r0.c), some (.ref p6), some (.ref p7), z8, z9, z10, z11, z12, z13, z14] ∧
      SrSt rs r0.o Hd H p2 p6 p7 kvs wt ∧ (∀ h, (lookP kvs (.inl h)).isSome → h ∈ wt ∨ Clo rs kvs h) ∧ m = wt.length + 2 * cntK rs kvs ∧ m ≤ 100, ⟨_, _, _, _, _, _, _, _, _, _, rfl, st0, fun h hh => ?_, rfl, ?_⟩, ?_⟩
  · left
    by_cases e : r0.o = h
    · rw [e]; simp
    · simp [lookP, e] at hh
  · have h1 : cntK rs [(Sum.inl r0.o, D.ref p10)] ≤ (endsOf rs).length := List.countP_le_length ..
    rw [ends_length] at h1
    simp
    omega
  clear st0
  rintro m ρ H ⟨kvs, wt, z8, z9, z10, z11, z12, z13, z14, rfl, s, hc, rfl, hM⟩
  simp only [↓u_tTs, ↓u_tO, ↓u_tV, List.getElem?_cons_succ, List.getElem?_cons_zero, ↓u_tLs, ↓u_tN, List.length_nil, Nat.zero_le, ↓u_sSeq, ↓u_sAsg, ↓u_tBm, ↓u_rPop0, ↓u_goA_nm, ↓u_sFor, ↓u_iLs, List.set, ↓u_slot, ↓u_lsI_ref, ↓u_asR, ↓u_sRet, ↓u_rIx_ref, true_and]
  intro q hq
  refine neNil (lowMap fun _ => low_int) (upD_old s.g7 hq) upD_same ?_
  have s := s.ext (Ext.new (c := .lst []) hq)
  generalize upD H q (.lst []) = H6 at s ⊢
  rcases List.eq_nil_or_concat wt with rfl | ⟨wt, here, rfl⟩
  · simp only [↓u_asB, List.map, List.length_nil, s.g6, Option.some.injEq, exists_eq_left', ↓u_ixC_K]
    rw [if_neg (by simp)]
    have hcl : ∀ h, (lookP kvs (.inl h)).isSome → Clo rs kvs h := fun h hh => (hc h hh).resolve_left (by simp)
    have ht : (lookP kvs (.inl r0.t)).isSome := by
      refine rch_pick (ks := fun h => (lookP kvs (.inl h)).isSome) s.d (fun j r hj hr => ⟨fun z => (hcl _ z j r hj hr).1 rfl, fun z => (hcl _ z j r hj hr).2 rfl⟩) (kru_span (List.mem_of_getElem? hi))
    obtain ⟨d, hd⟩ := Option.isSome_iff_exists.mp ht
    obtain ⟨ps, vs, pq, rfl, b1, b2, b3, b4, b5, b6, b7⟩ := s.a _ _ hd
    exact ⟨_, hd, k2 c1 pq H6 ps vs b1 s.e b6 b4⟩
  · rw [List.concat_eq_append] at *
    have hbh := s.b here (by simp)
    simp only [↓u_asB, s.g7, Option.some.injEq, DO.lst.injEq, exists_eq', exists_eq_left', true_and]
    rw [if_pos (by simp)]
    refine ⟨.int here, by simp, ?_⟩
    have edl : ((wt ++ [here]).map D.int).dropLast = wt.map D.int := by simp
    rw [edl]
    have s7 := s.pop h7 n27 n76.symm
    have hc7 : ∀ h, (lookP kvs (.inl h)).isSome → h = here ∨ h ∈ wt ∨ Clo rs kvs h := fun h hh => by
      rcases hc h hh with z | z
      · rcases List.mem_append.mp z with z | z
        · exact .inr (.inl z)
        · exact .inl (List.mem_singleton.mp z)
      · exact .inr (.inr z)
    have hm : wt.length + 2 * cntK rs kvs < (wt ++ [here]).length + 2 * cntK rs kvs := by rw [List.length_append, List.length_singleton]; omega
    generalize upD H6 p7 (.lst (wt.map D.int)) = H7 at s7 ⊢
    generalize (wt ++ [here]).length + 2 * cntK rs kvs = M at hm hM ⊢
    simp only [s7.g2, Option.some.injEq, DO.lst.injEq, exists_eq_left']
    refine loop_inv' (I := ⟨(kru rs).map D.int, fun H => H p2 = some (.lst ((kru rs).map D.int))⟩) (fun ix ρ H => ∃ (kvs : List (Key × D)) (wt : List Int) (z9 z10 z11 z12 z13 z14 : Option D), ρ = [some (.ref a), some (.int (i : Int)), some (.ref p2), some (.int r0.o), some (.int r0.t), some (.int r0.c), some (.ref p6), some (.ref p7), some (.int here), z9, z10, z11, z12, z13, z14] ∧
        SrSt rs r0.o Hd H p2 p6 p7 kvs wt ∧ (lookP kvs (.inl here)).isSome ∧ (∀ h, (lookP kvs (.inl h)).isSome → h = here ∨ h ∈ wt ∨ Clo rs kvs h) ∧ wt.length + 2 * cntK rs kvs < M ∧
        ∀ (j' j : Nat) (r : Rd), j' < ix → (kru rs)[j']? = some (j : Int) → rs[j]? = some r → (r.o = here → (lookP kvs (.inl r.t)).isSome) ∧ (r.t = here → (lookP kvs (.inl r.o)).isSome)) ?_ ?_ ?_
    · exact ⟨kvs, wt, _, _, _, _, _, _, rfl, s7, hbh, hc7, hm, fun j' j r hj => by omega⟩
    · rintro ix d ρ H hd ⟨kvs, wt, z9, z10, z11, z12, z13, z14, rfl, s, hbh, hc, hm, hdone⟩
      obtain ⟨x, hx, rfl⟩ := getMap hd
      obtain ⟨j, r, rfl, hj⟩ := kru_mem (List.mem_of_getElem? hx)
      have hjk := List.mem_of_getElem? hx
      refine ⟨s.g2, fun N B hN _ => ?_⟩
      simp only [↓u_goA_nm, ↓u_sSeq, ↓u_sAsg, ↓u_tO, ↓u_tMet, ↓u_tV, List.set, List.getElem?_cons_zero, ↓u_tN, List.getElem?_cons_succ, ↓u_sFor, ↓u_iLs, ↓u_tLs, ↓u_tC, ↓u_tTp, List.length_cons, List.length_nil, Nat.reduceAdd, Nat.reduceLeDiff, ↓u_lsI_ref, upD_same, Option.some.injEq, DO.lst.injEq, exists_eq_left', true_and, ↓u_slot, ↓u_WdE, ↓u_asR]
      refine ⟨⟨_, s.e _ _ g1⟩, a, n, rs, rfl, hw'.ext s.e, fun p8 hp8 => ?_⟩
      simp only [↓u_rIx_ref, upD_same, Option.some.injEq, exists_eq_left', ↓u_ixC_lst, atJ hj, roD_def, ↓u_goA_tp, ↓u_goAs_cons, ↓u_goA_nm, ↓u_goAs_nil, List.set, List.getElem?_cons_succ, List.getElem?_cons_zero, ↓u_slot]
      have s8 := s.ext (Ext.new (c := .lst (rs.map roD)) hp8)
      generalize upD H p8 (.lst (rs.map roD)) = H8 at s8 ⊢
      intro p9 hp9
      have s9 := s8.ext (Ext.new (c := .lst [D.tup [D.int r.o, D.int r.t], D.tup [D.int r.t, D.int r.o]]) hp9)
      have f9 : upD H8 p9 (.lst [D.tup [D.int r.o, D.int r.t], D.tup [D.int r.t, D.int r.o]]) p9 = some (.lst [D.tup [D.int r.o, D.int r.t], D.tup [D.int r.t, D.int r.o]]) := upD_same
      have n96 : p9 ≠ p6 := neD' s8.g6 hp9
      have n97 : p9 ≠ p7 := neD' s8.g7 hp9
      generalize upD H8 p9 (.lst [D.tup [D.int r.o, D.int r.t], D.tup [D.int r.t, D.int r.o]]) = H9 at s9 f9 ⊢
      refine loop_inv' (I := ⟨[D.tup [D.int r.o, D.int r.t], D.tup [D.int r.t, D.int r.o]], fun H => H p9 = some (.lst [D.tup [D.int r.o, D.int r.t], D.tup [D.int r.t, D.int r.o]])⟩) (fun k ρ H => ∃ (kvs : List (Key × D)) (wt : List Int) (z13 z14 : Option D), ρ = [some (.ref a), some (.int (i : Int)), some (.ref p2), some (.int r0.o), some (.int r0.t), some (.int r0.c), some (.ref p6), some (.ref p7), some (.int here), some (.int (j : Int)), some (.int r.o), some (.int r.t), some (.int r.c), z13, z14] ∧
          SrSt rs r0.o Hd H p2 p6 p7 kvs wt ∧ (lookP kvs (.inl here)).isSome ∧ (∀ h, (lookP kvs (.inl h)).isSome → h = here ∨ h ∈ wt ∨ Clo rs kvs h) ∧ wt.length + 2 * cntK rs kvs < M ∧
          (∀ (j' j : Nat) (r : Rd), j' < ix → (kru rs)[j']? = some (j : Int) → rs[j]? = some r → (r.o = here → (lookP kvs (.inl r.t)).isSome) ∧ (r.t = here → (lookP kvs (.inl r.o)).isSome)) ∧
          H p9 = some (.lst [D.tup [D.int r.o, D.int r.t], D.tup [D.int r.t, D.int r.o]]) ∧ (0 < k → r.o = here → (lookP kvs (.inl r.t)).isSome) ∧ (1 < k → r.t = here → (lookP kvs (.inl r.o)).isSome)) ?_ ?_ ?_
      · exact ⟨kvs, wt, _, _, rfl, s9, hbh, hc, hm, hdone, f9, fun z => by omega, fun z => by omega⟩
      · rintro k d ρ H' hdk ⟨kvs, wt, z13, z14, rfl, s, hbh, hc, hm, hdone, f9, q0, q1⟩
        obtain ⟨b, e, rfl, hbe⟩ : ∃ b e, d = D.tup [.int b, .int e] ∧ ((b = r.o ∧ e = r.t ∧ k = 0) ∨ (b = r.t ∧ e = r.o ∧ k = 1)) := by
          match k, hdk with
          | 0, h => cases h; exact ⟨_, _, rfl, .inl ⟨rfl, rfl, rfl⟩⟩
          | 1, h => cases h; exact ⟨_, _, rfl, .inr ⟨rfl, rfl, rfl⟩⟩
        refine ⟨f9, fun N2 B2 hN2 _ => ?_⟩
        have fin : ∀ (kvs' : List (Key × D)), (∀ h, (lookP kvs (.inl h)).isSome → (lookP kvs' (.inl h)).isSome) → (b = here → (lookP kvs' (.inl e)).isSome) → (0 < k + 1 → r.o = here → (lookP kvs' (.inl r.t)).isSome) ∧ (1 < k + 1 → r.t = here → (lookP kvs' (.inl r.o)).isSome) := by
          intro kvs' mono hnew
          rcases hbe with ⟨rfl, rfl, rfl⟩ | ⟨rfl, rfl, rfl⟩
          · exact ⟨fun _ => hnew, fun z => by omega⟩
          · exact ⟨fun _ z => mono _ (q0 (by omega) z), fun _ => hnew⟩
        simp only [↓u_goA_tp, ↓u_goAs_cons, ↓u_goA_nm, ↓u_goAs_nil, ↓u_sIf, ↓u_tAn, ↓u_tTs, ↓u_tO, ↓u_tV, List.set, List.getElem?_cons_succ, List.getElem?_cons_zero, ↓u_sSeq, ↓u_sSub, ↓u_tLs, ↓u_tC, ↓u_tN, List.length_cons, List.length_nil, Nat.reduceAdd, Nat.reduceLeDiff, ↓u_slot, ↓u_asR, true_and, ↓u_rIx_ref, ↓u_sNx, ↓u_rInG_ref, Bool.false_eq_true, if_false, ↓u_rEq_int, ↓u_asB, decide_eq_true_eq, s.g6, Option.some.injEq, exists_eq_left', ↓u_inC_K, ↓u_ixC_K]
        by_cases c2 : b = here
        rotate_left
        · rw [if_neg c2]
          obtain ⟨w0, w1⟩ := fin kvs (fun _ h => h) fun z => absurd z c2
          exact hN2 _ _ ⟨kvs, wt, _, _, rfl, s, hbh, hc, hm, hdone, f9, w0, w1⟩
        rw [if_pos c2]
        cases he : lookP kvs (.inl e) with
        | some d0 =>
          rw [if_neg (by simp)]
          obtain ⟨w0, w1⟩ := fin kvs (fun _ h => h) fun _ => by rw [he]; rfl
          exact hN2 _ _ ⟨kvs, wt, _, _, rfl, s, hbh, hc, hm, hdone, f9, w0, w1⟩
        | none =>
          rw [if_pos (by simp)]
          obtain ⟨d0, hd0⟩ := Option.isSome_iff_exists.mp hbh
          obtain ⟨ps, vs, pq, rfl, b1, b2, b3, b4, b5, b6, b7⟩ := s.a _ _ hd0
          refine ⟨.ref pq, hd0, ?_⟩
          intro pa hpa
          refine ⟨_, _, upD_old b4 hpa, upD_same, ?_, fun pb hpb => ?_⟩
          · have := s.l
            rw [List.length_map, List.length_singleton, sizeLine_eq]
            omega
          have sa := s.ext (Ext.new (c := .lst [D.int (j : Int)]) hpa)
          have sb := sa.ext (Ext.new (c := .lst (ps.map D.int ++ [D.int (j : Int)])) hpb)
          have gb : upD (upD H' pa (.lst [D.int (j : Int)])) pb (.lst (ps.map D.int ++ [D.int (j : Int)])) pb = some (.lst ((ps ++ [(j : Int)]).map D.int)) := by rw [upD_same]; simp
          have nb6 : pb ≠ p6 := neD' sa.g6 hpb
          have nb7 : pb ≠ p7 := neD' sa.g7 hpb
          have hb := Ext.none sa.e hpb
          have f9b : upD (upD H' pa (.lst [D.int (j : Int)])) pb (.lst (ps.map D.int ++ [D.int (j : Int)])) p9 = _ := upD_old (upD_old f9 hpa) hpb
          generalize upD (upD H' pa (.lst [D.int (j : Int)])) pb (.lst (ps.map D.int ++ [D.int (j : Int)])) = Hb at sb gb f9b ⊢
          simp only [sb.g6, Option.some.injEq, exists_eq_left', ↓u_sbC_dK, ↓u_sDrop, ↓u_tBm, ↓u_tV, List.getElem?_cons_succ, List.getElem?_cons_zero, ↓u_tC, ↓u_tN, ↓u_rApp, ↓u_slot, ↓u_asR]
          refine ⟨by have := s.l; rw [sizeLine_eq]; omega, ?_⟩
          rw [putP_new he, upD_ne n76, sb.g7]
          refine ⟨⟨_, rfl⟩, _, rfl, ?_, ?_⟩
          · rw [List.length_map]
            have := hm
            omega
          have hmem : r ∈ rs := List.mem_of_getElem? hj
          have wy : Way rs (kru rs) r0.o (ps ++ [(j : Int)]) e (vs ++ [e]) := by
            have hnv : e ∉ vs := fun z => by have := b7 e z; rw [he] at this; cases this
            rcases hbe with ⟨e1, e2, _⟩ | ⟨e1, e2, _⟩
            · subst e1 e2; exact .fwd b6 hjk hj c2 hnv
            · subst e1 e2; exact .bwd b6 hjk hj c2 hnv
          have hee : e ∈ endsOf rs := by
            rcases hbe with ⟨_, e2, _⟩ | ⟨_, e2, _⟩
            · rw [e2]; exact ends_t hmem
            · rw [e2]; exact ends_o hmem
          have si := sb.ins h6 h7 n26 n27 n76.symm hb nb6 nb7 gb he hee (by rw [List.length_append, List.length_singleton]; omega) wy b7
          have cl := cntK_lt (rs := rs) (v := D.ref pb) hee he
          have hne : (lookP (kvs ++ [(Sum.inl e, D.ref pb)]) (.inl e)).isSome := by rw [lookP_app, he]; simp
          obtain ⟨w0, w1⟩ := fin (kvs ++ [(Sum.inl e, D.ref pb)]) (fun _ h => some_app h) fun _ => hne
          refine hN2 _ _ ⟨_, wt ++ [e], _, _, rfl, ?_, some_app hbh, fun h hh => ?_, ?_, fun j' j r h1 h2 h3 => ⟨fun z => some_app ((hdone j' j r h1 h2 h3).1 z), fun z => some_app ((hdone j' j r h1 h2 h3).2 z)⟩, ?_, w0, w1⟩
          · have e3 : (wt ++ [e]).map D.int = wt.map D.int ++ [D.int e] := by simp
            rw [e3] at si
            exact si
          · rw [lookP_app] at hh
            by_cases z : e = h
            · exact .inr (.inl (by rw [z]; simp))
            · have z' : ¬ ((Sum.inl e : Key) = .inl h) := fun q => z (by injection q)
              rw [if_neg z', Option.or_none] at hh
              rcases hc h hh with y | y | y
              · exact .inl y
              · exact .inr (.inl (List.mem_append_left _ y))
              · exact .inr (.inr y.app)
          · rw [List.length_append, List.length_singleton]; omega
          · rw [upD_ne n97, upD_ne n96]; exact f9b
      · rintro ρ H' ⟨kvs, wt, z13, z14, rfl, s, hbh, hc, hm, hdone, f9, q0, q1⟩
        refine ⟨f9, hN _ _ ⟨kvs, wt, _, _, _, _, _, _, rfl, s, hbh, hc, hm, fun j' j2 r2 h1 h2 h3 => ?_⟩⟩
        rcases Nat.lt_succ_iff_lt_or_eq.mp h1 with z | z
        · exact hdone j' j2 r2 z h2 h3
        · subst z
          rw [hx] at h2
          have e : j = j2 := by have := Option.some.inj h2; omega
          subst e
          rw [hj] at h3
          cases h3
          exact ⟨q0 (by show 0 < 2; omega), q1 (by show 1 < 2; omega)⟩
    · rintro ρ H ⟨kvs, wt, z9, z10, z11, z12, z13, z14, rfl, s, hbh, hc, hm, hdone⟩
      refine ⟨s.g2, _, hm, kvs, wt, _, _, _, _, _, _, _, rfl, s, fun h hh => ?_, rfl, by omega⟩
      rcases hc h hh with rfl | y | y
      · refine .inr fun j r hj hr => ?_
        obtain ⟨j', hj'⟩ := List.getElem?_of_mem hj
        exact hdone j' j r (by show j' < ((kru rs).map D.int).length; rw [List.length_map]; exact (List.getElem?_eq_some_iff.mp hj').1) hj' hr
      · exact .inl y
      · exact .inr y
end Lt


end
section
set_option Elab.async false
set_option linter.all false
set_option maxRecDepth 100000
set_option maxHeartbeats 4000000
namespace Lt
open PySem PySem.Spec L2
theorem lookP_put {κ α : Type} [DecidableEq κ] {kvs : List (κ × α)} {k k' : κ} {v : α} : lookP (putP kvs k v) k' = if k = k' then some v else lookP kvs k' := by
  by_cases h : (kvs.any fun kv => decide (kv.1 = k)) = true
  · unfold putP
    rw [if_pos h]
    unfold lookP
    by_cases e : k = k'
    · subst e
      rw [if_pos rfl]
      induction kvs with
      | nil => simp at h
      | cons x kvs ih =>
        rw [List.map_cons, List.find?_cons]
        by_cases ex : x.1 = k
        · simp [ex]
        · have h' : (kvs.any fun kv => decide (kv.1 = k)) = true := by simpa [ex] using h
          rw [if_neg ex]
          simp only [ex, decide_false]
          exact ih h'
    · rw [if_neg e]
      congr 1
      clear h
      induction kvs with
      | nil => rfl
      | cons x kvs ih =>
        rw [List.map_cons, List.find?_cons, List.find?_cons]
        by_cases ex : x.1 = k
        · have : ¬ x.1 = k' := fun z => e (ex.symm.trans z)
          rw [if_pos ex]
          simp only [this, decide_false]
          exact ih
        · rw [if_neg ex]
          by_cases ex' : x.1 = k'
          · simp only [ex', decide_true]
          · simp only [ex', decide_false]
            exact ih
  · have hn : lookP kvs k = none := by
      unfold lookP
      rw [Option.map_eq_none_iff, List.find?_eq_none]
      intro x hx z
      exact h (List.any_eq_true.mpr ⟨x, hx, z⟩)
    rw [putP_new hn, lookP_app]
    by_cases e : k = k'
    · subst e; rw [hn, if_pos rfl]; rfl
    · rw [if_neg e, if_neg e, Option.or_none]
theorem putP_len {κ α : Type} [DecidableEq κ] {kvs : List (κ × α)} {k : κ} {v : α} : (putP kvs k v).length ≤ kvs.length + 1 := by
  unfold putP
  split
  · rw [List.length_map]; omega
  · rw [List.length_append]; simp
theorem costNums_rg {rs : List Rd} : costNums rs = (rgI rs.length).map fun x => ((rs[x.toNat]?.getD ⟨0, 0, 0⟩).c, x) := by
  refine List.ext_getElem? fun i => ?_
  unfold costNums rgI
  rw [List.map_map, List.getElem?_map, List.getElem?_map, List.getElem?_zipIdx]
  by_cases h : i < rs.length
  · rw [List.getElem?_range h, List.getElem?_eq_getElem h]
    simp [h]
  · rw [List.getElem?_eq_none (by omega), List.getElem?_eq_none (by simp; omega)]
    rfl
/-- what stands of a hand's piece -/
def PVal (kvs : List (Key × D)) (H : HD) (p1 p2 : Addr) (h : Int) (ps : List Int) : Prop :=
  (lookP kvs (.inl h) = none ∧ ps = [h]) ∨ ∃ q, lookP kvs (.inl h) = some (.ref q) ∧ H q = some (.lst (ps.map D.int)) ∧ q ≠ p1 ∧ q ≠ p2
theorem PVal.ext {kvs : List (Key × D)} {H H' : HD} {p1 p2 : Addr} {h : Int} {ps : List Int} (v : PVal kvs H p1 p2 h ps) (e : ∀ q c, q ≠ p1 → q ≠ p2 → H q = some c → H' q = some c) : PVal kvs H' p1 p2 h ps := by
  rcases v with v | ⟨q, h1, h2, h3, h4⟩
  · exact .inl v
  · exact .inr ⟨q, h1, e _ _ h3 h4 h2, h3, h4⟩
theorem PVal.get {kvs : List (Key × D)} {H : HD} {p1 p2 q1 : Addr} {h : Int} {ps : List Int} (v : PVal kvs H p1 p2 h ps) (g : H q1 = some (.lst [D.int h])) (n1 : q1 ≠ p1) (n2 : q1 ≠ p2) :
    ∃ q, (lookP kvs (.inl h)).getD (.ref q1) = .ref q ∧ H q = some (.lst (ps.map D.int)) ∧ q ≠ p1 ∧ q ≠ p2 := by
  rcases v with ⟨v, rfl⟩ | ⟨q, h1, h2, h3, h4⟩
  · exact ⟨q1, by rw [v]; rfl, g, n1, n2⟩
  · exact ⟨q, by rw [h1]; rfl, h2, h3, h4⟩
theorem piece_len {rs kept : List Rd} {h : Int} {ps : List Int} (nd : ps.Nodup) (hk : ∀ r ∈ kept, r ∈ rs) (hm : ∀ x, x ∈ ps ↔ Rch kept h x) : ps.length ≤ 2 * rs.length + 1 := by
  have : ps.length ≤ (h :: endsOf rs).length := by
    refine List.Nodup.length_le_of_subset nd fun x hx => ?_
    have := (hm x).mp hx
    cases this with
    | base => exact List.mem_cons_self ..
    | fwd h1 _ => exact List.mem_cons_of_mem _ (ends_t (hk _ h1))
    | bwd h1 _ => exact List.mem_cons_of_mem _ (ends_o (hk _ h1))
  rw [List.length_cons, ends_length] at this
  exact this
def t__law_tree (c : CA) (Ed : XD) : TSD :=
  (sSeq (sAsg tDK (.nm 1))
    (sSeq (sAsg (tLs tN) (.nm 2))
    (sSeq (sFor (iLs (tCb rSorted (tC (tLcG (iR1 (tC (tCb rLen (tC (tV 0) tN)) tN)) (.nm 4) tYs (tTp (tC (tO rIx (tO rIx (tV 0) (tV 4)) (tK (.int 2))) (tC (tV 4) tN))) [4]) tN))) (.tp [(.nm 3), (.nm 4)])
    (sSeq (sAsg (tGet2 (tV 1) (tO rIx (tO rIx (tV 0) (tV 4)) (tK (.int 0))) (tLs (tC (tO rIx (tO rIx (tV 0) (tV 4)) (tK (.int 0))) tN))) (.nm 5))
    (sSeq (sAsg (tGet2 (tV 1) (tO rIx (tO rIx (tV 0) (tV 4)) (tK (.int 1))) (tLs (tC (tO rIx (tO rIx (tV 0) (tV 4)) (tK (.int 1))) tN))) (.nm 6))
    (sIf (tTs (tO (rInG not) (tO rIx (tO rIx (tV 0) (tV 4)) (tK (.int 1))) (tV 5))) (sSeq (sDrop (tBm rApp (tV 2) (tC (tV 4) tN)))
    (sFor (iLs (tO rAdd (tV 5) (tV 6))) (.nm 7)
    (sSub (tO rAdd (tV 5) (tV 6)) (tV 1) (tV 7)))) sNx))))
    (sRet (tCb rSorted (tC (tV 2) tN))))))
theorem len__law_tree : ∀ c ds H Q E, sp__law_tree c ds H Q E → ds.length = (["_law_roads"] : List Str).length := by intro c ds H Q E h; first | (obtain ⟨_, _, _, _, _, _, _, _, _, _, _, _, rfl, _⟩ := h; rfl) | (obtain ⟨_, _, _, _, _, _, _, _, _, _, _, rfl, _⟩ := h; rfl) | (obtain ⟨_, _, _, _, _, _, _, _, _, _, rfl, _⟩ := h; rfl) | (obtain ⟨_, _, _, _, _, _, _, _, _, rfl, _⟩ := h; rfl) | (obtain ⟨_, _, _, _, _, _, _, _, rfl, _⟩ := h; rfl) | (obtain ⟨rfl, _⟩ := h; rfl) | (obtain ⟨_, rfl, _⟩ := h; rfl) | (obtain ⟨_, _, rfl, _⟩ := h; rfl) | (obtain ⟨_, _, _, rfl, _⟩ := h; rfl) | (obtain ⟨_, _, _, _, rfl, _⟩ := h; rfl) | (obtain ⟨_, _, _, _, _, rfl, _⟩ := h; rfl) | (obtain ⟨_, _, _, _, _, _, rfl, _⟩ := h; rfl) | (obtain ⟨_, _, _, _, _, _, _, rfl, _⟩ := h; rfl)
theorem rd__law_tree (c : CA) (Ed : XD) (ds : List D) (Hd : HD) (Qd : QD) (h : sp__law_tree c ds Hd Qd Ed) : t__law_tree c Ed { nx := fun _ H' => Qd .non H', rt := Qd } (startD ["_law_roads", "_law_pieces", "_law_found", "_law_cost", "_law_number", "_law_one", "_law_other", "_law_hand"] ds) Hd := by
  obtain ⟨a, rs, rfl, ha, hl, k⟩ := h
  unfold t__law_tree
  simp only [↓u_sSeq, ↓u_sAsg, ↓u_tDK, ↓u_goA_nm, ↓u_tLs, ↓u_tN, List.length_nil, Nat.zero_le, ↓u_sFor, ↓u_iLs, ↓u_tCb, ↓u_tC, ↓u_tLcG, ↓u_iR1, ↓u_tV, startD, List.map, List.length_cons, Nat.reduceAdd, Nat.reduceSub, List.replicate, List.cons_append, List.nil_append, List.set, List.getElem?_cons_zero, ↓u_wipe_cons, ↓u_wipe_nil, ↓u_slot, ↓u_rLen_ref, true_and]
  intro p1 hp1 p2 hp2
  have ha2 : upD (upD Hd p1 (.dK [])) p2 (.lst []) a = some (.lst (rs.map roD)) := upD_old (upD_old ha hp1) hp2
  simp only [ha2, Option.some.injEq, exists_eq_left', ↓u_lnC_lst, ↓u_r1I, List.length_map]
  refine ⟨⟨by omega, by omega⟩, fun p3 hp3 => ?_⟩
  have x2 : Ext Hd (upD (upD Hd p1 (.dK [])) p2 (.lst [])) := (Ext.new hp1).trans (.new hp2)
  have n21 := upD_noneNe hp2
  have h2 : Hd p2 = none := upD_none hp2
  have f1 : upD (upD Hd p1 (.dK [])) p2 (.lst []) p1 = some (.dK []) := upD_old upD_same hp2
  have f2 : upD (upD Hd p1 (.dK [])) p2 (.lst []) p2 = some (.lst []) := upD_same
  generalize upD (upD Hd p1 (.dK [])) p2 (.lst []) = H2 at x2 f1 f2 ha2 hp3 ⊢
  rw [Int.toNat_natCast, rngD_rgI]
  refine lc_map D.int (fun x => prD ((rs[x.toNat]?.getD ⟨0, 0, 0⟩).c, x)) hp3 (by rw [rgI_length]; omega) (fun _ _ => trivial) (fun i x H K hx e h3 => ?_) (fun H3 x3 f3 => ?_)
  · have hxm := rgI_mem.mp (List.mem_of_getElem? hx)
    obtain ⟨j, rfl⟩ := Int.eq_ofNat_of_zero_le hxm.1
    obtain ⟨r, hr⟩ : ∃ r, rs[j]? = some r := ⟨_, List.getElem?_eq_getElem (by omega)⟩
    simp only [↓u_goA_nm, ↓u_tTp, ↓u_tC, ↓u_tO, ↓u_tV, List.set, List.getElem?_cons_zero, List.getElem?_cons_succ, ↓u_tK, ↓u_tN, List.length_cons, List.length_nil, Nat.reduceAdd, Nat.reduceLeDiff, true_and, ↓u_slot, ↓u_rIx_ref, e _ _ ha2, Option.some.injEq, exists_eq_left', ↓u_ixC_lst, atJ hr, roD_def, ↓u_rIx_tup, ↓u_at2]
    have := h3 H (.refl H)
    rw [Int.toNat_natCast, hr] at this
    exact this
  · have f3' : H3 p3 = some (.lst ((costNums rs).map prD)) := by rw [f3, costNums_rg, List.map_map]; rfl
    refine rSorted_prs f3' fun p5 hp5 => ?_
    simp only [↓u_lsI_ref, upD_same, Option.some.injEq, DO.lst.injEq, exists_eq_left']
    have x5 : Ext H2 (upD H3 p5 (.lst ((sortP (costNums rs)).map prD))) := x3.trans (.new hp5)
    have f55 : upD H3 p5 (.lst ((sortP (costNums rs)).map prD)) p5 = some (.lst ((sortP (costNums rs)).map prD)) := upD_same
    have n51 : p5 ≠ p1 := neD' (x3 _ _ f1) hp5
    have n52 : p5 ≠ p2 := neD' (x3 _ _ f2) hp5
    generalize upD H3 p5 (.lst ((sortP (costNums rs)).map prD)) = H5 at x5 f55 ⊢
    have hls : (sortP (costNums rs)).length = rs.length := by rw [(sortP_perm _).length_eq, costNums_length]
    refine loop_inv' (I := ⟨(sortP (costNums rs)).map prD, fun H => H p5 = some (.lst ((sortP (costNums rs)).map prD))⟩) (fun i ρ H => ∃ (kvs : List (Key × D)) (z3 z4 z5 z6 z7 : Option D), ρ = [some (.ref a), some (.ref p1), some (.ref p2), z3, z4, z5, z6, z7] ∧ Ext Hd H ∧ H p5 = some (.lst ((sortP (costNums rs)).map prD)) ∧
        H p2 = some (.lst ((kRun rs ((sortP (costNums rs)).take i)).2.map D.int)) ∧ H p1 = some (.dK kvs) ∧ kvs.length ≤ 300 * i ∧
        ∀ h, ∃ ps, PVal kvs H p1 p2 h ps ∧ ps.Nodup ∧ ∀ x, x ∈ ps ↔ Rch (kRun rs ((sortP (costNums rs)).take i)).1 h x) ?_ ?_ ?_
    · refine ⟨[], _, _, _, _, _, rfl, x2.trans x5, f55, x5 _ _ f2, x5 _ _ f1, by simp, fun h => ⟨[h], .inl ⟨rfl, rfl⟩, by simp, fun x => ⟨fun z => by rw [List.mem_singleton.mp z]; exact .base, fun z => ?_⟩⟩⟩
      cases z with
      | base => simp
      | fwd h1 _ => cases h1
      | bwd h1 _ => cases h1
    · rintro i d ρ H hdi ⟨kvs, z3, z4, z5, z6, z7, rfl, e, e5, e2, e1, hkl, hv⟩
      obtain ⟨q, hq, rfl⟩ := getMap hdi
      obtain ⟨j, r, hj, rfl⟩ := sortP_mem hq
      refine ⟨e5, fun N B hN _ => ?_⟩
      have hkt := kRun_take (rs := rs) hq
      have hi : i < rs.length := by rw [← hls]; exact (List.getElem?_eq_some_iff.mp hq).1
      obtain ⟨l1, l2⟩ := kRun_len (rs := rs) ((sortP (costNums rs)).take i)
      rw [List.length_take] at l1 l2
      have hsub := (kRun_sub (rs := rs) ((sortP (costNums rs)).take i)).2
      simp only [prD_def]
      simp only [↓u_goA_tp, ↓u_goAs_cons, ↓u_goA_nm, ↓u_goAs_nil, ↓u_sSeq, ↓u_sAsg, ↓u_tGet2, ↓u_tV, List.set, List.getElem?_cons_succ, List.getElem?_cons_zero, ↓u_tO, ↓u_tK, ↓u_tLs, ↓u_tC, ↓u_tN, List.length_cons, List.length_nil, Nat.reduceAdd, Nat.reduceLeDiff, ↓u_DG, ↓u_sIf, ↓u_tTs, ↓u_sDrop, ↓u_tBm, ↓u_rApp, ↓u_sFor, ↓u_iLs, ↓u_slot, ↓u_asR, ↓u_sNx, ↓u_rIx_ref, true_and, e _ _ ha, Option.some.injEq, exists_eq_left', ↓u_ixC_lst, atJ hj, roD_def, ↓u_rIx_tup, ↓u_at0, e1, ↓u_isD_K]
      intro q1 hq1
      have x6 : Ext H (upD H q1 (.lst [D.int r.o])) := .new hq1
      have fq1 : upD H q1 (.lst [D.int r.o]) q1 = some (.lst [D.int r.o]) := upD_same
      have nq11 : q1 ≠ p1 := neD' e1 hq1
      have nq12 : q1 ≠ p2 := neD' e2 hq1
      generalize upD H q1 (.lst [D.int r.o]) = H6 at x6 fq1 ⊢
      obtain ⟨po, vo, ndo, hmo⟩ := hv r.o
      obtain ⟨qo, eo, fo, no1, no2⟩ := (vo.ext fun q c _ _ h => x6 q c h).get fq1 nq11 nq12
      simp only [x6 _ _ e1, Option.some.injEq, exists_eq_left', ↓u_isD_K, x6 _ _ (e _ _ ha), ↓u_ixC_lst, atJ hj, roD_def, ↓u_rIx_tup, ↓u_at1, true_and, ↓u_dgC_K, eo, ↓u_rInG_ref]
      intro q2 hq2
      have x7 : Ext H6 (upD H6 q2 (.lst [D.int r.t])) := .new hq2
      have fq2 : upD H6 q2 (.lst [D.int r.t]) q2 = some (.lst [D.int r.t]) := upD_same
      have nq21 : q2 ≠ p1 := neD' (x6 _ _ e1) hq2
      have nq22 : q2 ≠ p2 := neD' (x6 _ _ e2) hq2
      generalize upD H6 q2 (.lst [D.int r.t]) = H7 at x7 fq2 ⊢
      obtain ⟨pt, vt, ndt, hmt⟩ := hv r.t
      have x67 := x6.trans x7
      obtain ⟨qt, et, ft, nt1, nt2⟩ := (vt.ext fun q c _ _ h => x67 q c h).get fq2 nq21 nq22
      have fo7 := x7 _ _ fo
      simp only [x67 _ _ e1, Option.some.injEq, x67 _ _ (e _ _ ha), exists_eq_left', ↓u_ixC_lst, atJ hj, roD_def, ↓u_rIx_tup, ↓u_at1, fo7, ↓u_inC_ints, ↓u_asB, x67 _ _ e2, DO.lst.injEq, exists_eq', true_and, ↓u_dgC_K, et, ↓u_rAdd_ref, ↓u_lsI_ref, upD_same]
      by_cases c1 : r.t ∈ po
      · rw [if_neg (by simp [c1])]
        have hk2 := hkt.trans (kStep_yes hj ((hmo r.t).mp c1))
        refine hN _ _ ⟨kvs, _, _, _, _, _, rfl, e.trans x67, x67 _ _ e5, by rw [hk2]; exact x67 _ _ e2, x67 _ _ e1, by omega, fun h => ?_⟩
        obtain ⟨ps, v1, v2, v3⟩ := hv h
        exact ⟨ps, v1.ext fun q c _ _ h => x67 q c h, v2, by rw [hk2]; exact v3⟩
      rw [if_pos (by simp [c1])]
      have hnr : ¬ Rch (kRun rs ((sortP (costNums rs)).take i)).1 r.o r.t := fun z => c1 ((hmo r.t).mpr z)
      have hk2 := hkt.trans (kStep_no hj hnr)
      have lo := piece_len ndo hsub hmo
      have lt := piece_len ndt hsub hmt
      refine ⟨by rw [List.length_map]; omega, po.map D.int, pt.map D.int, by rw [upD_ne no2]; exact fo7, by rw [upD_ne nt2]; exact ft, by rw [List.length_map, List.length_map, sizeLine_eq]; omega, fun p8 hp8 => ?_⟩
      rw [← List.map_append]
      generalize hus : po ++ pt = us
      have hul : us.length ≤ 242 := by rw [← hus, List.length_append]; omega
      have hund : us.Nodup := by
        rw [← hus, List.nodup_append]
        refine ⟨ndo, ndt, fun x hx y hy => ?_⟩
        rintro rfl
        exact hnr (((hmo x).mp hx).trans ((hmt x).mp hy).symm)
      have humem : ∀ x, x ∈ us ↔ Rch (kRun rs ((sortP (costNums rs)).take i)).1 r.o x ∨ Rch (kRun rs ((sortP (costNums rs)).take i)).1 r.t x := fun x => by
        rw [← hus, List.mem_append, hmo, hmt]
      have hp87 := upD_none hp8
      have n82 := upD_noneNe hp8
      have n81 : p8 ≠ p1 := neD' (x67 _ _ e1) hp87
      have n8o : p8 ≠ qo := neD' fo7 hp87
      have n8t : p8 ≠ qt := neD' ft hp87
      have n85 : p8 ≠ p5 := neD' (x67 _ _ e5) hp87
      have h1 : Hd p1 = none := hp1
      refine loop_inv' (I := ⟨us.map D.int, fun H => H p8 = some (.lst (us.map D.int))⟩) (fun k ρ H => ∃ (kvs : List (Key × D)) (z7 : Option D), ρ = [some (.ref a), some (.ref p1), some (.ref p2), some (.int r.c), some (.int (j : Int)), some (.ref qo), some (.ref qt), z7] ∧ Ext Hd H ∧ H p5 = some (.lst ((sortP (costNums rs)).map prD)) ∧
          H p2 = some (.lst ((kRun rs ((sortP (costNums rs)).take (i + 1))).2.map D.int)) ∧ H p1 = some (.dK kvs) ∧ H p8 = some (.lst (us.map D.int)) ∧ H qo = some (.lst (po.map D.int)) ∧ H qt = some (.lst (pt.map D.int)) ∧ kvs.length ≤ 300 * i + k ∧
          ∀ h, ∃ ps, PVal kvs H p1 p2 h ps ∧ ps.Nodup ∧ (h ∈ us.take k → ∀ x, x ∈ ps ↔ x ∈ us) ∧ (h ∉ us.take k → ∀ x, x ∈ ps ↔ Rch (kRun rs ((sortP (costNums rs)).take i)).1 h x)) ?_ ?_ ?_
      · refine ⟨kvs, _, rfl, ((e.trans x67).up h2).trans (.new hp8), ?_, ?_, ?_, upD_same, ?_, ?_, by omega, fun h => ?_⟩
        · rw [upD_ne n85.symm, upD_ne n52]; exact x67 _ _ e5
        · rw [upD_ne n82.symm, upD_same, hk2]; simp
        · rw [upD_ne n81.symm, upD_ne n21.symm]; exact x67 _ _ e1
        · rw [upD_ne n8o.symm, upD_ne no2]; exact fo7
        · rw [upD_ne n8t.symm, upD_ne nt2]; exact ft
        · obtain ⟨ps, v1, v2, v3⟩ := hv h
          refine ⟨ps, v1.ext fun q c m1 m2 hh => ?_, v2, fun z => by simp at z, fun _ => v3⟩
          rw [upD_ne (neD (x67 _ _ hh) hp87), upD_ne m2]
          exact x67 _ _ hh
      · rintro k2 d ρ H' hdk ⟨kvs, z7, rfl, e, e5, e2, e1, e8, eo', et', hkl, hv⟩
        obtain ⟨x, hx, rfl⟩ := getMap hdk
        refine ⟨e8, fun N2 B2 hN2 _ => ?_⟩
        have hk2l : k2 < us.length := (List.getElem?_eq_some_iff.mp hx).1
        simp only [↓u_goA_nm, ↓u_sSub, ↓u_tO, ↓u_tV, List.set, List.getElem?_cons_succ, List.getElem?_cons_zero, ↓u_slot, ↓u_asR, ↓u_rAdd_ref, eo', Option.some.injEq, DO.lst.injEq, et']
        refine ⟨_, _, rfl, rfl, by rw [List.length_map, List.length_map, sizeLine_eq]; omega, fun pn hpn => ?_⟩
        rw [← List.map_append, hus]
        refine ⟨_, upD_old e1 hpn, ?_⟩
        simp only [↓u_sbC_dK]
        have nn1 : pn ≠ p1 := neD' e1 hpn
        have nn2 : pn ≠ p2 := neD' e2 hpn
        have nn5 : pn ≠ p5 := neD' e5 hpn
        have nn8 : pn ≠ p8 := neD' e8 hpn
        have nno : pn ≠ qo := neD' eo' hpn
        have nnt : pn ≠ qt := neD' et' hpn
        have n81' : p8 ≠ p1 := n81
        refine ⟨by rw [sizeLine_eq]; omega, hN2 _ _ ⟨putP kvs (.inl x) (.ref pn), _, rfl, (e.trans (.new hpn)).up h1, ?_, ?_, upD_same, ?_, ?_, ?_, ?_, fun h => ?_⟩⟩
        · rw [upD_ne n51, upD_ne nn5.symm]; exact e5
        · rw [upD_ne n21, upD_ne nn2.symm]; exact e2
        · rw [upD_ne n81, upD_ne nn8.symm]; exact e8
        · rw [upD_ne no1, upD_ne nno.symm]; exact eo'
        · rw [upD_ne nt1, upD_ne nnt.symm]; exact et'
        · have := putP_len (kvs := kvs) (k := Sum.inl x) (v := D.ref pn); omega
        · have htk : us.take (k2 + 1) = us.take k2 ++ [x] := by
            have := map_take (f := id) hx
            simpa using this
          by_cases exh : x = h
          · subst exh
            refine ⟨us, .inr ⟨pn, by rw [lookP_put, if_pos rfl], by rw [upD_ne nn1, upD_same], nn1, nn2⟩, hund, fun _ _ => Iff.rfl, fun z => absurd (by rw [htk]; simp) z⟩
          · obtain ⟨ps, v1, v2, v3, v4⟩ := hv h
            have exh' : ¬ ((Sum.inl x : Key) = .inl h) := fun q => exh (by injection q)
            refine ⟨ps, ?_, v2, fun z => v3 ?_, fun z => v4 ?_⟩
            · rcases v1 with ⟨w1, w2⟩ | ⟨q, w1, w2, w3, w4⟩
              · exact .inl ⟨by rw [lookP_put, if_neg exh']; exact w1, w2⟩
              · exact .inr ⟨q, by rw [lookP_put, if_neg exh']; exact w1, by rw [upD_ne w3, upD_ne (neD w2 hpn)]; exact w2, w3, w4⟩
            · rw [htk] at z
              rcases List.mem_append.mp z with z | z
              · exact z
              · exact absurd (List.mem_singleton.mp z).symm exh
            · intro y
              exact z (by rw [htk]; exact List.mem_append_left _ y)
      · rintro ρ H' ⟨kvs, z7, rfl, e, e5, e2, e1, e8, eo', et', hkl, hv⟩
        refine ⟨e8, hN _ _ ⟨kvs, _, _, _, _, _, rfl, e, e5, e2, e1, ?_, fun h => ?_⟩⟩
        · rw [show (ItD.mk (us.map D.int) fun H => H p8 = some (.lst (us.map D.int))).ds.length = us.length from List.length_map ..] at hkl
          omega
        · obtain ⟨ps, v1, v2, v3, v4⟩ := hv h
          rw [show (ItD.mk (us.map D.int) fun H => H p8 = some (.lst (us.map D.int))).ds.length = us.length from List.length_map .., List.take_length] at v3 v4
          refine ⟨ps, v1, v2, fun x => ?_⟩
          rw [hk2]
          show x ∈ ps ↔ Rch ((kRun rs ((sortP (costNums rs)).take i)).1 ++ [r]) h x
          rw [rch_join]
          by_cases hu : h ∈ us
          · rw [v3 hu x, humem]
            have hs : Rch (kRun rs ((sortP (costNums rs)).take i)).1 h r.o ∨ Rch (kRun rs ((sortP (costNums rs)).take i)).1 h r.t := by
              rcases (humem h).mp hu with z | z
              · exact .inl z.symm
              · exact .inr z.symm
            constructor
            · intro z; exact .inr ⟨hs, z⟩
            · rintro (z | ⟨_, z⟩)
              · rcases (humem h).mp hu with y | y
                · exact .inl (y.trans z)
                · exact .inr (y.trans z)
              · exact z
          · rw [v4 hu x]
            constructor
            · exact .inl
            · rintro (z | ⟨y | y, _⟩)
              · exact z
              · exact absurd ((humem h).mpr (.inl y.symm)) hu
              · exact absurd ((humem h).mpr (.inr y.symm)) hu
    · rintro ρ H ⟨kvs, z3, z4, z5, z6, z7, rfl, e, e5, e2, e1, hkl, hv⟩
      refine ⟨e5, ?_⟩
      rw [show (ItD.mk ((sortP (costNums rs)).map prD) fun H => H p5 = some (.lst ((sortP (costNums rs)).map prD))).ds.length = (sortP (costNums rs)).length from List.length_map .., List.take_length] at e2
      simp only [↓u_sRet, ↓u_tCb, ↓u_tC, ↓u_tV, List.getElem?_cons_succ, List.getElem?_cons_zero, ↓u_tN, ↓u_slot]
      refine rSorted_ints e2 fun p9 hp9 => ?_
      exact k p9 _ (Ext.none e hp9) (e.trans (.new hp9)) upD_same
end Lt


end
section
set_option Elab.async false
set_option linter.all false
set_option maxRecDepth 100000
set_option maxHeartbeats 2000000
/-! Tx: texts of webs: plain laws, specs. -/
namespace Lt
open PySem PySem.Spec L2
open TL (tl numL)
def iS (i : Int) : Str := Str.ofString (toString i)
def hdL (n : Int) : Str := ("hands " : Str) ++ iS n
def roL (r : Rd) : Str := ("road " : Str) ++ iS r.o ++ (" " : Str) ++ iS r.t ++ (" " : Str) ++ iS r.c
def linesOf (n : Int) (rs : List Rd) : List Str := hdL n :: rs.map roL
def textOf (n : Int) (rs : List Rd) : Str := Txt.join ("\n" : Str) (linesOf n rs)
theorem iS_nat (n : Nat) : tl (iS (n : Int)) = numL n := TL.tl_num n
theorem iS_free {i : Int} (h : 0 ≤ i) {s : Nat} (hs : s < 48 ∨ 57 < s) : s ∉ tl (iS i) := by
  obtain ⟨m, rfl⟩ := Int.eq_ofNat_of_zero_le h
  rw [iS_nat]
  exact TL.numL_free hs
theorem iS_digits {i : Int} (h : 0 ≤ i) : ∀ s ∈ tl (iS i), 48 ≤ s ∧ s ≤ 57 := by
  obtain ⟨m, rfl⟩ := Int.eq_ofNat_of_zero_le h
  rw [iS_nat]
  exact TL.numL_digits m
theorem iS_len {i : Int} (h : 0 ≤ i) (h1 : i < 100) : (iS i).length ≤ 2 := by
  obtain ⟨m, rfl⟩ := Int.eq_ofNat_of_zero_le h
  rw [TL.len_tl, iS_nat]
  exact TL.numL_len (by omega) (by omega)
theorem len_app (x y : Str) : (x ++ y).length = x.length + y.length := by
  rw [TL.len_tl, TL.tl_append, List.length_append, ← TL.len_tl, ← TL.len_tl]
structure Low2 (r : Rd) : Prop where
  o0 : 0 ≤ r.o
  o1 : r.o < 100
  t0 : 0 ≤ r.t
  t1 : r.t < 100
  c0 : 0 ≤ r.c
  c1 : r.c < 100
theorem WebOk.low {n : Int} {rs : List Rd} (w : WebOk n rs) : ∀ r ∈ rs, Low2 r := fun r hr => by
  obtain ⟨h1, h2, h3, h4, h5⟩ := w.ok r hr
  have := w.n8
  constructor <;> omega
theorem hdL_len {n : Int} (h : 0 ≤ n) (h1 : n < 100) : (hdL n).length ≤ 8 := by
  have := iS_len h h1
  have e : ("hands " : Str).length = 6 := rfl
  unfold hdL
  rw [len_app]
  omega
theorem roL_len {r : Rd} (h : Low2 r) : (roL r).length ≤ 13 := by
  have h1 := iS_len h.o0 h.o1
  have h2 := iS_len h.t0 h.t1
  have h3 := iS_len h.c0 h.c1
  have e : ("road " : Str).length = 5 := rfl
  have e2 : (" " : Str).length = 1 := rfl
  unfold roL
  rw [len_app, len_app, len_app, len_app, len_app]
  omega
theorem sp_ne {c : Nat} {x : Str} (h : ∀ s ∈ tl x, 48 ≤ s ∧ s ≤ 57) (hc : c < 48) : c ∉ tl x := fun z => by have := h c z; omega
theorem hdL_free {n : Int} (h : 0 ≤ n) : 10 ∉ tl (hdL n) := by
  unfold hdL
  rw [TL.tl_append, List.mem_append, not_or]
  exact ⟨by decide, iS_free h (by omega)⟩
theorem roL_free {r : Rd} (h : Low2 r) : 10 ∉ tl (roL r) := by
  unfold roL
  simp only [TL.tl_append, List.mem_append, not_or]
  exact ⟨⟨⟨⟨⟨by decide, iS_free h.o0 (by omega)⟩, by decide⟩, iS_free h.t0 (by omega)⟩, by decide⟩, iS_free h.c0 (by omega)⟩
theorem split_text {n : Int} {rs : List Rd} (h : 0 ≤ n) (hr : ∀ r ∈ rs, Low2 r) : Txt.split (textOf n rs) ("\n" : Str) = linesOf n rs := by
  refine TL.split_join (s := 10) (S := []) rfl (by decide +kernel) (by unfold linesOf; simp) fun p hp => ?_
  unfold linesOf at hp
  rcases List.mem_cons.mp hp with e | e
  · rw [e]; exact hdL_free h
  · obtain ⟨r, hr1, rfl⟩ := List.mem_map.mp e
    exact roL_free (hr r hr1)
theorem split_hd {n : Int} (h : 0 ≤ n) : Txt.split (hdL n) (" " : Str) = [("hands" : Str), iS n] := by
  have e : hdL n = Txt.join (" " : Str) [("hands" : Str), iS n] := by
    rw [TL.join_eq]
    show ("hands " : Str) ++ iS n = ("hands" : Str) ++ (" " : Str) ++ iS n
    rfl
  rw [e]
  refine TL.split_join (s := 32) (S := []) rfl (by decide +kernel) (by simp) fun p hp => ?_
  rcases List.mem_cons.mp hp with e | e
  · rw [e]; decide
  · rw [List.mem_singleton.mp e]; exact iS_free h (by omega)
theorem split_ro {r : Rd} (h : Low2 r) : Txt.split (roL r) (" " : Str) = [("road" : Str), iS r.o, iS r.t, iS r.c] := by
  have e : roL r = Txt.join (" " : Str) [("road" : Str), iS r.o, iS r.t, iS r.c] := by
    rw [TL.join_eq]
    refine TL.map_tl_inj (l := [_]) (m := [_]) ?_ |> fun z => (List.cons.inj z).1
    show [tl (roL r)] = [tl (Str.join (" " : Str) [("road" : Str), iS r.o, iS r.t, iS r.c])]
    unfold roL
    rw [TL.tl_join]
    simp only [TL.tl_append, List.map_cons, List.map_nil, TL.joinL]
    have e1 : tl ("road " : Str) = tl ("road" : Str) ++ tl (" " : Str) := by decide
    rw [e1]
    simp only [List.append_assoc]
  rw [e]
  refine TL.split_join (s := 32) (S := []) rfl (by decide +kernel) (by simp) fun p hp => ?_
  simp only [List.mem_cons, List.not_mem_nil, or_false] at hp
  rcases hp with e | e | e | e
  · rw [e]; decide
  · rw [e]; exact iS_free h.o0 (by omega)
  · rw [e]; exact iS_free h.t0 (by omega)
  · rw [e]; exact iS_free h.c0 (by omega)
/-! ### numbers -/
def isNumB (x : Str) : Bool := decide (1 ≤ x.length) && (decide (x.length ≤ 3) && (!(decide (x.cps.toList[0]? = some 48) && !decide (x = ("0" : Str))) && x.cps.toList.all fun c => decide (c ∈ ("0123456789" : Str).cps.toList)))
theorem isNum_iS {i : Int} (h : 0 ≤ i) (h1 : i < 100) : isNumB (iS i) = true := by
  obtain ⟨m, rfl⟩ := Int.eq_ofNat_of_zero_le h
  have go : ∀ m : Nat, m < 100 → isNumB (iS (m : Int)) = true := by decide +kernel
  exact go m (by omega)
theorem num_iS {i : Int} (h : 0 ≤ i) (h1 : i < 100) : PySem.intText? (iS i) = some i := PySem.W.KIN.num_reads h (by omega)
theorem isNum_int {x : Str} (h : isNumB x = true) : ∃ n, PySem.intText? x = some n := by
  unfold isNumB at h
  simp only [Bool.and_eq_true, decide_eq_true_eq, List.all_eq_true] at h
  obtain ⟨h1, h2, _, h4⟩ := h
  refine ⟨_, PySem.intText_digits (x := x) (fun c hc => ?_) (fun e => ?_) (by omega)⟩
  · have q := h4 c hc
    have e : ("0123456789" : Str).cps.toList = [48, 49, 50, 51, 52, 53, 54, 55, 56, 57] := by decide
    rw [e] at q
    simp at q
    omega
  · rw [TL.len_tl, show tl x = [] from e] at h1
    simp at h1
def intOf (x : Str) : Int := (PySem.intText? x).getD 0
theorem isNum_of {x : Str} (h : isNumB x = true) : PySem.intText? x = some (intOf x) := by
  obtain ⟨n, e⟩ := isNum_int h
  unfold intOf
  rw [e]; rfl
def numsB (line word : Str) (many : Int) : Option (List Int) :=
  if (Txt.split line (" " : Str))[0]? = some word ∧ ((Txt.split line (" " : Str)).length : Int) = many + 1 ∧ (((Txt.split line (" " : Str)).drop 1).all isNumB = true) then some (((Txt.split line (" " : Str)).drop 1).map intOf) else none
theorem intOf_iS {i : Int} (h : 0 ≤ i) (h1 : i < 100) : intOf (iS i) = i := by unfold intOf; rw [num_iS h h1]; rfl
theorem nums_hd {n : Int} (h : 0 ≤ n) (h1 : n < 100) : numsB (hdL n) ("hands" : Str) 1 = some [n] := by
  unfold numsB
  rw [split_hd h]
  have := isNum_iS h h1
  simp [this, intOf_iS h h1]
theorem nums_ro {r : Rd} (h : Low2 r) : numsB (roL r) ("road" : Str) 3 = some [r.o, r.t, r.c] := by
  unfold numsB
  rw [split_ro h]
  have h1 := isNum_iS h.o0 h.o1
  have h2 := isNum_iS h.t0 h.t1
  have h3 := isNum_iS h.c0 h.c1
  simp [h1, h2, h3, intOf_iS h.o0 h.o1, intOf_iS h.t0 h.t1, intOf_iS h.c0 h.c1]
/-! ### specs -/
def sp_written (c : CA) : SpD := fun ds H Q E => ∃ (x : Addr) (n : Int) (rs : List Rd), ds = [.ref x] ∧ IsWeb c H x n rs ∧ 0 ≤ n ∧ n < 100 ∧ rs.length ≤ 1000 ∧ (∀ r ∈ rs, Low2 r) ∧ ∀ H', Ext H H' → Q (.str (textOf n rs)) H'
def PlainW (x : Str) : Prop := x.length ≤ 640 ∧ ∀ c ∈ x.cps.toList, c < 0x110000
def sp_is_number (c : CA) : SpD := fun ds H Q E => ∃ x : Str, ds = [.str x] ∧ PlainW x ∧ ∀ H', Ext H H' → Q (.bl (isNumB x)) H'
def nmD : Option (List Int) → D
  | none => .non
  | some ns => .tup (ns.map D.int)
def sp_numbers_of (c : CA) : SpD := fun ds H Q E => ∃ (line word : Str) (m : Int), ds = [.str line, .str word, .int m] ∧ line.length ≤ 100000 ∧ (Txt.split line (" " : Str)).length ≤ 1000 ∧ (∀ x ∈ Txt.split line (" " : Str), PlainW x) ∧ ∀ H', Ext H H' → Q (nmD (numsB line word m)) H'
def sp_read (c : CA) : SpD := fun ds H Q E => ∃ (n : Int) (rs : List Rd), ds = [.str (textOf n rs)] ∧ WebOk n rs ∧ ∀ (x : Addr) (H' : HD), H x = none → Ext H H' → IsWeb c H' x n rs → Q (.ref x) H'
/-! ### data alike -/
inductive Sm (H : HD) : Nat → D → D → Prop where
  | non {n} : Sm H n .non .non
  | bl {n} {b} : Sm H n (.bl b) (.bl b)
  | int {n} {i} : Sm H n (.int i) (.int i)
  | str {n} {x} : Sm H n (.str x) (.str x)
  | tup {n} {xs ys : List D} : xs.length = ys.length → xs.length ≤ 1000 → (∀ (i : Nat) x y, xs[i]? = some x → ys[i]? = some y → Sm H n x y) → Sm H (n + 1) (.tup xs) (.tup ys)
  | lst {n} {a b : Addr} {xs ys : List D} : H a = some (.lst xs) → H b = some (.lst ys) → xs.length = ys.length → xs.length ≤ 1000 → (∀ (i : Nat) x y, xs[i]? = some x → ys[i]? = some y → Sm H n x y) → Sm H (n + 1) (.ref a) (.ref b)
theorem Sm.ext {H H' : HD} (e : Ext H H') {n : Nat} {x y : D} (h : Sm H n x y) : Sm H' n x y := by
  induction h with
  | non => exact .non
  | bl => exact .bl
  | int => exact .int
  | str => exact .str
  | tup h1 h2 _ ih => exact .tup h1 h2 ih
  | lst e1 e2 h1 h2 _ ih => exact .lst (e _ _ e1) (e _ _ e2) h1 h2 ih
def sn__law_like (n : Nat) (c : CA) : SpD := fun ds H Q E => ∃ x y : D, ds = [x, y] ∧ Sm H n x y ∧ ∀ H', Ext H H' → Q (.bl true) H'
def sp__law_like (c : CA) : SpD := sn__law_like 8 c
end Lt

end
section
set_option Elab.async false
set_option linter.all false
set_option maxRecDepth 100000
set_option maxHeartbeats 4000000
namespace Lt
open PySem PySem.Spec L2
theorem log2_small {n : Int} (h0 : 0 ≤ n) (h1 : n < 100) : n.natAbs.log2 < 1920 := by
  have := Nat.log2_le_self n.natAbs
  omega
theorem sum_le {l : List Str} {k : Nat} (h : ∀ x ∈ l, x.length ≤ k) : (l.map (·.length)).sum ≤ k * l.length := by
  induction l with
  | nil => simp
  | cons x l ih =>
    have h1 := ih fun y hy => h y (List.mem_cons_of_mem _ hy)
    have h2 := h x (List.mem_cons_self ..)
    rw [List.map_cons, List.sum_cons, List.length_cons, Nat.mul_add]
    omega
-- (written is not in this row)
-- (written is not in this row)
theorem low_str {x : Str} (h : ∀ c ∈ x.cps.toList, c < 0x110000) : Low (.str x) := by
  refine ⟨rfl, ?_, by show (0 : Nat) ≤ 3; decide⟩
  show x.cps.all (· < 0x110000) = true
  rw [← Array.all_toList, List.all_eq_true]
  intro c hc
  exact decide_eq_true (h c hc)
-- (is_number is not in this row)
-- (is_number is not in this row)
theorem cut1 {x : D} {ds : List D} : cutD (x :: ds) (some 1) none = ds := by
  have e1 : HT.sIx (x :: ds).length 0 (some 1) = 1 := by
    have := HT.sIx_nat (x :: ds).length 0 1
    rw [List.length_cons] at *
    have e : min 1 (ds.length + 1) = 1 := by omega
    rw [e] at this
    exact this
  unfold cutD
  rw [e1, HT.sIx_none, List.length_cons, List.drop_one, List.tail_cons]
  exact List.take_of_length_le (by omega)
theorem cut1' {α : Type} {f : α → D} {x : α} {xs : List α} : cutD ((x :: xs).map f) (some 1) none = xs.map f := cut1
-- (numbers_of is not in this row)
-- (numbers_of is not in this row)
theorem plain_iS {i : Int} (h : 0 ≤ i) (h1 : i < 100) : PlainW (iS i) := by
  refine ⟨by have := iS_len h h1; omega, fun c hc => ?_⟩
  have := iS_digits h c hc
  omega
theorem plain_hands : PlainW (Str.ofString "hands") := by
  refine ⟨by decide, ?_⟩
  have e : (Str.ofString "hands").cps.toList = [104, 97, 110, 100, 115] := by decide
  rw [e]
  decide
theorem plain_road : PlainW (Str.ofString "road") := by
  refine ⟨by decide, ?_⟩
  have e : (Str.ofString "road").cps.toList = [114, 111, 97, 100] := by decide
  rw [e]
  decide
theorem textOf_len {n : Int} {rs : List Rd} (h : 0 ≤ n) (h1 : n < 100) (hr : ∀ r ∈ rs, Low2 r) (hl : rs.length ≤ 1000) : (textOf n rs).length ≤ 20000 := by
  have go : ∀ l : List Str, (Txt.join (Str.ofString "\n") l).length ≤ (l.map (·.length)).sum + l.length := by
    intro l
    rw [TL.len_tl, TL.join_eq, TL.tl_join]
    induction l with
    | nil => simp [TL.joinL]
    | cons x l ih =>
      cases l with
      | nil => simp [TL.joinL, ← TL.len_tl]; exact Nat.le_succ x.length
      | cons y l =>
        simp only [List.map_cons, TL.joinL, List.length_append, List.sum_cons, List.length_cons, ← TL.len_tl] at ih ⊢
        have : (Str.ofString "\n").length = 1 := rfl
        omega
  have s1 := sum_le (l := linesOf n rs) (k := 13) fun x hx => by
    unfold linesOf at hx
    rcases List.mem_cons.mp hx with z | z
    · rw [z]; have := hdL_len h h1; omega
    · obtain ⟨r, hr1, rfl⟩ := List.mem_map.mp z
      exact roL_len (hr r hr1)
  have s2 : (linesOf n rs).length = rs.length + 1 := by unfold linesOf; simp
  have := go (linesOf n rs)
  unfold textOf
  omega
-- (read is not in this row)
-- (read is not in this row)
def t__law_like (me : SpD) (c : CA) (Ed : XD) : TSD :=
  (sSeq (sIf (tTs (tCb rIsi (tC (tV 1) (tC (tK (.ty "bool")) tN)))) (sRet (tAnV (tCb rIsi (tC (tV 0) (tC (tK (.ty "bool")) tN))) (tO rEq (tV 0) (tV 1)))) sNx)
    (sSeq (sIf (tTs (tCb rIsi (tC (tV 1) (tC (tK (.ty "str")) tN)))) (sRet (tAnV (tCb rIsi (tC (tV 0) (tC (tK (.ty "str")) tN))) (tO rEq (tV 0) (tV 1)))) sNx)
    (sSeq (sIf (tTs (tCb rIsi (tC (tV 1) (tC (tK (.ty "int")) tN)))) (sRet (tAnV (tCb rIsi (tC (tV 0) (tC (tK (.ty "int")) tN))) (tAnV (tNtV (tCb rIsi (tC (tV 0) (tC (tK (.ty "bool")) tN)))) (tO rEq (tV 0) (tV 1))))) sNx)
    (sSeq (sIf (tTs (tO rIsN (tV 1) (tK .non))) (sRet (tO rIsN (tV 0) (tK .non))) sNx)
    (sSeq (sIf (tTs (tCb rIsi (tC (tV 1) (tC (tK (.ty "dict")) tN)))) (sSeq (sIf (tOr (tNt (tTs (tCb rIsi (tC (tV 0) (tC (tK (.ty "dict")) tN))))) (tTs (tO rNe (tCb rLen (tC (tV 0) tN)) (tCb rLen (tC (tV 1) tN))))) (sRet (tK (.bl false))) sNx)
    (sRet (tO rEq (tLcG (iLs (tV 1)) (.nm 3) (tOr (tTs (tO (rInG not) (tV 3) (tV 0))) (tNt (tTs (tCal me noW (tC (tO rIx (tV 0) (tV 3)) (tC (tO rIx (tV 1) (tV 3)) tN)))))) (tV 3) [3]) (tLs tN)))) sNx)
    (sSeq (sIf (tOr (tTs (tO rNe (tCb rIsi (tC (tV 1) (tC (tK (.ty "tuple")) tN))) (tCb rIsi (tC (tV 0) (tC (tK (.ty "tuple")) tN))))) (tTs (tO rNe (tCb rIsi (tC (tV 1) (tC (tK (.ty "list")) tN))) (tCb rIsi (tC (tV 0) (tC (tK (.ty "list")) tN)))))) (sRet (tK (.bl false))) sNx)
    (sSeq (sIf (tTs (tO rNe (tCb rLen (tC (tV 0) tN)) (tCb rLen (tC (tV 1) tN)))) (sRet (tK (.bl false))) sNx)
    (sSeq (sFor (iR1 (tC (tCb rLen (tC (tV 1) tN)) tN)) (.nm 2)
    (sIf (tNt (tTs (tCal me (WdE Ed) (tC (tO rIx (tV 0) (tV 2)) (tC (tO rIx (tV 1) (tV 2)) tN))))) (sRet (tK (.bl false))) sNx))
    (sRet (tK (.bl true)))))))))))
theorem len__law_like : ∀ n c ds H Q E, sn__law_like n c ds H Q E → ds.length = (["_law_found", "_law_due"] : List Str).length := by intro n; intro c ds H Q E h; first | (obtain ⟨_, _, _, _, _, _, _, _, _, _, _, _, rfl, _⟩ := h; rfl) | (obtain ⟨_, _, _, _, _, _, _, _, _, _, _, rfl, _⟩ := h; rfl) | (obtain ⟨_, _, _, _, _, _, _, _, _, _, rfl, _⟩ := h; rfl) | (obtain ⟨_, _, _, _, _, _, _, _, _, rfl, _⟩ := h; rfl) | (obtain ⟨_, _, _, _, _, _, _, _, rfl, _⟩ := h; rfl) | (obtain ⟨rfl, _⟩ := h; rfl) | (obtain ⟨_, rfl, _⟩ := h; rfl) | (obtain ⟨_, _, rfl, _⟩ := h; rfl) | (obtain ⟨_, _, _, rfl, _⟩ := h; rfl) | (obtain ⟨_, _, _, _, rfl, _⟩ := h; rfl) | (obtain ⟨_, _, _, _, _, rfl, _⟩ := h; rfl) | (obtain ⟨_, _, _, _, _, _, rfl, _⟩ := h; rfl) | (obtain ⟨_, _, _, _, _, _, _, rfl, _⟩ := h; rfl)
theorem rd__law_like (c : CA) (n : Nat) (me : SpD) (hme : n = 0 ∨ ∃ m, n = m + 1 ∧ me = sn__law_like m c) (Ed : XD) (ds : List D) (Hd : HD) (Qd : QD) (h : sn__law_like n c ds Hd Qd Ed) : t__law_like me c Ed { nx := fun _ H' => Qd .non H', rt := Qd } (startD ["_law_found", "_law_due", "_law_k", "_law_key"] ds) Hd := by
  obtain ⟨x, y, rfl, hs, k⟩ := h
  unfold t__law_like
  have loop : ∀ (m : Nat) (xd yd : D) (xs ys : List D) (me : SpD) (tg : TgD), me = sn__law_like m c → xs.length = ys.length → xs.length ≤ 1000 → (∀ (i : Nat) x y, xs[i]? = some x → ys[i]? = some y → Sm Hd m x y) →
      (∀ (H : HD) (Q : QD) (i : Nat) x, Ext Hd H → xs[i]? = some x → Q x H → rIx xd (.int (0 + (i : Nat))) H Q) → (∀ (H : HD) (Q : QD) (i : Nat) x, Ext Hd H → ys[i]? = some x → Q x H → rIx yd (.int (0 + (i : Nat))) H Q) →
      loopD ⟨rngD 0 (ys.length : Int).toNat, fun _ => True⟩ (TgD.nm 2) (sIf (tNt (tTs (tCal me (WdE Ed) (tC (tO rIx (tV 0) (tV 2)) (tC (tO rIx (tV 1) (tV 2)) tN))))) (sRet (tK (D.bl false))) sNx)
        { nx := sRet (tK (D.bl true)) { nx := fun x H' => Qd D.non H', rt := Qd }, rt := Qd } (rngD 0 (ys.length : Int).toNat) [some xd, some yd, none, none] Hd := by
    intro m xd yd xs ys me tg hme h1 h2 h3 hx hy
    subst hme
    refine loop_inv' (I := ⟨rngD 0 (ys.length : Int).toNat, fun _ => True⟩) (fun i ρ H => (∃ z, ρ = [some xd, some yd, z, none]) ∧ Ext Hd H) ⟨⟨_, rfl⟩, .refl _⟩ ?_ ?_
    · rintro i d ρ H hdi ⟨⟨z, rfl⟩, e⟩
      obtain ⟨hi, rfl⟩ := nth_rng hdi
      refine ⟨trivial, fun N B hN _ => ?_⟩
      obtain ⟨u, hu⟩ : ∃ u, xs[i]? = some u := ⟨_, List.getElem?_eq_getElem (by omega)⟩
      obtain ⟨v, hv⟩ : ∃ u, ys[i]? = some u := ⟨_, List.getElem?_eq_getElem (by omega)⟩
      simp only [↓u_asB, ↓u_asI, ↓u_asR, ↓u_slot, ↓u_gt1, ↓u_goA_nm, ↓u_goA_tp, ↓u_goAs_nil, ↓u_goAs_cons, ↓u_sSeq, ↓u_sNx, ↓u_sDrop, ↓u_sRet, ↓u_sRetN, ↓u_sIf, ↓u_sAsg, ↓u_sSub, ↓u_sbC_lst, ↓u_sbC_dK, ↓u_sbC_dT, ↓u_sFl, ↓u_sFor, ↓u_tV, ↓u_tK, ↓u_tO, ↓u_tNeg, ↓u_tPn, ↓u_tPs, ↓u_tSlD, ↓u_rSl_tup, ↓u_rSl_rl, ↓u_rSl_ref, ↓u_tFl, ↓u_tN, ↓u_tC, ↓u_tTp, ↓u_tLs, ↓u_tDK, ↓u_tDT, ↓u_tTs, ↓u_tChn, ↓u_tChn3, ↓u_tAn, ↓u_tOr, ↓u_tNt, ↓u_tIfE, ↓u_tAnV, ↓u_tOrV, ↓u_tNtV, ↓u_rAdd_int, ↓u_rAdd_str, ↓u_rAdd_tup, ↓u_rAdd_ref, ↓u_rSub, ↓u_rMod, ↓u_rDiv, ↓u_rPow, ↓u_rLt, ↓u_rLe, ↓u_rGt, ↓u_rGe, ↓u_rMul_int, ↓u_rMul_ref, ↓u_rEq_int, ↓u_rEq_str, ↓u_rEq_bl, ↓u_rEq_nn, ↓u_rEq_in, ↓u_rEq_ni, ↓u_rNe_int, ↓u_rNe_str, ↓u_rNe_bl, ↓u_rNe_nn, ↓u_rNe_in, ↓u_rNe_ni, ↓u_rEq_t2, ↓u_rIsN, ↓u_rIsN_bl, ↓u_rNotN, ↓u_rNotN_bl, ↓u_isNon_non, ↓u_isNon_int, ↓u_isNon_ref, ↓u_isNon_tup, ↓u_isNon_bl, ↓u_isNon_str, ↓u_DG, ↓u_dgC_K, ↓u_dgC_rK, ↓u_dgC_T, ↓u_dgC_rT, ↓u_rInG_ref, ↓u_inC_K, ↓u_inC_rK, ↓u_inC_T, ↓u_inC_ints, ↓u_inC_prs, ↓u_rInG_tup, ↓u_rIx_ref, ↓u_ixC_lst, ↓u_ixC_K, ↓u_ixC_rK, ↓u_ixC_T, ↓u_ixC_rT, ↓u_rIx_tup, ↓u_rIx_rl, ↓u_at0, ↓u_at1, ↓u_at2, ↓u_at3, ↓u_iLs, ↓u_lsI_ref, ↓u_lsI_rl, ↓u_iTp, ↓u_tpI, ↓u_iR1, ↓u_r1I, ↓u_iR2, ↓u_r2I, ↓u_iEn, ↓u_enI, ↓u_iKy, ↓u_kyC_K, ↓u_kyC_T, ↓u_tYs, ↓u_tLcG, ↓u_wipe_nil, ↓u_wipe_cons, ↓u_tCal, ↓u_tMet, ↓u_tMak, ↓u_WdE, ↓u_noW, ↓u_tCb, ↓u_rLen_tup, ↓u_rLen_rl, ↓u_rLen_str, ↓u_rLen_ref, ↓u_lnC_lst, ↓u_lnC_dK, ↓u_rList_tup, ↓u_rList_rl, ↓u_rList_ref, ↓u_rTuple_tup, ↓u_rTuple_ref, ↓u_rInt_int, ↓u_rInt_bl, ↓u_rStr, ↓u_rMin2, ↓u_rMax2, ↓u_rSum, ↓u_tLr1, ↓u_tLr2, ↓u_tBm, ↓u_rApp, ↓u_rPop0, ↓u_rPopI, ↓u_rIns, ↓u_rClr, ↓u_tGet2, ↓u_isD_K, ↓u_isD_T, ↓u_tDisp1, ↓u_ixN41, ↓u_ixN42, ↓u_ixN43, ↓u_isS, ↓u_tSplit, ↓u_rSplit, ↓u_tJn, ↓u_rIntT_str, ↓u_rIntT_int, ↓u_iSr, ↓u_srI, ↓u_rInG_str, ↓u_rIx_str, ↓u_isi_non, ↓u_isi_bl, ↓u_isi_int, ↓u_isi_str, ↓u_isi_tup, ↓u_isi_ref, ↓u_isiC_lst, ↓u_isiC_dK, ↓u_isiC_dT, ↓u_kit_NoneType_bool, ↓u_kit_NoneType_int, ↓u_kit_NoneType_str, ↓u_kit_NoneType_tuple, ↓u_kit_NoneType_list, ↓u_kit_NoneType_dict, ↓u_kit_bool_bool, ↓u_kit_bool_int, ↓u_kit_bool_str, ↓u_kit_bool_tuple, ↓u_kit_bool_list, ↓u_kit_bool_dict, ↓u_kit_int_bool, ↓u_kit_int_int, ↓u_kit_int_str, ↓u_kit_int_tuple, ↓u_kit_int_list, ↓u_kit_int_dict, ↓u_kit_str_bool, ↓u_kit_str_int, ↓u_kit_str_str, ↓u_kit_str_tuple, ↓u_kit_str_list, ↓u_kit_str_dict, ↓u_kit_tuple_bool, ↓u_kit_tuple_int, ↓u_kit_tuple_str, ↓u_kit_tuple_tuple, ↓u_kit_tuple_list, ↓u_kit_tuple_dict, ↓u_kit_list_bool, ↓u_kit_list_int, ↓u_kit_list_str, ↓u_kit_list_tuple, ↓u_kit_list_list, ↓u_kit_list_dict, ↓u_kit_dict_bool, ↓u_kit_dict_int, ↓u_kit_dict_str, ↓u_kit_dict_tuple, ↓u_kit_dict_list, ↓u_kit_dict_dict, startD, List.set, List.map, List.replicate, List.length_cons, List.length_nil, Nat.reduceAdd, Nat.reduceSub, List.cons_append, List.nil_append, List.append_nil, List.getElem?_cons_zero, List.getElem?_cons_succ, Option.some.injEq, DO.lst.injEq, DO.ins.injEq, DO.dK.injEq, DO.dT.injEq, DO.rdK.injEq, DO.rdT.injEq, exists_eq_left', exists_eq_left, exists_eq', Bool.false_eq_true, reduceCtorEq, Nat.reduceLeDiff, Bool.true_eq_false, if_true, if_false, ite_true, ite_false, Bool.not_true, Bool.not_false, cut2, true_and, and_true, false_and, and_false, decide_eq_true_eq, decide_true, roD_def, Int.reduceToNat, id_eq, forall_const, Nat.zero_le, Nat.le_refl, upD_same, putI, Nat.reduceLT, Nat.lt_irrefl, Nat.zero_lt_one, Nat.not_lt_zero]
      refine hx H _ i u e hu ?_
      refine hy H _ i v e hv ?_
      refine ⟨u, v, rfl, (h3 i u v hu hv).ext e, fun H' e' => ?_⟩
      simp only [↓u_asB, ↓u_asI, ↓u_asR, ↓u_slot, ↓u_gt1, ↓u_goA_nm, ↓u_goA_tp, ↓u_goAs_nil, ↓u_goAs_cons, ↓u_sSeq, ↓u_sNx, ↓u_sDrop, ↓u_sRet, ↓u_sRetN, ↓u_sIf, ↓u_sAsg, ↓u_sSub, ↓u_sbC_lst, ↓u_sbC_dK, ↓u_sbC_dT, ↓u_sFl, ↓u_sFor, ↓u_tV, ↓u_tK, ↓u_tO, ↓u_tNeg, ↓u_tPn, ↓u_tPs, ↓u_tSlD, ↓u_rSl_tup, ↓u_rSl_rl, ↓u_rSl_ref, ↓u_tFl, ↓u_tN, ↓u_tC, ↓u_tTp, ↓u_tLs, ↓u_tDK, ↓u_tDT, ↓u_tTs, ↓u_tChn, ↓u_tChn3, ↓u_tAn, ↓u_tOr, ↓u_tNt, ↓u_tIfE, ↓u_tAnV, ↓u_tOrV, ↓u_tNtV, ↓u_rAdd_int, ↓u_rAdd_str, ↓u_rAdd_tup, ↓u_rAdd_ref, ↓u_rSub, ↓u_rMod, ↓u_rDiv, ↓u_rPow, ↓u_rLt, ↓u_rLe, ↓u_rGt, ↓u_rGe, ↓u_rMul_int, ↓u_rMul_ref, ↓u_rEq_int, ↓u_rEq_str, ↓u_rEq_bl, ↓u_rEq_nn, ↓u_rEq_in, ↓u_rEq_ni, ↓u_rNe_int, ↓u_rNe_str, ↓u_rNe_bl, ↓u_rNe_nn, ↓u_rNe_in, ↓u_rNe_ni, ↓u_rEq_t2, ↓u_rIsN, ↓u_rIsN_bl, ↓u_rNotN, ↓u_rNotN_bl, ↓u_isNon_non, ↓u_isNon_int, ↓u_isNon_ref, ↓u_isNon_tup, ↓u_isNon_bl, ↓u_isNon_str, ↓u_DG, ↓u_dgC_K, ↓u_dgC_rK, ↓u_dgC_T, ↓u_dgC_rT, ↓u_rInG_ref, ↓u_inC_K, ↓u_inC_rK, ↓u_inC_T, ↓u_inC_ints, ↓u_inC_prs, ↓u_rInG_tup, ↓u_rIx_ref, ↓u_ixC_lst, ↓u_ixC_K, ↓u_ixC_rK, ↓u_ixC_T, ↓u_ixC_rT, ↓u_rIx_tup, ↓u_rIx_rl, ↓u_at0, ↓u_at1, ↓u_at2, ↓u_at3, ↓u_iLs, ↓u_lsI_ref, ↓u_lsI_rl, ↓u_iTp, ↓u_tpI, ↓u_iR1, ↓u_r1I, ↓u_iR2, ↓u_r2I, ↓u_iEn, ↓u_enI, ↓u_iKy, ↓u_kyC_K, ↓u_kyC_T, ↓u_tYs, ↓u_tLcG, ↓u_wipe_nil, ↓u_wipe_cons, ↓u_tCal, ↓u_tMet, ↓u_tMak, ↓u_WdE, ↓u_noW, ↓u_tCb, ↓u_rLen_tup, ↓u_rLen_rl, ↓u_rLen_str, ↓u_rLen_ref, ↓u_lnC_lst, ↓u_lnC_dK, ↓u_rList_tup, ↓u_rList_rl, ↓u_rList_ref, ↓u_rTuple_tup, ↓u_rTuple_ref, ↓u_rInt_int, ↓u_rInt_bl, ↓u_rStr, ↓u_rMin2, ↓u_rMax2, ↓u_rSum, ↓u_tLr1, ↓u_tLr2, ↓u_tBm, ↓u_rApp, ↓u_rPop0, ↓u_rPopI, ↓u_rIns, ↓u_rClr, ↓u_tGet2, ↓u_isD_K, ↓u_isD_T, ↓u_tDisp1, ↓u_ixN41, ↓u_ixN42, ↓u_ixN43, ↓u_isS, ↓u_tSplit, ↓u_rSplit, ↓u_tJn, ↓u_rIntT_str, ↓u_rIntT_int, ↓u_iSr, ↓u_srI, ↓u_rInG_str, ↓u_rIx_str, ↓u_isi_non, ↓u_isi_bl, ↓u_isi_int, ↓u_isi_str, ↓u_isi_tup, ↓u_isi_ref, ↓u_isiC_lst, ↓u_isiC_dK, ↓u_isiC_dT, ↓u_kit_NoneType_bool, ↓u_kit_NoneType_int, ↓u_kit_NoneType_str, ↓u_kit_NoneType_tuple, ↓u_kit_NoneType_list, ↓u_kit_NoneType_dict, ↓u_kit_bool_bool, ↓u_kit_bool_int, ↓u_kit_bool_str, ↓u_kit_bool_tuple, ↓u_kit_bool_list, ↓u_kit_bool_dict, ↓u_kit_int_bool, ↓u_kit_int_int, ↓u_kit_int_str, ↓u_kit_int_tuple, ↓u_kit_int_list, ↓u_kit_int_dict, ↓u_kit_str_bool, ↓u_kit_str_int, ↓u_kit_str_str, ↓u_kit_str_tuple, ↓u_kit_str_list, ↓u_kit_str_dict, ↓u_kit_tuple_bool, ↓u_kit_tuple_int, ↓u_kit_tuple_str, ↓u_kit_tuple_tuple, ↓u_kit_tuple_list, ↓u_kit_tuple_dict, ↓u_kit_list_bool, ↓u_kit_list_int, ↓u_kit_list_str, ↓u_kit_list_tuple, ↓u_kit_list_list, ↓u_kit_list_dict, ↓u_kit_dict_bool, ↓u_kit_dict_int, ↓u_kit_dict_str, ↓u_kit_dict_tuple, ↓u_kit_dict_list, ↓u_kit_dict_dict, startD, List.set, List.map, List.replicate, List.length_cons, List.length_nil, Nat.reduceAdd, Nat.reduceSub, List.cons_append, List.nil_append, List.append_nil, List.getElem?_cons_zero, List.getElem?_cons_succ, Option.some.injEq, DO.lst.injEq, DO.ins.injEq, DO.dK.injEq, DO.dT.injEq, DO.rdK.injEq, DO.rdT.injEq, exists_eq_left', exists_eq_left, exists_eq', Bool.false_eq_true, reduceCtorEq, Nat.reduceLeDiff, Bool.true_eq_false, if_true, if_false, ite_true, ite_false, Bool.not_true, Bool.not_false, cut2, true_and, and_true, false_and, and_false, decide_eq_true_eq, decide_true, roD_def, Int.reduceToNat, id_eq, forall_const, Nat.zero_le, Nat.le_refl, upD_same, putI, Nat.reduceLT, Nat.lt_irrefl, Nat.zero_lt_one, Nat.not_lt_zero]
      exact hN _ _ ⟨⟨_, rfl⟩, e.trans e'⟩
    · rintro ρ H ⟨⟨z, rfl⟩, e⟩
      refine ⟨trivial, ?_⟩
      simp only [↓u_asB, ↓u_asI, ↓u_asR, ↓u_slot, ↓u_gt1, ↓u_goA_nm, ↓u_goA_tp, ↓u_goAs_nil, ↓u_goAs_cons, ↓u_sSeq, ↓u_sNx, ↓u_sDrop, ↓u_sRet, ↓u_sRetN, ↓u_sIf, ↓u_sAsg, ↓u_sSub, ↓u_sbC_lst, ↓u_sbC_dK, ↓u_sbC_dT, ↓u_sFl, ↓u_sFor, ↓u_tV, ↓u_tK, ↓u_tO, ↓u_tNeg, ↓u_tPn, ↓u_tPs, ↓u_tSlD, ↓u_rSl_tup, ↓u_rSl_rl, ↓u_rSl_ref, ↓u_tFl, ↓u_tN, ↓u_tC, ↓u_tTp, ↓u_tLs, ↓u_tDK, ↓u_tDT, ↓u_tTs, ↓u_tChn, ↓u_tChn3, ↓u_tAn, ↓u_tOr, ↓u_tNt, ↓u_tIfE, ↓u_tAnV, ↓u_tOrV, ↓u_tNtV, ↓u_rAdd_int, ↓u_rAdd_str, ↓u_rAdd_tup, ↓u_rAdd_ref, ↓u_rSub, ↓u_rMod, ↓u_rDiv, ↓u_rPow, ↓u_rLt, ↓u_rLe, ↓u_rGt, ↓u_rGe, ↓u_rMul_int, ↓u_rMul_ref, ↓u_rEq_int, ↓u_rEq_str, ↓u_rEq_bl, ↓u_rEq_nn, ↓u_rEq_in, ↓u_rEq_ni, ↓u_rNe_int, ↓u_rNe_str, ↓u_rNe_bl, ↓u_rNe_nn, ↓u_rNe_in, ↓u_rNe_ni, ↓u_rEq_t2, ↓u_rIsN, ↓u_rIsN_bl, ↓u_rNotN, ↓u_rNotN_bl, ↓u_isNon_non, ↓u_isNon_int, ↓u_isNon_ref, ↓u_isNon_tup, ↓u_isNon_bl, ↓u_isNon_str, ↓u_DG, ↓u_dgC_K, ↓u_dgC_rK, ↓u_dgC_T, ↓u_dgC_rT, ↓u_rInG_ref, ↓u_inC_K, ↓u_inC_rK, ↓u_inC_T, ↓u_inC_ints, ↓u_inC_prs, ↓u_rInG_tup, ↓u_rIx_ref, ↓u_ixC_lst, ↓u_ixC_K, ↓u_ixC_rK, ↓u_ixC_T, ↓u_ixC_rT, ↓u_rIx_tup, ↓u_rIx_rl, ↓u_at0, ↓u_at1, ↓u_at2, ↓u_at3, ↓u_iLs, ↓u_lsI_ref, ↓u_lsI_rl, ↓u_iTp, ↓u_tpI, ↓u_iR1, ↓u_r1I, ↓u_iR2, ↓u_r2I, ↓u_iEn, ↓u_enI, ↓u_iKy, ↓u_kyC_K, ↓u_kyC_T, ↓u_tYs, ↓u_tLcG, ↓u_wipe_nil, ↓u_wipe_cons, ↓u_tCal, ↓u_tMet, ↓u_tMak, ↓u_WdE, ↓u_noW, ↓u_tCb, ↓u_rLen_tup, ↓u_rLen_rl, ↓u_rLen_str, ↓u_rLen_ref, ↓u_lnC_lst, ↓u_lnC_dK, ↓u_rList_tup, ↓u_rList_rl, ↓u_rList_ref, ↓u_rTuple_tup, ↓u_rTuple_ref, ↓u_rInt_int, ↓u_rInt_bl, ↓u_rStr, ↓u_rMin2, ↓u_rMax2, ↓u_rSum, ↓u_tLr1, ↓u_tLr2, ↓u_tBm, ↓u_rApp, ↓u_rPop0, ↓u_rPopI, ↓u_rIns, ↓u_rClr, ↓u_tGet2, ↓u_isD_K, ↓u_isD_T, ↓u_tDisp1, ↓u_ixN41, ↓u_ixN42, ↓u_ixN43, ↓u_isS, ↓u_tSplit, ↓u_rSplit, ↓u_tJn, ↓u_rIntT_str, ↓u_rIntT_int, ↓u_iSr, ↓u_srI, ↓u_rInG_str, ↓u_rIx_str, ↓u_isi_non, ↓u_isi_bl, ↓u_isi_int, ↓u_isi_str, ↓u_isi_tup, ↓u_isi_ref, ↓u_isiC_lst, ↓u_isiC_dK, ↓u_isiC_dT, ↓u_kit_NoneType_bool, ↓u_kit_NoneType_int, ↓u_kit_NoneType_str, ↓u_kit_NoneType_tuple, ↓u_kit_NoneType_list, ↓u_kit_NoneType_dict, ↓u_kit_bool_bool, ↓u_kit_bool_int, ↓u_kit_bool_str, ↓u_kit_bool_tuple, ↓u_kit_bool_list, ↓u_kit_bool_dict, ↓u_kit_int_bool, ↓u_kit_int_int, ↓u_kit_int_str, ↓u_kit_int_tuple, ↓u_kit_int_list, ↓u_kit_int_dict, ↓u_kit_str_bool, ↓u_kit_str_int, ↓u_kit_str_str, ↓u_kit_str_tuple, ↓u_kit_str_list, ↓u_kit_str_dict, ↓u_kit_tuple_bool, ↓u_kit_tuple_int, ↓u_kit_tuple_str, ↓u_kit_tuple_tuple, ↓u_kit_tuple_list, ↓u_kit_tuple_dict, ↓u_kit_list_bool, ↓u_kit_list_int, ↓u_kit_list_str, ↓u_kit_list_tuple, ↓u_kit_list_list, ↓u_kit_list_dict, ↓u_kit_dict_bool, ↓u_kit_dict_int, ↓u_kit_dict_str, ↓u_kit_dict_tuple, ↓u_kit_dict_list, ↓u_kit_dict_dict, startD, List.set, List.map, List.replicate, List.length_cons, List.length_nil, Nat.reduceAdd, Nat.reduceSub, List.cons_append, List.nil_append, List.append_nil, List.getElem?_cons_zero, List.getElem?_cons_succ, Option.some.injEq, DO.lst.injEq, DO.ins.injEq, DO.dK.injEq, DO.dT.injEq, DO.rdK.injEq, DO.rdT.injEq, exists_eq_left', exists_eq_left, exists_eq', Bool.false_eq_true, reduceCtorEq, Nat.reduceLeDiff, Bool.true_eq_false, if_true, if_false, ite_true, ite_false, Bool.not_true, Bool.not_false, cut2, true_and, and_true, false_and, and_false, decide_eq_true_eq, decide_true, roD_def, Int.reduceToNat, id_eq, forall_const, Nat.zero_le, Nat.le_refl, upD_same, putI, Nat.reduceLT, Nat.lt_irrefl, Nat.zero_lt_one, Nat.not_lt_zero]
      exact k H e
  cases hs with
  | non =>
    simp only [↓u_asB, ↓u_asI, ↓u_asR, ↓u_slot, ↓u_gt1, ↓u_goA_nm, ↓u_goA_tp, ↓u_goAs_nil, ↓u_goAs_cons, ↓u_sSeq, ↓u_sNx, ↓u_sDrop, ↓u_sRet, ↓u_sRetN, ↓u_sIf, ↓u_sAsg, ↓u_sSub, ↓u_sbC_lst, ↓u_sbC_dK, ↓u_sbC_dT, ↓u_sFl, ↓u_sFor, ↓u_tV, ↓u_tK, ↓u_tO, ↓u_tNeg, ↓u_tPn, ↓u_tPs, ↓u_tSlD, ↓u_rSl_tup, ↓u_rSl_rl, ↓u_rSl_ref, ↓u_tFl, ↓u_tN, ↓u_tC, ↓u_tTp, ↓u_tLs, ↓u_tDK, ↓u_tDT, ↓u_tTs, ↓u_tChn, ↓u_tChn3, ↓u_tAn, ↓u_tOr, ↓u_tNt, ↓u_tIfE, ↓u_tAnV, ↓u_tOrV, ↓u_tNtV, ↓u_rAdd_int, ↓u_rAdd_str, ↓u_rAdd_tup, ↓u_rAdd_ref, ↓u_rSub, ↓u_rMod, ↓u_rDiv, ↓u_rPow, ↓u_rLt, ↓u_rLe, ↓u_rGt, ↓u_rGe, ↓u_rMul_int, ↓u_rMul_ref, ↓u_rEq_int, ↓u_rEq_str, ↓u_rEq_bl, ↓u_rEq_nn, ↓u_rEq_in, ↓u_rEq_ni, ↓u_rNe_int, ↓u_rNe_str, ↓u_rNe_bl, ↓u_rNe_nn, ↓u_rNe_in, ↓u_rNe_ni, ↓u_rEq_t2, ↓u_rIsN, ↓u_rIsN_bl, ↓u_rNotN, ↓u_rNotN_bl, ↓u_isNon_non, ↓u_isNon_int, ↓u_isNon_ref, ↓u_isNon_tup, ↓u_isNon_bl, ↓u_isNon_str, ↓u_DG, ↓u_dgC_K, ↓u_dgC_rK, ↓u_dgC_T, ↓u_dgC_rT, ↓u_rInG_ref, ↓u_inC_K, ↓u_inC_rK, ↓u_inC_T, ↓u_inC_ints, ↓u_inC_prs, ↓u_rInG_tup, ↓u_rIx_ref, ↓u_ixC_lst, ↓u_ixC_K, ↓u_ixC_rK, ↓u_ixC_T, ↓u_ixC_rT, ↓u_rIx_tup, ↓u_rIx_rl, ↓u_at0, ↓u_at1, ↓u_at2, ↓u_at3, ↓u_iLs, ↓u_lsI_ref, ↓u_lsI_rl, ↓u_iTp, ↓u_tpI, ↓u_iR1, ↓u_r1I, ↓u_iR2, ↓u_r2I, ↓u_iEn, ↓u_enI, ↓u_iKy, ↓u_kyC_K, ↓u_kyC_T, ↓u_tYs, ↓u_tLcG, ↓u_wipe_nil, ↓u_wipe_cons, ↓u_tCal, ↓u_tMet, ↓u_tMak, ↓u_WdE, ↓u_noW, ↓u_tCb, ↓u_rLen_tup, ↓u_rLen_rl, ↓u_rLen_str, ↓u_rLen_ref, ↓u_lnC_lst, ↓u_lnC_dK, ↓u_rList_tup, ↓u_rList_rl, ↓u_rList_ref, ↓u_rTuple_tup, ↓u_rTuple_ref, ↓u_rInt_int, ↓u_rInt_bl, ↓u_rStr, ↓u_rMin2, ↓u_rMax2, ↓u_rSum, ↓u_tLr1, ↓u_tLr2, ↓u_tBm, ↓u_rApp, ↓u_rPop0, ↓u_rPopI, ↓u_rIns, ↓u_rClr, ↓u_tGet2, ↓u_isD_K, ↓u_isD_T, ↓u_tDisp1, ↓u_ixN41, ↓u_ixN42, ↓u_ixN43, ↓u_isS, ↓u_tSplit, ↓u_rSplit, ↓u_tJn, ↓u_rIntT_str, ↓u_rIntT_int, ↓u_iSr, ↓u_srI, ↓u_rInG_str, ↓u_rIx_str, ↓u_isi_non, ↓u_isi_bl, ↓u_isi_int, ↓u_isi_str, ↓u_isi_tup, ↓u_isi_ref, ↓u_isiC_lst, ↓u_isiC_dK, ↓u_isiC_dT, ↓u_kit_NoneType_bool, ↓u_kit_NoneType_int, ↓u_kit_NoneType_str, ↓u_kit_NoneType_tuple, ↓u_kit_NoneType_list, ↓u_kit_NoneType_dict, ↓u_kit_bool_bool, ↓u_kit_bool_int, ↓u_kit_bool_str, ↓u_kit_bool_tuple, ↓u_kit_bool_list, ↓u_kit_bool_dict, ↓u_kit_int_bool, ↓u_kit_int_int, ↓u_kit_int_str, ↓u_kit_int_tuple, ↓u_kit_int_list, ↓u_kit_int_dict, ↓u_kit_str_bool, ↓u_kit_str_int, ↓u_kit_str_str, ↓u_kit_str_tuple, ↓u_kit_str_list, ↓u_kit_str_dict, ↓u_kit_tuple_bool, ↓u_kit_tuple_int, ↓u_kit_tuple_str, ↓u_kit_tuple_tuple, ↓u_kit_tuple_list, ↓u_kit_tuple_dict, ↓u_kit_list_bool, ↓u_kit_list_int, ↓u_kit_list_str, ↓u_kit_list_tuple, ↓u_kit_list_list, ↓u_kit_list_dict, ↓u_kit_dict_bool, ↓u_kit_dict_int, ↓u_kit_dict_str, ↓u_kit_dict_tuple, ↓u_kit_dict_list, ↓u_kit_dict_dict, startD, List.set, List.map, List.replicate, List.length_cons, List.length_nil, Nat.reduceAdd, Nat.reduceSub, List.cons_append, List.nil_append, List.append_nil, List.getElem?_cons_zero, List.getElem?_cons_succ, Option.some.injEq, DO.lst.injEq, DO.ins.injEq, DO.dK.injEq, DO.dT.injEq, DO.rdK.injEq, DO.rdT.injEq, exists_eq_left', exists_eq_left, exists_eq', Bool.false_eq_true, reduceCtorEq, Nat.reduceLeDiff, Bool.true_eq_false, if_true, if_false, ite_true, ite_false, Bool.not_true, Bool.not_false, cut2, true_and, and_true, false_and, and_false, decide_eq_true_eq, decide_true, roD_def, Int.reduceToNat, id_eq, forall_const, Nat.zero_le, Nat.le_refl, upD_same, putI, Nat.reduceLT, Nat.lt_irrefl, Nat.zero_lt_one, Nat.not_lt_zero]
    exact k _ (.refl _)
  | bl =>
    simp only [↓u_asB, ↓u_asI, ↓u_asR, ↓u_slot, ↓u_gt1, ↓u_goA_nm, ↓u_goA_tp, ↓u_goAs_nil, ↓u_goAs_cons, ↓u_sSeq, ↓u_sNx, ↓u_sDrop, ↓u_sRet, ↓u_sRetN, ↓u_sIf, ↓u_sAsg, ↓u_sSub, ↓u_sbC_lst, ↓u_sbC_dK, ↓u_sbC_dT, ↓u_sFl, ↓u_sFor, ↓u_tV, ↓u_tK, ↓u_tO, ↓u_tNeg, ↓u_tPn, ↓u_tPs, ↓u_tSlD, ↓u_rSl_tup, ↓u_rSl_rl, ↓u_rSl_ref, ↓u_tFl, ↓u_tN, ↓u_tC, ↓u_tTp, ↓u_tLs, ↓u_tDK, ↓u_tDT, ↓u_tTs, ↓u_tChn, ↓u_tChn3, ↓u_tAn, ↓u_tOr, ↓u_tNt, ↓u_tIfE, ↓u_tAnV, ↓u_tOrV, ↓u_tNtV, ↓u_rAdd_int, ↓u_rAdd_str, ↓u_rAdd_tup, ↓u_rAdd_ref, ↓u_rSub, ↓u_rMod, ↓u_rDiv, ↓u_rPow, ↓u_rLt, ↓u_rLe, ↓u_rGt, ↓u_rGe, ↓u_rMul_int, ↓u_rMul_ref, ↓u_rEq_int, ↓u_rEq_str, ↓u_rEq_bl, ↓u_rEq_nn, ↓u_rEq_in, ↓u_rEq_ni, ↓u_rNe_int, ↓u_rNe_str, ↓u_rNe_bl, ↓u_rNe_nn, ↓u_rNe_in, ↓u_rNe_ni, ↓u_rEq_t2, ↓u_rIsN, ↓u_rIsN_bl, ↓u_rNotN, ↓u_rNotN_bl, ↓u_isNon_non, ↓u_isNon_int, ↓u_isNon_ref, ↓u_isNon_tup, ↓u_isNon_bl, ↓u_isNon_str, ↓u_DG, ↓u_dgC_K, ↓u_dgC_rK, ↓u_dgC_T, ↓u_dgC_rT, ↓u_rInG_ref, ↓u_inC_K, ↓u_inC_rK, ↓u_inC_T, ↓u_inC_ints, ↓u_inC_prs, ↓u_rInG_tup, ↓u_rIx_ref, ↓u_ixC_lst, ↓u_ixC_K, ↓u_ixC_rK, ↓u_ixC_T, ↓u_ixC_rT, ↓u_rIx_tup, ↓u_rIx_rl, ↓u_at0, ↓u_at1, ↓u_at2, ↓u_at3, ↓u_iLs, ↓u_lsI_ref, ↓u_lsI_rl, ↓u_iTp, ↓u_tpI, ↓u_iR1, ↓u_r1I, ↓u_iR2, ↓u_r2I, ↓u_iEn, ↓u_enI, ↓u_iKy, ↓u_kyC_K, ↓u_kyC_T, ↓u_tYs, ↓u_tLcG, ↓u_wipe_nil, ↓u_wipe_cons, ↓u_tCal, ↓u_tMet, ↓u_tMak, ↓u_WdE, ↓u_noW, ↓u_tCb, ↓u_rLen_tup, ↓u_rLen_rl, ↓u_rLen_str, ↓u_rLen_ref, ↓u_lnC_lst, ↓u_lnC_dK, ↓u_rList_tup, ↓u_rList_rl, ↓u_rList_ref, ↓u_rTuple_tup, ↓u_rTuple_ref, ↓u_rInt_int, ↓u_rInt_bl, ↓u_rStr, ↓u_rMin2, ↓u_rMax2, ↓u_rSum, ↓u_tLr1, ↓u_tLr2, ↓u_tBm, ↓u_rApp, ↓u_rPop0, ↓u_rPopI, ↓u_rIns, ↓u_rClr, ↓u_tGet2, ↓u_isD_K, ↓u_isD_T, ↓u_tDisp1, ↓u_ixN41, ↓u_ixN42, ↓u_ixN43, ↓u_isS, ↓u_tSplit, ↓u_rSplit, ↓u_tJn, ↓u_rIntT_str, ↓u_rIntT_int, ↓u_iSr, ↓u_srI, ↓u_rInG_str, ↓u_rIx_str, ↓u_isi_non, ↓u_isi_bl, ↓u_isi_int, ↓u_isi_str, ↓u_isi_tup, ↓u_isi_ref, ↓u_isiC_lst, ↓u_isiC_dK, ↓u_isiC_dT, ↓u_kit_NoneType_bool, ↓u_kit_NoneType_int, ↓u_kit_NoneType_str, ↓u_kit_NoneType_tuple, ↓u_kit_NoneType_list, ↓u_kit_NoneType_dict, ↓u_kit_bool_bool, ↓u_kit_bool_int, ↓u_kit_bool_str, ↓u_kit_bool_tuple, ↓u_kit_bool_list, ↓u_kit_bool_dict, ↓u_kit_int_bool, ↓u_kit_int_int, ↓u_kit_int_str, ↓u_kit_int_tuple, ↓u_kit_int_list, ↓u_kit_int_dict, ↓u_kit_str_bool, ↓u_kit_str_int, ↓u_kit_str_str, ↓u_kit_str_tuple, ↓u_kit_str_list, ↓u_kit_str_dict, ↓u_kit_tuple_bool, ↓u_kit_tuple_int, ↓u_kit_tuple_str, ↓u_kit_tuple_tuple, ↓u_kit_tuple_list, ↓u_kit_tuple_dict, ↓u_kit_list_bool, ↓u_kit_list_int, ↓u_kit_list_str, ↓u_kit_list_tuple, ↓u_kit_list_list, ↓u_kit_list_dict, ↓u_kit_dict_bool, ↓u_kit_dict_int, ↓u_kit_dict_str, ↓u_kit_dict_tuple, ↓u_kit_dict_list, ↓u_kit_dict_dict, startD, List.set, List.map, List.replicate, List.length_cons, List.length_nil, Nat.reduceAdd, Nat.reduceSub, List.cons_append, List.nil_append, List.append_nil, List.getElem?_cons_zero, List.getElem?_cons_succ, Option.some.injEq, DO.lst.injEq, DO.ins.injEq, DO.dK.injEq, DO.dT.injEq, DO.rdK.injEq, DO.rdT.injEq, exists_eq_left', exists_eq_left, exists_eq', Bool.false_eq_true, reduceCtorEq, Nat.reduceLeDiff, Bool.true_eq_false, if_true, if_false, ite_true, ite_false, Bool.not_true, Bool.not_false, cut2, true_and, and_true, false_and, and_false, decide_eq_true_eq, decide_true, roD_def, Int.reduceToNat, id_eq, forall_const, Nat.zero_le, Nat.le_refl, upD_same, putI, Nat.reduceLT, Nat.lt_irrefl, Nat.zero_lt_one, Nat.not_lt_zero]
    exact k _ (.refl _)
  | int =>
    simp only [↓u_asB, ↓u_asI, ↓u_asR, ↓u_slot, ↓u_gt1, ↓u_goA_nm, ↓u_goA_tp, ↓u_goAs_nil, ↓u_goAs_cons, ↓u_sSeq, ↓u_sNx, ↓u_sDrop, ↓u_sRet, ↓u_sRetN, ↓u_sIf, ↓u_sAsg, ↓u_sSub, ↓u_sbC_lst, ↓u_sbC_dK, ↓u_sbC_dT, ↓u_sFl, ↓u_sFor, ↓u_tV, ↓u_tK, ↓u_tO, ↓u_tNeg, ↓u_tPn, ↓u_tPs, ↓u_tSlD, ↓u_rSl_tup, ↓u_rSl_rl, ↓u_rSl_ref, ↓u_tFl, ↓u_tN, ↓u_tC, ↓u_tTp, ↓u_tLs, ↓u_tDK, ↓u_tDT, ↓u_tTs, ↓u_tChn, ↓u_tChn3, ↓u_tAn, ↓u_tOr, ↓u_tNt, ↓u_tIfE, ↓u_tAnV, ↓u_tOrV, ↓u_tNtV, ↓u_rAdd_int, ↓u_rAdd_str, ↓u_rAdd_tup, ↓u_rAdd_ref, ↓u_rSub, ↓u_rMod, ↓u_rDiv, ↓u_rPow, ↓u_rLt, ↓u_rLe, ↓u_rGt, ↓u_rGe, ↓u_rMul_int, ↓u_rMul_ref, ↓u_rEq_int, ↓u_rEq_str, ↓u_rEq_bl, ↓u_rEq_nn, ↓u_rEq_in, ↓u_rEq_ni, ↓u_rNe_int, ↓u_rNe_str, ↓u_rNe_bl, ↓u_rNe_nn, ↓u_rNe_in, ↓u_rNe_ni, ↓u_rEq_t2, ↓u_rIsN, ↓u_rIsN_bl, ↓u_rNotN, ↓u_rNotN_bl, ↓u_isNon_non, ↓u_isNon_int, ↓u_isNon_ref, ↓u_isNon_tup, ↓u_isNon_bl, ↓u_isNon_str, ↓u_DG, ↓u_dgC_K, ↓u_dgC_rK, ↓u_dgC_T, ↓u_dgC_rT, ↓u_rInG_ref, ↓u_inC_K, ↓u_inC_rK, ↓u_inC_T, ↓u_inC_ints, ↓u_inC_prs, ↓u_rInG_tup, ↓u_rIx_ref, ↓u_ixC_lst, ↓u_ixC_K, ↓u_ixC_rK, ↓u_ixC_T, ↓u_ixC_rT, ↓u_rIx_tup, ↓u_rIx_rl, ↓u_at0, ↓u_at1, ↓u_at2, ↓u_at3, ↓u_iLs, ↓u_lsI_ref, ↓u_lsI_rl, ↓u_iTp, ↓u_tpI, ↓u_iR1, ↓u_r1I, ↓u_iR2, ↓u_r2I, ↓u_iEn, ↓u_enI, ↓u_iKy, ↓u_kyC_K, ↓u_kyC_T, ↓u_tYs, ↓u_tLcG, ↓u_wipe_nil, ↓u_wipe_cons, ↓u_tCal, ↓u_tMet, ↓u_tMak, ↓u_WdE, ↓u_noW, ↓u_tCb, ↓u_rLen_tup, ↓u_rLen_rl, ↓u_rLen_str, ↓u_rLen_ref, ↓u_lnC_lst, ↓u_lnC_dK, ↓u_rList_tup, ↓u_rList_rl, ↓u_rList_ref, ↓u_rTuple_tup, ↓u_rTuple_ref, ↓u_rInt_int, ↓u_rInt_bl, ↓u_rStr, ↓u_rMin2, ↓u_rMax2, ↓u_rSum, ↓u_tLr1, ↓u_tLr2, ↓u_tBm, ↓u_rApp, ↓u_rPop0, ↓u_rPopI, ↓u_rIns, ↓u_rClr, ↓u_tGet2, ↓u_isD_K, ↓u_isD_T, ↓u_tDisp1, ↓u_ixN41, ↓u_ixN42, ↓u_ixN43, ↓u_isS, ↓u_tSplit, ↓u_rSplit, ↓u_tJn, ↓u_rIntT_str, ↓u_rIntT_int, ↓u_iSr, ↓u_srI, ↓u_rInG_str, ↓u_rIx_str, ↓u_isi_non, ↓u_isi_bl, ↓u_isi_int, ↓u_isi_str, ↓u_isi_tup, ↓u_isi_ref, ↓u_isiC_lst, ↓u_isiC_dK, ↓u_isiC_dT, ↓u_kit_NoneType_bool, ↓u_kit_NoneType_int, ↓u_kit_NoneType_str, ↓u_kit_NoneType_tuple, ↓u_kit_NoneType_list, ↓u_kit_NoneType_dict, ↓u_kit_bool_bool, ↓u_kit_bool_int, ↓u_kit_bool_str, ↓u_kit_bool_tuple, ↓u_kit_bool_list, ↓u_kit_bool_dict, ↓u_kit_int_bool, ↓u_kit_int_int, ↓u_kit_int_str, ↓u_kit_int_tuple, ↓u_kit_int_list, ↓u_kit_int_dict, ↓u_kit_str_bool, ↓u_kit_str_int, ↓u_kit_str_str, ↓u_kit_str_tuple, ↓u_kit_str_list, ↓u_kit_str_dict, ↓u_kit_tuple_bool, ↓u_kit_tuple_int, ↓u_kit_tuple_str, ↓u_kit_tuple_tuple, ↓u_kit_tuple_list, ↓u_kit_tuple_dict, ↓u_kit_list_bool, ↓u_kit_list_int, ↓u_kit_list_str, ↓u_kit_list_tuple, ↓u_kit_list_list, ↓u_kit_list_dict, ↓u_kit_dict_bool, ↓u_kit_dict_int, ↓u_kit_dict_str, ↓u_kit_dict_tuple, ↓u_kit_dict_list, ↓u_kit_dict_dict, startD, List.set, List.map, List.replicate, List.length_cons, List.length_nil, Nat.reduceAdd, Nat.reduceSub, List.cons_append, List.nil_append, List.append_nil, List.getElem?_cons_zero, List.getElem?_cons_succ, Option.some.injEq, DO.lst.injEq, DO.ins.injEq, DO.dK.injEq, DO.dT.injEq, DO.rdK.injEq, DO.rdT.injEq, exists_eq_left', exists_eq_left, exists_eq', Bool.false_eq_true, reduceCtorEq, Nat.reduceLeDiff, Bool.true_eq_false, if_true, if_false, ite_true, ite_false, Bool.not_true, Bool.not_false, cut2, true_and, and_true, false_and, and_false, decide_eq_true_eq, decide_true, roD_def, Int.reduceToNat, id_eq, forall_const, Nat.zero_le, Nat.le_refl, upD_same, putI, Nat.reduceLT, Nat.lt_irrefl, Nat.zero_lt_one, Nat.not_lt_zero]
    exact k _ (.refl _)
  | str =>
    simp only [↓u_asB, ↓u_asI, ↓u_asR, ↓u_slot, ↓u_gt1, ↓u_goA_nm, ↓u_goA_tp, ↓u_goAs_nil, ↓u_goAs_cons, ↓u_sSeq, ↓u_sNx, ↓u_sDrop, ↓u_sRet, ↓u_sRetN, ↓u_sIf, ↓u_sAsg, ↓u_sSub, ↓u_sbC_lst, ↓u_sbC_dK, ↓u_sbC_dT, ↓u_sFl, ↓u_sFor, ↓u_tV, ↓u_tK, ↓u_tO, ↓u_tNeg, ↓u_tPn, ↓u_tPs, ↓u_tSlD, ↓u_rSl_tup, ↓u_rSl_rl, ↓u_rSl_ref, ↓u_tFl, ↓u_tN, ↓u_tC, ↓u_tTp, ↓u_tLs, ↓u_tDK, ↓u_tDT, ↓u_tTs, ↓u_tChn, ↓u_tChn3, ↓u_tAn, ↓u_tOr, ↓u_tNt, ↓u_tIfE, ↓u_tAnV, ↓u_tOrV, ↓u_tNtV, ↓u_rAdd_int, ↓u_rAdd_str, ↓u_rAdd_tup, ↓u_rAdd_ref, ↓u_rSub, ↓u_rMod, ↓u_rDiv, ↓u_rPow, ↓u_rLt, ↓u_rLe, ↓u_rGt, ↓u_rGe, ↓u_rMul_int, ↓u_rMul_ref, ↓u_rEq_int, ↓u_rEq_str, ↓u_rEq_bl, ↓u_rEq_nn, ↓u_rEq_in, ↓u_rEq_ni, ↓u_rNe_int, ↓u_rNe_str, ↓u_rNe_bl, ↓u_rNe_nn, ↓u_rNe_in, ↓u_rNe_ni, ↓u_rEq_t2, ↓u_rIsN, ↓u_rIsN_bl, ↓u_rNotN, ↓u_rNotN_bl, ↓u_isNon_non, ↓u_isNon_int, ↓u_isNon_ref, ↓u_isNon_tup, ↓u_isNon_bl, ↓u_isNon_str, ↓u_DG, ↓u_dgC_K, ↓u_dgC_rK, ↓u_dgC_T, ↓u_dgC_rT, ↓u_rInG_ref, ↓u_inC_K, ↓u_inC_rK, ↓u_inC_T, ↓u_inC_ints, ↓u_inC_prs, ↓u_rInG_tup, ↓u_rIx_ref, ↓u_ixC_lst, ↓u_ixC_K, ↓u_ixC_rK, ↓u_ixC_T, ↓u_ixC_rT, ↓u_rIx_tup, ↓u_rIx_rl, ↓u_at0, ↓u_at1, ↓u_at2, ↓u_at3, ↓u_iLs, ↓u_lsI_ref, ↓u_lsI_rl, ↓u_iTp, ↓u_tpI, ↓u_iR1, ↓u_r1I, ↓u_iR2, ↓u_r2I, ↓u_iEn, ↓u_enI, ↓u_iKy, ↓u_kyC_K, ↓u_kyC_T, ↓u_tYs, ↓u_tLcG, ↓u_wipe_nil, ↓u_wipe_cons, ↓u_tCal, ↓u_tMet, ↓u_tMak, ↓u_WdE, ↓u_noW, ↓u_tCb, ↓u_rLen_tup, ↓u_rLen_rl, ↓u_rLen_str, ↓u_rLen_ref, ↓u_lnC_lst, ↓u_lnC_dK, ↓u_rList_tup, ↓u_rList_rl, ↓u_rList_ref, ↓u_rTuple_tup, ↓u_rTuple_ref, ↓u_rInt_int, ↓u_rInt_bl, ↓u_rStr, ↓u_rMin2, ↓u_rMax2, ↓u_rSum, ↓u_tLr1, ↓u_tLr2, ↓u_tBm, ↓u_rApp, ↓u_rPop0, ↓u_rPopI, ↓u_rIns, ↓u_rClr, ↓u_tGet2, ↓u_isD_K, ↓u_isD_T, ↓u_tDisp1, ↓u_ixN41, ↓u_ixN42, ↓u_ixN43, ↓u_isS, ↓u_tSplit, ↓u_rSplit, ↓u_tJn, ↓u_rIntT_str, ↓u_rIntT_int, ↓u_iSr, ↓u_srI, ↓u_rInG_str, ↓u_rIx_str, ↓u_isi_non, ↓u_isi_bl, ↓u_isi_int, ↓u_isi_str, ↓u_isi_tup, ↓u_isi_ref, ↓u_isiC_lst, ↓u_isiC_dK, ↓u_isiC_dT, ↓u_kit_NoneType_bool, ↓u_kit_NoneType_int, ↓u_kit_NoneType_str, ↓u_kit_NoneType_tuple, ↓u_kit_NoneType_list, ↓u_kit_NoneType_dict, ↓u_kit_bool_bool, ↓u_kit_bool_int, ↓u_kit_bool_str, ↓u_kit_bool_tuple, ↓u_kit_bool_list, ↓u_kit_bool_dict, ↓u_kit_int_bool, ↓u_kit_int_int, ↓u_kit_int_str, ↓u_kit_int_tuple, ↓u_kit_int_list, ↓u_kit_int_dict, ↓u_kit_str_bool, ↓u_kit_str_int, ↓u_kit_str_str, ↓u_kit_str_tuple, ↓u_kit_str_list, ↓u_kit_str_dict, ↓u_kit_tuple_bool, ↓u_kit_tuple_int, ↓u_kit_tuple_str, ↓u_kit_tuple_tuple, ↓u_kit_tuple_list, ↓u_kit_tuple_dict, ↓u_kit_list_bool, ↓u_kit_list_int, ↓u_kit_list_str, ↓u_kit_list_tuple, ↓u_kit_list_list, ↓u_kit_list_dict, ↓u_kit_dict_bool, ↓u_kit_dict_int, ↓u_kit_dict_str, ↓u_kit_dict_tuple, ↓u_kit_dict_list, ↓u_kit_dict_dict, startD, List.set, List.map, List.replicate, List.length_cons, List.length_nil, Nat.reduceAdd, Nat.reduceSub, List.cons_append, List.nil_append, List.append_nil, List.getElem?_cons_zero, List.getElem?_cons_succ, Option.some.injEq, DO.lst.injEq, DO.ins.injEq, DO.dK.injEq, DO.dT.injEq, DO.rdK.injEq, DO.rdT.injEq, exists_eq_left', exists_eq_left, exists_eq', Bool.false_eq_true, reduceCtorEq, Nat.reduceLeDiff, Bool.true_eq_false, if_true, if_false, ite_true, ite_false, Bool.not_true, Bool.not_false, cut2, true_and, and_true, false_and, and_false, decide_eq_true_eq, decide_true, roD_def, Int.reduceToNat, id_eq, forall_const, Nat.zero_le, Nat.le_refl, upD_same, putI, Nat.reduceLT, Nat.lt_irrefl, Nat.zero_lt_one, Nat.not_lt_zero]
    exact k _ (.refl _)
  | @tup m xs ys h1 h2 h3 =>
    obtain ⟨m', em, rfl⟩ : ∃ m', m + 1 = m' + 1 ∧ me = sn__law_like m' c := hme.resolve_left (by omega)
    have em' : m = m' := by omega
    subst em'
    simp only [↓u_asB, ↓u_asI, ↓u_asR, ↓u_slot, ↓u_gt1, ↓u_goA_nm, ↓u_goA_tp, ↓u_goAs_nil, ↓u_goAs_cons, ↓u_sSeq, ↓u_sNx, ↓u_sDrop, ↓u_sRet, ↓u_sRetN, ↓u_sIf, ↓u_sAsg, ↓u_sSub, ↓u_sbC_lst, ↓u_sbC_dK, ↓u_sbC_dT, ↓u_sFl, ↓u_sFor, ↓u_tV, ↓u_tK, ↓u_tO, ↓u_tNeg, ↓u_tPn, ↓u_tPs, ↓u_tSlD, ↓u_rSl_tup, ↓u_rSl_rl, ↓u_rSl_ref, ↓u_tFl, ↓u_tN, ↓u_tC, ↓u_tTp, ↓u_tLs, ↓u_tDK, ↓u_tDT, ↓u_tTs, ↓u_tChn, ↓u_tChn3, ↓u_tAn, ↓u_tOr, ↓u_tNt, ↓u_tIfE, ↓u_tAnV, ↓u_tOrV, ↓u_tNtV, ↓u_rAdd_int, ↓u_rAdd_str, ↓u_rAdd_tup, ↓u_rAdd_ref, ↓u_rSub, ↓u_rMod, ↓u_rDiv, ↓u_rPow, ↓u_rLt, ↓u_rLe, ↓u_rGt, ↓u_rGe, ↓u_rMul_int, ↓u_rMul_ref, ↓u_rEq_int, ↓u_rEq_str, ↓u_rEq_bl, ↓u_rEq_nn, ↓u_rEq_in, ↓u_rEq_ni, ↓u_rNe_int, ↓u_rNe_str, ↓u_rNe_bl, ↓u_rNe_nn, ↓u_rNe_in, ↓u_rNe_ni, ↓u_rEq_t2, ↓u_rIsN, ↓u_rIsN_bl, ↓u_rNotN, ↓u_rNotN_bl, ↓u_isNon_non, ↓u_isNon_int, ↓u_isNon_ref, ↓u_isNon_tup, ↓u_isNon_bl, ↓u_isNon_str, ↓u_DG, ↓u_dgC_K, ↓u_dgC_rK, ↓u_dgC_T, ↓u_dgC_rT, ↓u_rInG_ref, ↓u_inC_K, ↓u_inC_rK, ↓u_inC_T, ↓u_inC_ints, ↓u_inC_prs, ↓u_rInG_tup, ↓u_rIx_ref, ↓u_ixC_lst, ↓u_ixC_K, ↓u_ixC_rK, ↓u_ixC_T, ↓u_ixC_rT, ↓u_rIx_tup, ↓u_rIx_rl, ↓u_at0, ↓u_at1, ↓u_at2, ↓u_at3, ↓u_iLs, ↓u_lsI_ref, ↓u_lsI_rl, ↓u_iTp, ↓u_tpI, ↓u_iR1, ↓u_r1I, ↓u_iR2, ↓u_r2I, ↓u_iEn, ↓u_enI, ↓u_iKy, ↓u_kyC_K, ↓u_kyC_T, ↓u_tYs, ↓u_tLcG, ↓u_wipe_nil, ↓u_wipe_cons, ↓u_tCal, ↓u_tMet, ↓u_tMak, ↓u_WdE, ↓u_noW, ↓u_tCb, ↓u_rLen_tup, ↓u_rLen_rl, ↓u_rLen_str, ↓u_rLen_ref, ↓u_lnC_lst, ↓u_lnC_dK, ↓u_rList_tup, ↓u_rList_rl, ↓u_rList_ref, ↓u_rTuple_tup, ↓u_rTuple_ref, ↓u_rInt_int, ↓u_rInt_bl, ↓u_rStr, ↓u_rMin2, ↓u_rMax2, ↓u_rSum, ↓u_tLr1, ↓u_tLr2, ↓u_tBm, ↓u_rApp, ↓u_rPop0, ↓u_rPopI, ↓u_rIns, ↓u_rClr, ↓u_tGet2, ↓u_isD_K, ↓u_isD_T, ↓u_tDisp1, ↓u_ixN41, ↓u_ixN42, ↓u_ixN43, ↓u_isS, ↓u_tSplit, ↓u_rSplit, ↓u_tJn, ↓u_rIntT_str, ↓u_rIntT_int, ↓u_iSr, ↓u_srI, ↓u_rInG_str, ↓u_rIx_str, ↓u_isi_non, ↓u_isi_bl, ↓u_isi_int, ↓u_isi_str, ↓u_isi_tup, ↓u_isi_ref, ↓u_isiC_lst, ↓u_isiC_dK, ↓u_isiC_dT, ↓u_kit_NoneType_bool, ↓u_kit_NoneType_int, ↓u_kit_NoneType_str, ↓u_kit_NoneType_tuple, ↓u_kit_NoneType_list, ↓u_kit_NoneType_dict, ↓u_kit_bool_bool, ↓u_kit_bool_int, ↓u_kit_bool_str, ↓u_kit_bool_tuple, ↓u_kit_bool_list, ↓u_kit_bool_dict, ↓u_kit_int_bool, ↓u_kit_int_int, ↓u_kit_int_str, ↓u_kit_int_tuple, ↓u_kit_int_list, ↓u_kit_int_dict, ↓u_kit_str_bool, ↓u_kit_str_int, ↓u_kit_str_str, ↓u_kit_str_tuple, ↓u_kit_str_list, ↓u_kit_str_dict, ↓u_kit_tuple_bool, ↓u_kit_tuple_int, ↓u_kit_tuple_str, ↓u_kit_tuple_tuple, ↓u_kit_tuple_list, ↓u_kit_tuple_dict, ↓u_kit_list_bool, ↓u_kit_list_int, ↓u_kit_list_str, ↓u_kit_list_tuple, ↓u_kit_list_list, ↓u_kit_list_dict, ↓u_kit_dict_bool, ↓u_kit_dict_int, ↓u_kit_dict_str, ↓u_kit_dict_tuple, ↓u_kit_dict_list, ↓u_kit_dict_dict, startD, List.set, List.map, List.replicate, List.length_cons, List.length_nil, Nat.reduceAdd, Nat.reduceSub, List.cons_append, List.nil_append, List.append_nil, List.getElem?_cons_zero, List.getElem?_cons_succ, Option.some.injEq, DO.lst.injEq, DO.ins.injEq, DO.dK.injEq, DO.dT.injEq, DO.rdK.injEq, DO.rdT.injEq, exists_eq_left', exists_eq_left, exists_eq', Bool.false_eq_true, reduceCtorEq, Nat.reduceLeDiff, Bool.true_eq_false, if_true, if_false, ite_true, ite_false, Bool.not_true, Bool.not_false, cut2, true_and, and_true, false_and, and_false, decide_eq_true_eq, decide_true, roD_def, Int.reduceToNat, id_eq, forall_const, Nat.zero_le, Nat.le_refl, upD_same, putI, Nat.reduceLT, Nat.lt_irrefl, Nat.zero_lt_one, Nat.not_lt_zero]
    rw [if_neg (by simp; omega)]
    refine ⟨⟨by omega, by omega⟩, loop m _ _ xs ys _ (.nm 2) rfl h1 h2 h3 (fun H Q i x e hx q => ?_) fun H Q i x e hx q => ?_⟩
    · exact ⟨_, _, rfl, by rw [Int.zero_add]; exact L2.atI_nat hx, q⟩
    · exact ⟨_, _, rfl, by rw [Int.zero_add]; exact L2.atI_nat hx, q⟩
  | @lst m a b xs ys e1 e2 h1 h2 h3 =>
    obtain ⟨m', em, rfl⟩ : ∃ m', m + 1 = m' + 1 ∧ me = sn__law_like m' c := hme.resolve_left (by omega)
    have em' : m = m' := by omega
    subst em'
    simp only [↓u_asB, ↓u_asI, ↓u_asR, ↓u_slot, ↓u_gt1, ↓u_goA_nm, ↓u_goA_tp, ↓u_goAs_nil, ↓u_goAs_cons, ↓u_sSeq, ↓u_sNx, ↓u_sDrop, ↓u_sRet, ↓u_sRetN, ↓u_sIf, ↓u_sAsg, ↓u_sSub, ↓u_sbC_lst, ↓u_sbC_dK, ↓u_sbC_dT, ↓u_sFl, ↓u_sFor, ↓u_tV, ↓u_tK, ↓u_tO, ↓u_tNeg, ↓u_tPn, ↓u_tPs, ↓u_tSlD, ↓u_rSl_tup, ↓u_rSl_rl, ↓u_rSl_ref, ↓u_tFl, ↓u_tN, ↓u_tC, ↓u_tTp, ↓u_tLs, ↓u_tDK, ↓u_tDT, ↓u_tTs, ↓u_tChn, ↓u_tChn3, ↓u_tAn, ↓u_tOr, ↓u_tNt, ↓u_tIfE, ↓u_tAnV, ↓u_tOrV, ↓u_tNtV, ↓u_rAdd_int, ↓u_rAdd_str, ↓u_rAdd_tup, ↓u_rAdd_ref, ↓u_rSub, ↓u_rMod, ↓u_rDiv, ↓u_rPow, ↓u_rLt, ↓u_rLe, ↓u_rGt, ↓u_rGe, ↓u_rMul_int, ↓u_rMul_ref, ↓u_rEq_int, ↓u_rEq_str, ↓u_rEq_bl, ↓u_rEq_nn, ↓u_rEq_in, ↓u_rEq_ni, ↓u_rNe_int, ↓u_rNe_str, ↓u_rNe_bl, ↓u_rNe_nn, ↓u_rNe_in, ↓u_rNe_ni, ↓u_rEq_t2, ↓u_rIsN, ↓u_rIsN_bl, ↓u_rNotN, ↓u_rNotN_bl, ↓u_isNon_non, ↓u_isNon_int, ↓u_isNon_ref, ↓u_isNon_tup, ↓u_isNon_bl, ↓u_isNon_str, ↓u_DG, ↓u_dgC_K, ↓u_dgC_rK, ↓u_dgC_T, ↓u_dgC_rT, ↓u_rInG_ref, ↓u_inC_K, ↓u_inC_rK, ↓u_inC_T, ↓u_inC_ints, ↓u_inC_prs, ↓u_rInG_tup, ↓u_rIx_ref, ↓u_ixC_lst, ↓u_ixC_K, ↓u_ixC_rK, ↓u_ixC_T, ↓u_ixC_rT, ↓u_rIx_tup, ↓u_rIx_rl, ↓u_at0, ↓u_at1, ↓u_at2, ↓u_at3, ↓u_iLs, ↓u_lsI_ref, ↓u_lsI_rl, ↓u_iTp, ↓u_tpI, ↓u_iR1, ↓u_r1I, ↓u_iR2, ↓u_r2I, ↓u_iEn, ↓u_enI, ↓u_iKy, ↓u_kyC_K, ↓u_kyC_T, ↓u_tYs, ↓u_tLcG, ↓u_wipe_nil, ↓u_wipe_cons, ↓u_tCal, ↓u_tMet, ↓u_tMak, ↓u_WdE, ↓u_noW, ↓u_tCb, ↓u_rLen_tup, ↓u_rLen_rl, ↓u_rLen_str, ↓u_rLen_ref, ↓u_lnC_lst, ↓u_lnC_dK, ↓u_rList_tup, ↓u_rList_rl, ↓u_rList_ref, ↓u_rTuple_tup, ↓u_rTuple_ref, ↓u_rInt_int, ↓u_rInt_bl, ↓u_rStr, ↓u_rMin2, ↓u_rMax2, ↓u_rSum, ↓u_tLr1, ↓u_tLr2, ↓u_tBm, ↓u_rApp, ↓u_rPop0, ↓u_rPopI, ↓u_rIns, ↓u_rClr, ↓u_tGet2, ↓u_isD_K, ↓u_isD_T, ↓u_tDisp1, ↓u_ixN41, ↓u_ixN42, ↓u_ixN43, ↓u_isS, ↓u_tSplit, ↓u_rSplit, ↓u_tJn, ↓u_rIntT_str, ↓u_rIntT_int, ↓u_iSr, ↓u_srI, ↓u_rInG_str, ↓u_rIx_str, ↓u_isi_non, ↓u_isi_bl, ↓u_isi_int, ↓u_isi_str, ↓u_isi_tup, ↓u_isi_ref, ↓u_isiC_lst, ↓u_isiC_dK, ↓u_isiC_dT, ↓u_kit_NoneType_bool, ↓u_kit_NoneType_int, ↓u_kit_NoneType_str, ↓u_kit_NoneType_tuple, ↓u_kit_NoneType_list, ↓u_kit_NoneType_dict, ↓u_kit_bool_bool, ↓u_kit_bool_int, ↓u_kit_bool_str, ↓u_kit_bool_tuple, ↓u_kit_bool_list, ↓u_kit_bool_dict, ↓u_kit_int_bool, ↓u_kit_int_int, ↓u_kit_int_str, ↓u_kit_int_tuple, ↓u_kit_int_list, ↓u_kit_int_dict, ↓u_kit_str_bool, ↓u_kit_str_int, ↓u_kit_str_str, ↓u_kit_str_tuple, ↓u_kit_str_list, ↓u_kit_str_dict, ↓u_kit_tuple_bool, ↓u_kit_tuple_int, ↓u_kit_tuple_str, ↓u_kit_tuple_tuple, ↓u_kit_tuple_list, ↓u_kit_tuple_dict, ↓u_kit_list_bool, ↓u_kit_list_int, ↓u_kit_list_str, ↓u_kit_list_tuple, ↓u_kit_list_list, ↓u_kit_list_dict, ↓u_kit_dict_bool, ↓u_kit_dict_int, ↓u_kit_dict_str, ↓u_kit_dict_tuple, ↓u_kit_dict_list, ↓u_kit_dict_dict, startD, List.set, List.map, List.replicate, List.length_cons, List.length_nil, Nat.reduceAdd, Nat.reduceSub, List.cons_append, List.nil_append, List.append_nil, List.getElem?_cons_zero, List.getElem?_cons_succ, Option.some.injEq, DO.lst.injEq, DO.ins.injEq, DO.dK.injEq, DO.dT.injEq, DO.rdK.injEq, DO.rdT.injEq, exists_eq_left', exists_eq_left, exists_eq', Bool.false_eq_true, reduceCtorEq, Nat.reduceLeDiff, Bool.true_eq_false, if_true, if_false, ite_true, ite_false, Bool.not_true, Bool.not_false, cut2, true_and, and_true, false_and, and_false, decide_eq_true_eq, decide_true, roD_def, Int.reduceToNat, id_eq, forall_const, Nat.zero_le, Nat.le_refl, upD_same, putI, Nat.reduceLT, Nat.lt_irrefl, Nat.zero_lt_one, Nat.not_lt_zero, e1, e2]
    rw [if_neg (by simp; omega)]
    refine ⟨⟨by omega, by omega⟩, loop m _ _ xs ys _ (.nm 2) rfl h1 h2 h3 (fun H Q i x e hx q => ?_) fun H Q i x e hx q => ?_⟩
    · exact ⟨_, e _ _ e1, _, _, rfl, by rw [Int.zero_add]; exact L2.atI_nat hx, q⟩
    · exact ⟨_, e _ _ e2, _, _, rfl, by rw [Int.zero_add]; exact L2.atI_nat hx, q⟩
end Lt


end
section
set_option Elab.async false
set_option linter.all false
set_option maxRecDepth 100000
set_option maxHeartbeats 2000000
/-! Mst: the least tree, road by road: a road is in it if no cheaper roads lead from its one hand to the other. -/
namespace Lt
open PySem PySem.Spec L2
theorem Rch.tr {rs : List Rd} {x y z : Int} (h : Rch rs x y) (k : Rch rs y z) : Rch rs x z := by
  induction k with
  | base => exact h
  | fwd hr _ ih => exact .fwd hr ih
  | bwd hr _ ih => exact .bwd hr ih
theorem Rch.sy {rs : List Rd} {x y : Int} (h : Rch rs x y) : Rch rs y x := by
  induction h with
  | base => exact .base
  | fwd hr _ ih => exact Rch.tr (.bwd hr .base) ih
  | bwd hr _ ih => exact Rch.tr (.fwd hr .base) ih
/-- roads each of which is led over lead no further -/
theorem Rch.lift {rs ss : List Rd} (h : ∀ r ∈ rs, Rch ss r.o r.t) {x y : Int} (k : Rch rs x y) : Rch ss x y := by
  induction k with
  | base => exact .base
  | fwd hr _ ih => exact ih.tr (h _ hr)
  | bwd hr _ ih => exact ih.tr (h _ hr).sy
def cheap (rs : List Rd) (c : Int) : List Rd := rs.filter fun s => decide (s.c < c)
theorem mem_cheap {rs : List Rd} {c : Int} {s : Rd} : s ∈ cheap rs c ↔ s ∈ rs ∧ s.c < c := by unfold cheap; simp
def InT (rs : List Rd) (r : Rd) : Prop := r ∈ rs ∧ ¬ Rch (cheap rs r.c) r.o r.t
def Cd (rs : List Rd) : Prop := rs.Pairwise fun r s => r.c ≠ s.c
theorem Cd.inj {rs : List Rd} (h : Cd rs) {i j : Nat} {r s : Rd} (hi : rs[i]? = some r) (hj : rs[j]? = some s) (e : r.c = s.c) : i = j := by
  obtain ⟨hi', ei⟩ := List.getElem?_eq_some_iff.mp hi
  obtain ⟨hj', ej⟩ := List.getElem?_eq_some_iff.mp hj
  rcases Nat.lt_trichotomy i j with z | z | z
  · have := List.pairwise_iff_getElem.mp h i j hi' hj' z
    rw [ei, ej] at this
    exact absurd e this
  · exact z
  · have := List.pairwise_iff_getElem.mp h j i hj' hi' z
    rw [ei, ej] at this
    exact absurd e.symm this
theorem Cd.eq {rs : List Rd} (h : Cd rs) {r s : Rd} (hr : r ∈ rs) (hs : s ∈ rs) (e : r.c = s.c) : r = s := by
  obtain ⟨i, hi⟩ := List.getElem?_of_mem hr
  obtain ⟨j, hj⟩ := List.getElem?_of_mem hs
  have := h.inj hi hj e
  subst this
  rw [hi] at hj
  exact Option.some.inj hj
theorem kRun_mem {rs : List Rd} (l : List (Int × Int)) : ∀ (n : Nat) (r : Rd), n ≤ l.length → (r ∈ (kRun rs (l.take n)).1 ↔ ∃ i p, i < n ∧ l[i]? = some p ∧ rs[p.2.toNat]? = some r ∧ ¬ Rch (kRun rs (l.take i)).1 r.o r.t) := by
  intro n
  induction n with
  | zero =>
    intro r _
    constructor
    · intro h; cases h
    · rintro ⟨i, _, h, _⟩; omega
  | succ n ih =>
    intro r hn
    have hlt : n < l.length := by omega
    obtain ⟨p, hp⟩ : ∃ p, l[n]? = some p := ⟨_, List.getElem?_eq_getElem hlt⟩
    rw [kRun_take hp]
    have key : r ∈ (kStep rs (kRun rs (l.take n)) p).1 ↔ r ∈ (kRun rs (l.take n)).1 ∨ (rs[p.2.toNat]? = some r ∧ ¬ Rch (kRun rs (l.take n)).1 r.o r.t) := by
      unfold kStep
      cases hq : rs[p.2.toNat]? with
      | none => simp
      | some s =>
        by_cases g : Rch (kRun rs (l.take n)).1 s.o s.t
        · simp only [if_pos g]
          constructor
          · exact .inl
          · rintro (h | ⟨h, h2⟩)
            · exact h
            · cases h; exact absurd g h2
        · simp only [if_neg g]
          show r ∈ _ ++ [s] ↔ _
          rw [List.mem_append, List.mem_singleton]
          constructor
          · rintro (h | rfl)
            · exact .inl h
            · exact .inr ⟨rfl, g⟩
          · rintro (h | ⟨h, _⟩)
            · exact .inl h
            · cases h; exact .inr rfl
    rw [key, ih r (by omega)]
    constructor
    · rintro (⟨i, q, h1, h2, h3, h4⟩ | ⟨h3, h4⟩)
      · exact ⟨i, q, by omega, h2, h3, h4⟩
      · exact ⟨n, p, by omega, hp, h3, h4⟩
    · rintro ⟨i, q, h1, h2, h3, h4⟩
      by_cases e : i = n
      · subst e
        rw [hp] at h2
        cases h2
        exact .inr ⟨h3, h4⟩
      · exact .inl ⟨i, q, by omega, h2, h3, h4⟩
theorem costNums_nodup (rs : List Rd) : (costNums rs).Nodup := by
  unfold costNums
  refine List.pairwise_map.mpr ?_
  refine List.pairwise_iff_getElem.mpr fun i j hi hj hij => ?_
  rw [List.getElem_zipIdx, List.getElem_zipIdx]
  intro e
  have := congrArg Prod.snd e
  simp at this
  omega
/-- the roads ahead in the sorted list are the cheaper ones -/
theorem ahead {rs : List Rd} (hc : Cd rs) {i : Nat} {j : Nat} {r : Rd} (hi : (sortP (costNums rs))[i]? = some (r.c, (j : Int))) (hr : rs[j]? = some r) {s : Rd} : s ∈ cheap rs r.c ↔ ∃ (i' j' : Nat), i' < i ∧ (sortP (costNums rs))[i']? = some (s.c, (j' : Int)) ∧ rs[j']? = some s := by
  have hnd : (sortP (costNums rs)).Nodup := (sortP_perm _).nodup_iff.mpr (costNums_nodup rs)
  have hso := sortP_sorted (costNums rs)
  have lt : ∀ {a b : Nat} {p q : Int × Int}, a < b → (sortP (costNums rs))[a]? = some p → (sortP (costNums rs))[b]? = some q → p.1 ≤ q.1 := by
    intro a b p q hab ha hb
    obtain ⟨ha', ea⟩ := List.getElem?_eq_some_iff.mp ha
    obtain ⟨hb', eb⟩ := List.getElem?_eq_some_iff.mp hb
    have := List.pairwise_iff_getElem.mp hso a b ha' hb' hab
    rw [ea, eb] at this
    have := leP_iff.mp this
    omega
  rw [mem_cheap]
  constructor
  · rintro ⟨hs, hlt⟩
    obtain ⟨j', hj'⟩ := List.getElem?_of_mem hs
    obtain ⟨i', hi'⟩ := List.getElem?_of_mem ((sortP_perm _).mem_iff.mpr (costNums_all hj'))
    refine ⟨i', j', ?_, hi', hj'⟩
    rcases Nat.lt_trichotomy i' i with z | z | z
    · exact z
    · subst z
      rw [hi] at hi'
      have := congrArg Prod.fst (Option.some.inj hi')
      simp at this
      omega
    · have := lt z hi hi'
      simp at this
      omega
  · rintro ⟨i', j', h1, h2, h3⟩
    refine ⟨List.mem_of_getElem? h3, ?_⟩
    have h4 := lt h1 h2 hi
    simp at h4
    rcases Int.lt_or_eq_of_le h4 with z | z
    · exact z
    · have := hc.inj h3 hr z
      subst this
      rw [z] at h2
      have := (List.getElem?_inj (List.getElem?_eq_some_iff.mp h2).1 hnd).mp (h2.trans hi.symm)
      omega
theorem kept_cheap {rs : List Rd} (hc : Cd rs) {i j : Nat} {r : Rd} (hi : (sortP (costNums rs))[i]? = some (r.c, (j : Int))) (hr : rs[j]? = some r) {x y : Int} : Rch (kRun rs ((sortP (costNums rs)).take i)).1 x y ↔ Rch (cheap rs r.c) x y := by
  have hil := (List.getElem?_eq_some_iff.mp hi).1
  constructor
  · intro h
    refine h.mem fun s hs => ?_
    obtain ⟨i', p, h1, h2, h3, _⟩ := (kRun_mem _ i s (by omega)).mp hs
    obtain ⟨j', r', hj', rfl⟩ := sortP_mem h2
    rw [Int.toNat_natCast, hj'] at h3
    cases h3
    exact (ahead hc hi hr).mpr ⟨i', j', h1, h2, hj'⟩
  · intro h
    refine h.lift fun s hs => ?_
    obtain ⟨i', j', h1, h2, h3⟩ := (ahead hc hi hr).mp hs
    refine kRun_span _ (s.c, (j' : Int)) ?_ s (by rw [Int.toNat_natCast]; exact h3)
    exact List.mem_of_getElem? (i := i') (by rw [List.getElem?_take, if_pos h1]; exact h2)
/-- THE LEAST TREE -/
theorem kru_T {rs : List Rd} (hc : Cd rs) {r : Rd} : r ∈ pick rs (kru rs) ↔ InT rs r := by
  rw [pick_kru]
  have e : kRun rs (sortP (costNums rs)) = kRun rs ((sortP (costNums rs)).take (sortP (costNums rs)).length) := by rw [List.take_length]
  rw [e, kRun_mem _ _ r (Nat.le_refl _)]
  constructor
  · rintro ⟨i, p, h1, h2, h3, h4⟩
    obtain ⟨j, r', hj, rfl⟩ := sortP_mem h2
    rw [Int.toNat_natCast, hj] at h3
    cases h3
    exact ⟨List.mem_of_getElem? hj, fun z => h4 ((kept_cheap hc h2 hj).mpr z)⟩
  · rintro ⟨hr, h⟩
    obtain ⟨j, hj⟩ := List.getElem?_of_mem hr
    obtain ⟨i, hi⟩ := List.getElem?_of_mem ((sortP_perm _).mem_iff.mpr (costNums_all hj))
    exact ⟨i, _, (List.getElem?_eq_some_iff.mp hi).1, hi, by rw [Int.toNat_natCast]; exact hj, fun z => h ((kept_cheap hc hi hj).mp z)⟩
end Lt

end
section
set_option Elab.async false
set_option linter.all false
set_option maxRecDepth 100000
set_option maxHeartbeats 2000000
/-! M38: forests, what parts two hands, a road more. -/
namespace Lt
open PySem PySem.Spec L2
def del (l : List Rd) (k : Rd) : List Rd := l.filter fun s => !decide (s = k)
theorem mem_del {l : List Rd} {k s : Rd} : s ∈ del l k ↔ s ∈ l ∧ s ≠ k := by unfold del; simp
def Forest (l : List Rd) : Prop := ∀ k ∈ l, ¬ Rch (del l k) k.o k.t
theorem Forest.app {l : List Rd} {r : Rd} (f : Forest l) (h : ¬ Rch l r.o r.t) : Forest (l ++ [r]) := by
  have hr : r ∉ l := fun z => h (.fwd z .base)
  intro k hk z
  by_cases e : k = r
  · subst e
    refine h (z.mem fun s hs => ?_)
    obtain ⟨h1, h2⟩ := mem_del.mp hs
    rcases List.mem_append.mp h1 with y | y
    · exact y
    · exact absurd (List.mem_singleton.mp y) h2
  · have hkl : k ∈ l := by
      rcases List.mem_append.mp hk with y | y
      · exact y
      · exact absurd (List.mem_singleton.mp y) e
    have z' : Rch (del l k ++ [r]) k.o k.t := z.mem fun s hs => by
      obtain ⟨h1, h2⟩ := mem_del.mp hs
      rcases List.mem_append.mp h1 with y | y
      · exact List.mem_append_left _ (mem_del.mpr ⟨y, h2⟩)
      · exact List.mem_append_right _ y
    have up : ∀ {x y : Int}, Rch (del l k) x y → Rch l x y := fun q => q.mem fun s hs => (mem_del.mp hs).1
    have ke : Rch l k.o k.t := .fwd hkl .base
    rcases rch_join.mp z' with q | ⟨q | q, p | p⟩
    · exact f k hkl q
    · exact f k hkl (q.tr p)
    · exact h ((up q).sy.tr (ke.tr (up p).sy))
    · exact h ((up p).tr (ke.sy.tr (up q)))
    · exact f k hkl (q.tr p)
theorem Forest.congr {l m : List Rd} (h : ∀ s, s ∈ l ↔ s ∈ m) (f : Forest l) : Forest m := fun k hk z =>
  f k ((h k).mpr hk) (z.mem fun s hs => mem_del.mpr ⟨(h s).mpr (mem_del.mp hs).1, (mem_del.mp hs).2⟩)
theorem kRun_forest {rs : List Rd} (l : List (Int × Int)) : Forest (kRun rs l).1 := by
  have go : ∀ (l : List (Int × Int)) (s : List Rd × List Int), Forest s.1 → Forest (l.foldl (kStep rs) s).1 := by
    intro l
    induction l with
    | nil => intro s h; exact h
    | cons p l ih =>
      intro s h
      rw [List.foldl_cons]
      refine ih _ ?_
      unfold kStep
      split
      · split
        · exact h
        · rename_i g
          exact h.app g
      · exact h
  exact go l ([], []) fun k hk => by cases hk
theorem kru_forest (rs : List Rd) : Forest (pick rs (kru rs)) := (kRun_forest (sortP (costNums rs))).congr fun s => pick_kru.symm
/-- k parts a from b in T -/
def Sep (T : List Rd) (a b : Int) (k : Rd) : Prop := k ∈ T ∧ ¬ Rch (del T k) a b
theorem cheap_del {T : List Rd} {k : Rd} {c : Int} (h : c ≤ k.c) {x y : Int} (q : Rch (cheap T c) x y) : Rch (del T k) x y := q.mem fun s hs => by
  obtain ⟨h1, h2⟩ := mem_cheap.mp hs
  exact mem_del.mpr ⟨h1, fun e => by rw [e] at h2; omega⟩
theorem first_join {A : List Rd} {a b : Int} (hn : ¬ Rch A a b) : ∀ {L : List Rd}, Rch (A ++ L) a b → ∃ L1 k L2, L = L1 ++ k :: L2 ∧ ¬ Rch (A ++ L1) a b ∧ Rch (A ++ L1 ++ [k]) a b := by
  intro L
  induction L generalizing A with
  | nil => intro h; rw [List.append_nil] at h; exact absurd h hn
  | cons k L ih =>
    intro h
    by_cases g : Rch (A ++ [k]) a b
    · exact ⟨[], k, L, rfl, by rw [List.append_nil]; exact hn, by rw [List.append_nil]; exact g⟩
    · obtain ⟨L1, k', L2, e, h1, h2⟩ := ih g (by rw [List.append_assoc]; exact h)
      refine ⟨k :: L1, k', L2, by rw [e]; rfl, ?_, ?_⟩
      · rw [List.append_assoc] at h1; exact h1
      · rw [List.append_assoc] at h2
        rw [List.append_assoc] at h2
        simpa using h2
/-- cheap roads of a forest join a and b iff all that part them are cheap -/
theorem thr {T : List Rd} (f : Forest T) (hnd : T.Nodup) {a b : Int} (hab : Rch T a b) {c : Int} : Rch (cheap T c) a b ↔ ∀ k, Sep T a b k → k.c < c := by
  constructor
  · intro h k ⟨hk, hs⟩
    rcases Int.lt_or_le k.c c with z | z
    · exact z
    · exact absurd (cheap_del z h) hs
  · intro h
    by_cases g : Rch (cheap T c) a b
    · exact g
    · exfalso
      have hall : Rch (cheap T c ++ T.filter fun s => !decide (s.c < c)) a b := hab.mem fun s hs => by
        by_cases z : s.c < c
        · exact List.mem_append_left _ (mem_cheap.mpr ⟨hs, z⟩)
        · exact List.mem_append_right _ (by simp [hs]; omega)
      obtain ⟨L1, k, L2, eL, h1, h2⟩ := first_join g hall
      have hkm : k ∈ T.filter fun s => !decide (s.c < c) := by rw [eL]; simp
      have hkT : k ∈ T := (List.mem_filter.mp hkm).1
      have hkc : ¬ k.c < c := by simpa using (List.mem_filter.mp hkm).2
      have hL1 : k ∉ L1 := by
        have hnd2 : (T.filter fun s => !decide (s.c < c)).Nodup := hnd.filter _
        rw [eL] at hnd2
        have := (List.nodup_append.mp hnd2).2.2
        intro z
        exact this k z k (List.mem_cons_self ..) rfl
      have hsub : ∀ {x y : Int}, Rch (cheap T c ++ L1) x y → Rch (del T k) x y := fun q => q.mem fun s hs => by
        rcases List.mem_append.mp hs with y | y
        · obtain ⟨y1, y2⟩ := mem_cheap.mp y
          exact mem_del.mpr ⟨y1, fun e => hkc (e ▸ y2)⟩
        · have : s ∈ T.filter fun s => !decide (s.c < c) := by rw [eL]; exact List.mem_append_left _ y
          exact mem_del.mpr ⟨(List.mem_filter.mp this).1, fun e => hL1 (e ▸ y)⟩
      have hsep : Sep T a b k := by
        refine ⟨hkT, fun z => ?_⟩
        rcases rch_join.mp h2 with q | ⟨q | q, p | p⟩
        · exact h1 q
        · exact h1 (q.tr p)
        · exact f k hkT ((hsub q).sy.tr (z.tr (hsub p).sy))
        · exact f k hkT ((hsub p).tr (z.sy.tr (hsub q)))
        · exact h1 (q.tr p)
      exact hkc (h k hsep)
theorem Cd.nodup {rs : List Rd} (h : Cd rs) : rs.Nodup := h.imp fun z e => z (by rw [e])
theorem kept_sub {rs : List Rd} (hc : Cd rs) {i j : Nat} {r : Rd} (hi : (sortP (costNums rs))[i]? = some (r.c, (j : Int))) (hr : rs[j]? = some r) : ∀ s ∈ (kRun rs ((sortP (costNums rs)).take i)).1, InT rs s ∧ s.c < r.c := by
  intro s hs
  have hil := (List.getElem?_eq_some_iff.mp hi).1
  obtain ⟨i', p, h1, h2, h3, h4⟩ := (kRun_mem _ i s (by omega)).mp hs
  obtain ⟨j', r', hj', rfl⟩ := sortP_mem h2
  rw [Int.toNat_natCast, hj'] at h3
  cases h3
  have hcs := (ahead hc hi hr).mpr ⟨i', j', h1, h2, hj'⟩
  refine ⟨(kru_T hc).mp (pick_kru.mpr ?_), (mem_cheap.mp hcs).2⟩
  have e : kRun rs (sortP (costNums rs)) = kRun rs ((sortP (costNums rs)).take (sortP (costNums rs)).length) := by rw [List.take_length]
  rw [e]
  exact (kRun_mem _ _ s (Nat.le_refl _)).mpr ⟨i', _, by omega, h2, by rw [Int.toNat_natCast]; exact hj', h4⟩
/-- cheap roads lead where cheap roads of the tree lead -/
theorem cheapT {rs : List Rd} (hc : Cd rs) {c x y : Int} : Rch (cheap rs c) x y ↔ Rch (cheap (pick rs (kru rs)) c) x y := by
  constructor
  · intro h
    refine h.lift fun s hs => ?_
    obtain ⟨h1, h2⟩ := mem_cheap.mp hs
    by_cases g : InT rs s
    · exact .fwd (mem_cheap.mpr ⟨(kru_T hc).mpr g, h2⟩) .base
    · have q : Rch (cheap rs s.c) s.o s.t := Classical.byContradiction fun z => g ⟨h1, z⟩
      obtain ⟨j, hj⟩ := List.getElem?_of_mem h1
      obtain ⟨i, hi⟩ := List.getElem?_of_mem ((sortP_perm _).mem_iff.mpr (costNums_all hj))
      refine ((kept_cheap hc hi hj).mpr q).mem fun u hu => ?_
      obtain ⟨w1, w2⟩ := kept_sub hc hi hj u hu
      exact mem_cheap.mpr ⟨(kru_T hc).mpr w1, by omega⟩
  · intro h
    refine h.mem fun s hs => ?_
    obtain ⟨h1, h2⟩ := mem_cheap.mp hs
    exact mem_cheap.mpr ⟨((kru_T hc).mp h1).1, h2⟩
theorem pick_nodup {rs : List Rd} (h : Cd rs) : (pick rs (kru rs)).Nodup ∧ (kru rs).Nodup := by
  have h1 : ∀ (l : List (Int × Int)), List.Sublist (kRun rs l).2 (l.map (·.2)) := by
    have go : ∀ (l : List (Int × Int)) (s : List Rd × List Int), ∃ m, (l.foldl (kStep rs) s).2 = s.2 ++ m ∧ List.Sublist m (l.map (·.2)) := by
      intro l
      induction l with
      | nil => intro s; exact ⟨[], by simp, List.Sublist.refl _⟩
      | cons p l ih =>
        intro s
        rw [List.foldl_cons]
        obtain ⟨m, e, hm⟩ := ih (kStep rs s p)
        have hor : (kStep rs s p).2 = s.2 ∨ (kStep rs s p).2 = s.2 ++ [p.2] := by
          unfold kStep
          split
          · split
            · exact .inl rfl
            · exact .inr rfl
          · exact .inl rfl
        rcases hor with z | z
        · rw [z] at e
          exact ⟨m, e, List.Sublist.cons _ hm⟩
        · rw [z] at e
          exact ⟨p.2 :: m, by rw [e]; simp, List.Sublist.cons₂ _ hm⟩
    intro l
    obtain ⟨m, e, hm⟩ := go l ([], [])
    unfold kRun
    rw [e]
    simpa using hm
  have h2 : ((sortP (costNums rs)).map (·.2)).Nodup := by
    have hp : ((sortP (costNums rs)).map (·.2)).Perm ((costNums rs).map (·.2)) := (sortP_perm _).map _
    refine hp.nodup_iff.mpr ?_
    unfold costNums
    rw [List.map_map]
    refine List.pairwise_map.mpr (List.pairwise_iff_getElem.mpr fun i j hi hj hij => ?_)
    rw [List.getElem_zipIdx, List.getElem_zipIdx]
    simp
    omega
  have h3 : (kRun rs (sortP (costNums rs))).2.Nodup := h2.sublist (h1 _)
  have h4 : (kru rs).Nodup := by unfold kru; exact (sortI_perm _).nodup_iff.mpr h3
  refine ⟨?_, h4⟩
  unfold pick
  refine List.Pairwise.filterMap _ ?_ (List.pairwise_iff_forall_sublist.mpr fun {a b} hab => ?_) (R := fun a b => a ≠ b ∧ a ∈ kru rs ∧ b ∈ kru rs)
  · rintro a a' ⟨hne, ha, ha'⟩ b hb b' hb' e
    subst e
    obtain ⟨i, r, rfl, hi⟩ := kru_mem ha
    obtain ⟨j, r', rfl, hj⟩ := kru_mem ha'
    rw [Int.toNat_natCast] at hb hb'
    have hb1 : rs[i]? = some b := hb
    have hb2 : rs[j]? = some b := hb'
    exact hne (by rw [h.inj hb1 hb2 rfl])
  · have hs := hab.subset
    refine ⟨?_, hs (by simp), hs (by simp)⟩
    have := h4.sublist hab
    simpa using this
/-! ### a road more -/
theorem cheap_app {rs : List Rd} {r : Rd} {c : Int} : cheap (rs ++ [r]) c = cheap rs c ++ (if r.c < c then [r] else []) := by
  unfold cheap
  rw [List.filter_append]
  by_cases h : r.c < c <;> simp [h]
section
variable {rs : List Rd} {r : Rd}
theorem Cd.left (hc : Cd (rs ++ [r])) : Cd rs := (List.pairwise_append.mp hc).1
theorem Cd.ne (hc : Cd (rs ++ [r])) {s : Rd} (hs : s ∈ rs) : s.c ≠ r.c := (List.pairwise_append.mp hc).2.2 s hs r (List.mem_singleton.mpr rfl)
/-- the new road is in the tree iff something that parts its hands is dearer -/
theorem new_in (hc : Cd (rs ++ [r])) (hT : Rch (pick rs (kru rs)) r.o r.t) : InT (rs ++ [r]) r ↔ ∃ k, Sep (pick rs (kru rs)) r.o r.t k ∧ r.c < k.c := by
  have h0 : cheap (rs ++ [r]) r.c = cheap rs r.c := by rw [cheap_app, if_neg (by omega), List.append_nil]
  unfold InT
  rw [h0, cheapT hc.left, thr (kru_forest rs) (pick_nodup hc.left).1 hT]
  constructor
  · rintro ⟨_, h⟩
    refine Classical.byContradiction fun g => h fun k hk => ?_
    have h1 : ¬ r.c < k.c := fun z => g ⟨k, hk, z⟩
    have hkr : k ∈ rs := ((kru_T hc.left).mp hk.1).1
    have := hc.ne hkr
    omega
  · rintro ⟨k, hk, hlt⟩
    refine ⟨List.mem_append_right _ (List.mem_singleton.mpr rfl), fun h => ?_⟩
    have := h k hk
    omega
/-- an old road, where the new one stays out -/
theorem old_out (hc : Cd (rs ++ [r])) (hT : Rch (pick rs (kru rs)) r.o r.t) (hall : ∀ k, Sep (pick rs (kru rs)) r.o r.t k → k.c < r.c) {s : Rd} (hs : s ∈ rs) : InT (rs ++ [r]) s ↔ InT rs s := by
  have hr : Rch (cheap rs r.c) r.o r.t := (cheapT hc.left).mpr ((thr (kru_forest rs) (pick_nodup hc.left).1 hT).mpr hall)
  unfold InT
  rw [cheap_app]
  have hs' : s ∈ rs ++ [r] := List.mem_append_left _ hs
  by_cases h : r.c < s.c
  · rw [if_pos h]
    have e : Rch (cheap rs s.c ++ [r]) s.o s.t ↔ Rch (cheap rs s.c) s.o s.t := by
      constructor
      · intro z
        refine z.lift fun u hu => ?_
        rcases List.mem_append.mp hu with y | y
        · exact .fwd y .base
        · rw [List.mem_singleton.mp y]
          exact hr.mem fun v hv => mem_cheap.mpr ⟨(mem_cheap.mp hv).1, by have := (mem_cheap.mp hv).2; omega⟩
      · exact fun z => z.mem fun u hu => List.mem_append_left _ hu
    rw [e]
    exact ⟨fun z => ⟨hs, z.2⟩, fun z => ⟨hs', z.2⟩⟩
  · rw [if_neg h, List.append_nil]
    exact ⟨fun z => ⟨hs, z.2⟩, fun z => ⟨hs', z.2⟩⟩
/-- an old road, where the new one comes in: the dearest that parted its hands goes out -/
theorem old_in (hc : Cd (rs ++ [r])) (hT : Rch (pick rs (kru rs)) r.o r.t) {e : Rd} (he : Sep (pick rs (kru rs)) r.o r.t e) (hmax : ∀ k, Sep (pick rs (kru rs)) r.o r.t k → k.c ≤ e.c) (hlt : r.c < e.c) {s : Rd} (hs : s ∈ rs) : InT (rs ++ [r]) s ↔ InT rs s ∧ s ≠ e := by
  have f := kru_forest rs
  have nd := (pick_nodup hc.left).1
  have cd := hc.left
  have heT := (kru_T cd).mp he.1
  have hs' : s ∈ rs ++ [r] := List.mem_append_left _ hs
  have ceq : ∀ {k : Rd}, k ∈ pick rs (kru rs) → k.c = e.c → k = e := fun hk z => cd.eq ((kru_T cd).mp hk).1 heT.1 z
  -- the dearest goes out
  have hout : ¬ InT (rs ++ [r]) e := by
    rintro ⟨_, h⟩
    rw [cheap_app, if_pos hlt] at h
    have h1 : Rch (cheap (pick rs (kru rs)) (e.c + 1)) r.o r.t := (thr f nd hT).mpr fun k hk => by have := hmax k hk; omega
    have h2 : Rch (cheap (pick rs (kru rs)) e.c ++ [e]) r.o r.t := h1.mem fun u hu => by
      obtain ⟨w1, w2⟩ := mem_cheap.mp hu
      by_cases z : u.c = e.c
      · exact List.mem_append_right _ (List.mem_singleton.mpr (ceq w1 z))
      · exact List.mem_append_left _ (mem_cheap.mpr ⟨w1, by omega⟩)
    have h3 : ¬ Rch (cheap (pick rs (kru rs)) e.c) r.o r.t := fun z => he.2 (cheap_del (Int.le_refl _) z)
    have up : ∀ {x y : Int}, Rch (cheap (pick rs (kru rs)) e.c) x y → Rch (cheap rs e.c ++ [r]) x y := fun q => ((cheapT cd).mpr q).mem fun u hu => List.mem_append_left _ hu
    have hr : Rch (cheap rs e.c ++ [r]) r.o r.t := .fwd (List.mem_append_right _ (List.mem_singleton.mpr rfl)) .base
    rcases rch_join.mp h2 with q | ⟨q | q, p | p⟩
    · exact h3 q
    · exact h3 (q.tr p)
    · exact h ((up q).sy.tr (hr.tr (up p).sy))
    · exact h ((up p).tr (hr.sy.tr (up q)))
    · exact h3 (q.tr p)
  constructor
  · intro h
    refine ⟨⟨hs, fun z => h.2 ?_⟩, fun z => hout (z ▸ h)⟩
    rw [cheap_app]
    exact z.mem fun u hu => List.mem_append_left _ hu
  · rintro ⟨h, hne⟩
    refine ⟨hs', ?_⟩
    rw [cheap_app]
    by_cases hrs : r.c < s.c
    rotate_left
    · rw [if_neg hrs, List.append_nil]; exact h.2
    rw [if_pos hrs]
    intro z
    have hsT := (kru_T cd).mpr h
    have dn : ∀ {x y : Int}, Rch (cheap rs s.c) x y → Rch (cheap (pick rs (kru rs)) s.c) x y := fun q => (cheapT cd).mp q
    have dl : ∀ {x y : Int}, Rch (cheap rs s.c) x y → Rch (del (pick rs (kru rs)) s) x y := fun q => cheap_del (Int.le_refl _) (dn q)
    -- s's hands lead to the new road's hands
    have main : ∀ {x y : Int}, Rch (cheap rs s.c) s.o x → Rch (cheap rs s.c) y s.t → ((x = r.o ∧ y = r.t) ∨ (x = r.t ∧ y = r.o)) → False := by
      intro x y q p hxy
      have hab : ∀ {l : List Rd}, Rch l r.o r.t → Rch l x y := fun w => by
        rcases hxy with ⟨rfl, rfl⟩ | ⟨rfl, rfl⟩
        · exact w
        · exact w.sy
      have hba : ∀ {l : List Rd}, Rch l x y → Rch l r.o r.t := fun w => by
        rcases hxy with ⟨rfl, rfl⟩ | ⟨rfl, rfl⟩
        · exact w
        · exact w.sy
      have hsep : Sep (pick rs (kru rs)) r.o r.t s := ⟨hsT, fun w => f s hsT ((dl q).tr ((hab w).tr (dl p)))⟩
      have h1 := hmax s hsep
      have h2 : s.c < e.c := by
        rcases Int.lt_or_eq_of_le h1 with w | w
        · exact w
        · exact absurd (ceq hsT w) hne
      refine he.2 (cheap_del (Int.le_refl _) (hba ?_))
      have cu : ∀ {x y : Int}, Rch (cheap rs s.c) x y → Rch (cheap (pick rs (kru rs)) e.c) x y := fun q => (dn q).mem fun u hu => mem_cheap.mpr ⟨(mem_cheap.mp hu).1, by have := (mem_cheap.mp hu).2; omega⟩
      exact (cu q).sy.tr (Rch.tr (.fwd (mem_cheap.mpr ⟨hsT, h2⟩) .base) (cu p).sy)
    rcases rch_join.mp z with q | ⟨q | q, p | p⟩
    · exact h.2 q
    · exact h.2 (q.tr p)
    · exact main q p (.inl ⟨rfl, rfl⟩)
    · exact main q p (.inr ⟨rfl, rfl⟩)
    · exact h.2 (q.tr p)
end
end Lt

end
section
set_option Elab.async false
set_option linter.all false
set_option maxRecDepth 100000
set_option maxHeartbeats 2000000
/-! N38: the least tree's numbers when a road comes; ways in a tree; sums. -/
namespace Lt
open PySem PySem.Spec L2
theorem rch_nil {a b : Int} (h : Rch [] a b) : a = b := by
  cases h with
  | base => rfl
  | fwd h _ => cases h
  | bwd h _ => cases h
theorem sorted_ext {l m : List Int} (h1 : l.Pairwise (· ≤ ·)) (h2 : m.Pairwise (· ≤ ·)) (n1 : l.Nodup) (n2 : m.Nodup) (h : ∀ x, x ∈ l ↔ x ∈ m) : l = m :=
  List.Perm.eq_of_pairwise (le := (· ≤ ·)) (fun a b _ _ h1 h2 => by omega) h1 h2 ((List.perm_ext_iff_of_nodup n1 n2).mpr h)
theorem kru_sorted (rs : List Rd) : (kru rs).Pairwise (· ≤ ·) := by unfold kru; exact sortI_sorted _
theorem kru_in {rs : List Rd} (hc : Cd rs) {j : Nat} {r : Rd} (h : rs[j]? = some r) : (j : Int) ∈ kru rs ↔ InT rs r := by
  rw [← kru_T hc, mem_pick]
  constructor
  · intro z; exact ⟨_, z, by rw [Int.toNat_natCast]; exact h⟩
  · rintro ⟨x, hx, e⟩
    obtain ⟨i, r', rfl, hi⟩ := kru_mem hx
    rw [Int.toNat_natCast] at e
    have := hc.inj h e rfl
    subst this
    exact hx
theorem kru_app_out {rs : List Rd} {r : Rd} (hc : Cd (rs ++ [r])) (hT : Rch (pick rs (kru rs)) r.o r.t) (hall : ∀ k, Sep (pick rs (kru rs)) r.o r.t k → k.c < r.c) : kru (rs ++ [r]) = kru rs := by
  refine sorted_ext (kru_sorted _) (kru_sorted _) (pick_nodup hc).2 (pick_nodup hc.left).2 fun x => ?_
  have hnew : ¬ InT (rs ++ [r]) r := fun z => by
    obtain ⟨k, hk, hlt⟩ := (new_in hc hT).mp z
    have := hall k hk
    omega
  constructor
  · intro hx
    obtain ⟨j, s, rfl, hj⟩ := kru_mem hx
    have hin := (kru_in hc hj).mp hx
    by_cases hlt : j < rs.length
    · rw [List.getElem?_append_left hlt] at hj
      exact (kru_in hc.left hj).mpr ((old_out hc hT hall (List.mem_of_getElem? hj)).mp hin)
    · have hl := (List.getElem?_eq_some_iff.mp hj).1
      rw [List.length_append, List.length_singleton] at hl
      have : j = rs.length := by omega
      subst this
      have : s = r := by simpa using hj.symm
      exact absurd (this ▸ hin) hnew
  · intro hx
    obtain ⟨j, s, rfl, hj⟩ := kru_mem hx
    have hin := (kru_in hc.left hj).mp hx
    have hlt := (List.getElem?_eq_some_iff.mp hj).1
    exact (kru_in hc (by rw [List.getElem?_append_left hlt]; exact hj)).mpr ((old_out hc hT hall (List.mem_of_getElem? hj)).mpr hin)
theorem kru_app_in {rs : List Rd} {r e : Rd} {k : Nat} (hc : Cd (rs ++ [r])) (hT : Rch (pick rs (kru rs)) r.o r.t) (hk : rs[k]? = some e) (he : Sep (pick rs (kru rs)) r.o r.t e) (hmax : ∀ k, Sep (pick rs (kru rs)) r.o r.t k → k.c ≤ e.c) (hlt : r.c < e.c) :
    kru (rs ++ [r]) = sortI (((kru rs).filter fun x => !decide (x = (k : Int))) ++ [(rs.length : Int)]) := by
  have hnot : (rs.length : Int) ∉ (kru rs).filter fun x => !decide (x = (k : Int)) := fun z => by
    obtain ⟨j, s, ej, hj⟩ := kru_mem (List.mem_filter.mp z).1
    have := (List.getElem?_eq_some_iff.mp hj).1
    omega
  refine sorted_ext (kru_sorted _) (sortI_sorted _) (pick_nodup hc).2 ((sortI_perm _).nodup_iff.mpr (List.nodup_append.mpr ⟨(pick_nodup hc.left).2.filter _, by simp, fun a ha b hb => ?_⟩)) fun x => ?_
  · rw [List.mem_singleton.mp hb]; rintro rfl; exact hnot ha
  have hnew : InT (rs ++ [r]) r := (new_in hc hT).mpr ⟨e, he, hlt⟩
  rw [(sortI_perm _).mem_iff, List.mem_append, List.mem_filter, List.mem_singleton]
  constructor
  · intro hx
    obtain ⟨j, s, rfl, hj⟩ := kru_mem hx
    have hin := (kru_in hc hj).mp hx
    by_cases hlt' : j < rs.length
    · rw [List.getElem?_append_left hlt'] at hj
      obtain ⟨h1, h2⟩ := (old_in hc hT he hmax hlt (List.mem_of_getElem? hj)).mp hin
      refine .inl ⟨(kru_in hc.left hj).mpr h1, ?_⟩
      have : ¬ ((j : Int) = (k : Int)) := fun z => by
        have : j = k := by omega
        subst this
        rw [hj] at hk
        exact h2 (Option.some.inj hk)
      simp [this]
    · have hl := (List.getElem?_eq_some_iff.mp hj).1
      rw [List.length_append, List.length_singleton] at hl
      exact .inr (by omega)
  · rintro (⟨hx, hne⟩ | rfl)
    · obtain ⟨j, s, rfl, hj⟩ := kru_mem hx
      have hin := (kru_in hc.left hj).mp hx
      have hlt' := (List.getElem?_eq_some_iff.mp hj).1
      refine (kru_in hc (by rw [List.getElem?_append_left hlt']; exact hj)).mpr ((old_in hc hT he hmax hlt (List.mem_of_getElem? hj)).mpr ⟨hin, fun z => ?_⟩)
      subst z
      have := hc.left.inj hj hk rfl
      subst this
      simp at hne
    · exact (kru_in hc (by rw [List.getElem?_append_right (Nat.le_refl _)]; simp)).mpr hnew
/-! ### ways -/
theorem Way.ends {rs : List Rd} {ts : List Int} {a h : Int} {ps vs : List Int} (w : Way rs ts a ps h vs) : a ∈ vs ∧ h ∈ vs ∧ (∀ p ∈ ps, p ∈ ts ∧ ∃ (j : Nat) (r : Rd), p = (j : Int) ∧ rs[j]? = some r ∧ r.o ∈ vs ∧ r.t ∈ vs) ∧ ps.Nodup ∧ Rch (pick rs ps) a h := by
  induction w with
  | nil => exact ⟨by simp, by simp, fun p hp => (by cases hp), by simp, .base⟩
  | @fwd ps vs h j r _ hj hr e hn ih =>
    obtain ⟨i1, i2, i3, i4, i5⟩ := ih
    refine ⟨by simp [i1], by simp, fun p hp => ?_, ?_, ?_⟩
    · rcases List.mem_append.mp hp with z | z
      · obtain ⟨q1, j', r', q2, q3, q4, q5⟩ := i3 p z
        exact ⟨q1, j', r', q2, q3, by simp [q4], by simp [q5]⟩
      · rw [List.mem_singleton.mp z]
        exact ⟨hj, j, r, rfl, hr, by rw [e]; simp [i2], by simp⟩
    · refine List.nodup_append.mpr ⟨i4, by simp, fun x hx y hy => ?_⟩
      rw [List.mem_singleton.mp hy]
      rintro rfl
      obtain ⟨_, j', r', q2, q3, _, q5⟩ := i3 _ hx
      have : j = j' := by omega
      subst this
      rw [hr] at q3
      cases q3
      exact hn q5
    · refine .fwd (r := r) (mem_pick.mpr ⟨(j : Int), by simp, by rw [Int.toNat_natCast]; exact hr⟩) ?_
      rw [e]
      exact i5.mem fun s hs => by
        obtain ⟨x, hx, hs⟩ := mem_pick.mp hs
        exact mem_pick.mpr ⟨x, by simp [hx], hs⟩
  | @bwd ps vs h j r _ hj hr e hn ih =>
    obtain ⟨i1, i2, i3, i4, i5⟩ := ih
    refine ⟨by simp [i1], by simp, fun p hp => ?_, ?_, ?_⟩
    · rcases List.mem_append.mp hp with z | z
      · obtain ⟨q1, j', r', q2, q3, q4, q5⟩ := i3 p z
        exact ⟨q1, j', r', q2, q3, by simp [q4], by simp [q5]⟩
      · rw [List.mem_singleton.mp z]
        exact ⟨hj, j, r, rfl, hr, by simp, by rw [e]; simp [i2]⟩
    · refine List.nodup_append.mpr ⟨i4, by simp, fun x hx y hy => ?_⟩
      rw [List.mem_singleton.mp hy]
      rintro rfl
      obtain ⟨_, j', r', q2, q3, q4, _⟩ := i3 _ hx
      have : j = j' := by omega
      subst this
      rw [hr] at q3
      cases q3
      exact hn q4
    · refine .bwd (r := r) (mem_pick.mpr ⟨(j : Int), by simp, by rw [Int.toNat_natCast]; exact hr⟩) ?_
      rw [e]
      exact i5.mem fun s hs => by
        obtain ⟨x, hx, hs⟩ := mem_pick.mp hs
        exact mem_pick.mpr ⟨x, by simp [hx], hs⟩
/-- the roads of a way part its ends -/
theorem Way.sep {rs : List Rd} {ts : List Int} (hc : Cd rs) (f : Forest (pick rs ts)) {a h : Int} {ps vs : List Int} (w : Way rs ts a ps h vs) : ∀ (k : Nat) (r : Rd), rs[k]? = some r → ((k : Int) ∈ ps ↔ (k : Int) ∈ ts ∧ ¬ Rch (del (pick rs ts) r) a h) := by
  have inP : ∀ {j : Nat} {r : Rd}, (j : Int) ∈ ts → rs[j]? = some r → r ∈ pick rs ts := fun h1 h2 => mem_pick.mpr ⟨_, h1, by rw [Int.toNat_natCast]; exact h2⟩
  have sub : ∀ {ps vs : List Int} {h : Int} {k : Nat} {r : Rd}, Way rs ts a ps h vs → rs[k]? = some r → (k : Int) ∉ ps → Rch (del (pick rs ts) r) a h := by
    intro ps vs h k r w hk hn
    obtain ⟨_, _, i3, _, i5⟩ := w.ends
    refine i5.mem fun s hs => ?_
    obtain ⟨x, hx, hs⟩ := mem_pick.mp hs
    refine mem_del.mpr ⟨mem_pick.mpr ⟨x, (i3 x hx).1, hs⟩, fun e => ?_⟩
    subst e
    obtain ⟨_, j', r', q2, q3, _, _⟩ := i3 x hx
    subst q2
    rw [Int.toNat_natCast] at hs
    have := hc.inj hs hk rfl
    subst this
    exact hn hx
  have fwd : ∀ {ps vs : List Int} {h : Int}, Way rs ts a ps h vs → ∀ (k : Nat) (r : Rd), rs[k]? = some r → (k : Int) ∈ ps → ¬ Rch (del (pick rs ts) r) a h := by
    intro ps vs h w
    induction w with
    | nil => intro k r _ hk; cases hk
    | @fwd ps vs h j s w hj hs e hn ih =>
      intro k r hr hk hR
      have hsT := inP hj hs
      by_cases ekj : k = j
      · subst ekj
        rw [hr] at hs
        cases hs
        have hnp : (k : Int) ∉ ps := fun z => by
          obtain ⟨_, j', r', q2, q3, _, q5⟩ := w.ends.2.2.1 _ z
          have : k = j' := by omega
          subst this
          rw [hr] at q3; cases q3
          exact hn q5
        have h1 := sub w hr hnp
        exact f s hsT (by rw [e]; exact h1.sy.tr hR)
      · have hkp : (k : Int) ∈ ps := by
          rcases List.mem_append.mp hk with z | z
          · exact z
          · exact absurd (by have := List.mem_singleton.mp z; omega) ekj
        refine ih k r hr hkp (hR.tr ?_)
        have hne : s ≠ r := fun z => by subst z; exact ekj (hc.inj hr hs rfl)
        rw [← e]
        exact .bwd (mem_del.mpr ⟨hsT, hne⟩) .base
    | @bwd ps vs h j s w hj hs e hn ih =>
      intro k r hr hk hR
      have hsT := inP hj hs
      by_cases ekj : k = j
      · subst ekj
        rw [hr] at hs
        cases hs
        have hnp : (k : Int) ∉ ps := fun z => by
          obtain ⟨_, j', r', q2, q3, q4, _⟩ := w.ends.2.2.1 _ z
          have : k = j' := by omega
          subst this
          rw [hr] at q3; cases q3
          exact hn q4
        have h1 := sub w hr hnp
        exact f s hsT (by rw [e]; exact hR.sy.tr h1)
      · have hkp : (k : Int) ∈ ps := by
          rcases List.mem_append.mp hk with z | z
          · exact z
          · exact absurd (by have := List.mem_singleton.mp z; omega) ekj
        refine ih k r hr hkp (hR.tr ?_)
        have hne : s ≠ r := fun z => by subst z; exact ekj (hc.inj hr hs rfl)
        rw [← e]
        exact .fwd (mem_del.mpr ⟨hsT, hne⟩) .base
  intro k r hr
  constructor
  · intro hk; exact ⟨(w.ends.2.2.1 _ hk).1, fwd w k r hr hk⟩
  · rintro ⟨h1, h2⟩
    exact Classical.byContradiction fun z => h2 (sub w hr z)
/-! ### sums -/
def costOf (rs : List Rd) (ns : List Int) : Int := ((pick rs ns).map (·.c)).sum
theorem sum_perm {l m : List Int} (h : l.Perm m) : l.sum = m.sum := by
  induction h with
  | nil => rfl
  | cons x _ ih => rw [List.sum_cons, List.sum_cons, ih]
  | swap x y l => simp only [List.sum_cons]; omega
  | trans _ _ h1 h2 => exact h1.trans h2
theorem InT.congr {rs ss : List Rd} (h : ∀ r, r ∈ rs ↔ r ∈ ss) {r : Rd} (k : InT rs r) : InT ss r :=
  ⟨(h r).mp k.1, fun z => k.2 (z.mem fun s hs => mem_cheap.mpr ⟨(h s).mpr (mem_cheap.mp hs).1, (mem_cheap.mp hs).2⟩)⟩
theorem cost_perm {rs ss : List Rd} (h1 : Cd rs) (h2 : Cd ss) (h : ∀ r, r ∈ rs ↔ r ∈ ss) : costOf rs (kru rs) = costOf ss (kru ss) := by
  unfold costOf
  refine sum_perm (List.Perm.map _ ((List.perm_ext_iff_of_nodup (pick_nodup h1).1 (pick_nodup h2).1).mpr fun r => ?_))
  rw [kru_T h1, kru_T h2]
  exact ⟨InT.congr h, InT.congr fun r => (h r).symm⟩
/-- all roads are in the tree iff they are a forest -/
theorem kru_all {rs : List Rd} (hc : Cd rs) : (kru rs).length = rs.length ↔ Forest rs := by
  have hnum : ∀ x, x ∈ kru rs → x ∈ rgI rs.length := fun x hx => by
    obtain ⟨j, r, rfl, hj⟩ := kru_mem hx
    have := (List.getElem?_eq_some_iff.mp hj).1
    exact rgI_mem.mpr (by omega)
  constructor
  · intro h
    have hall : ∀ r ∈ rs, r ∈ pick rs (kru rs) := fun r hr => by
      obtain ⟨j, hj⟩ := List.getElem?_of_mem hr
      have hjl := (List.getElem?_eq_some_iff.mp hj).1
      refine mem_pick.mpr ⟨(j : Int), Classical.byContradiction fun z => ?_, by rw [Int.toNat_natCast]; exact hj⟩
      have := List.Nodup.length_le_of_subset (List.nodup_cons.mpr ⟨z, (pick_nodup hc).2⟩) (l₂ := rgI rs.length) fun x hx => by
        rcases List.mem_cons.mp hx with w | w
        · rw [w]; exact rgI_mem.mpr (by omega)
        · exact hnum x w
      rw [rgI_length, List.length_cons] at this
      omega
    exact (kru_forest rs).congr fun s => ⟨fun z => by
      obtain ⟨x, _, hx⟩ := mem_pick.mp z
      exact List.mem_of_getElem? hx, hall s⟩
  · intro f
    have : ∀ x, x ∈ rgI rs.length → x ∈ kru rs := fun x hx => by
      obtain ⟨h0, h1⟩ := rgI_mem.mp hx
      obtain ⟨j, rfl⟩ := Int.eq_ofNat_of_zero_le h0
      obtain ⟨r, hr⟩ : ∃ r, rs[j]? = some r := ⟨_, List.getElem?_eq_getElem (by omega)⟩
      refine (kru_in hc hr).mpr ⟨List.mem_of_getElem? hr, fun z => f r (List.mem_of_getElem? hr) (z.mem fun s hs => ?_)⟩
      obtain ⟨w1, w2⟩ := mem_cheap.mp hs
      exact mem_del.mpr ⟨w1, fun e => by rw [e] at w2; omega⟩
    have h1 := List.Nodup.length_le_of_subset rgI_nodup this
    have h2 := kru_len rs
    rw [rgI_length] at h1
    omega
theorem rgI_sorted {n : Nat} : (rgI n).Pairwise (· ≤ ·) := by
  unfold rgI
  refine List.pairwise_map.mpr (List.pairwise_lt_range.imp fun h => ?_)
  omega
theorem kru_full {rs : List Rd} (hc : Cd rs) (f : Forest rs) : kru rs = rgI rs.length := by
  refine sorted_ext (kru_sorted _) rgI_sorted (pick_nodup hc).2 rgI_nodup fun x => ?_
  constructor
  · intro hx
    obtain ⟨j, r, rfl, hj⟩ := kru_mem hx
    have := (List.getElem?_eq_some_iff.mp hj).1
    exact rgI_mem.mpr (by omega)
  · intro hx
    obtain ⟨h0, h1⟩ := rgI_mem.mp hx
    obtain ⟨j, rfl⟩ := Int.eq_ofNat_of_zero_le h0
    obtain ⟨r, hr⟩ : ∃ r, rs[j]? = some r := ⟨_, List.getElem?_eq_getElem (by omega)⟩
    refine (kru_in hc hr).mpr ⟨List.mem_of_getElem? hr, fun z => f r (List.mem_of_getElem? hr) (z.mem fun s hs => ?_)⟩
    obtain ⟨w1, w2⟩ := mem_cheap.mp hs
    exact mem_del.mpr ⟨w1, fun e => by rw [e] at w2; omega⟩
end Lt

end
section
set_option Elab.async false
set_option linter.all false
set_option maxRecDepth 100000
set_option maxHeartbeats 4000000
/-! K02a: law k02: _law_reach, _law_leads. -/
namespace Lt
open PySem PySem.Spec L2
def sp__law_reach (_ : CA) : SpD := fun ds H Q E => ∃ (a p : Addr) (rs : List Rd) (ns : List Int) (b : Int), ds = [.ref a, .ref p, .int b] ∧ H a = some (.lst (rs.map roD)) ∧ H p = some (.lst (ns.map D.int)) ∧ (∀ x ∈ ns, ∃ (j : Nat) (r : Rd), x = (j : Int) ∧ rs[j]? = some r) ∧ ns.length ≤ 1000 ∧
  ∀ (q : Addr) (H' : HD) (fs : List Int), H q = none → Ext H H' → fs.Nodup → fs.Pairwise (· ≤ ·) → (∀ x, x ∈ fs ↔ Rch (pick rs ns) b x) → H' q = some (.lst (fs.map D.int)) → Q (.ref q) H'
/-- a road with both ends in fs -/
def bothB (rs : List Rd) (fs : List Int) (x : Int) : Bool := match rs[x.toNat]? with
  | some r => decide (r.o ∈ fs) && decide (r.t ∈ fs)
  | none => false
def clsd (rs : List Rd) (ns fs : List Int) : Prop := ∀ r ∈ pick rs ns, r.o ∈ fs ↔ r.t ∈ fs
theorem both_lt {rs : List Rd} {ns fs : List Int} {x z : Int} {r : Rd} (hx : x ∈ ns) (hr : rs[x.toNat]? = some r) (h : ¬ (r.o ∈ fs ∧ r.t ∈ fs)) (h' : r.o ∈ fs ++ [z] ∧ r.t ∈ fs ++ [z]) : ns.countP (bothB rs fs) < ns.countP (bothB rs (fs ++ [z])) := by
  refine countP_lt (x := x) (fun y hy => ?_) hx ?_ ?_
  · unfold bothB at *
    split at hy
    · simp only [Bool.and_eq_true, decide_eq_true_eq, List.mem_append] at hy ⊢
      exact ⟨.inl hy.1, .inl hy.2⟩
    · cases hy
  · unfold bothB; rw [hr]; simpa using h'
  · unfold bothB; rw [hr]; simp only [Bool.and_eq_false_iff, decide_eq_false_iff_not]
    by_cases q : r.o ∈ fs
    · exact .inr fun z => h ⟨q, z⟩
    · exact .inl q
theorem both_all {rs : List Rd} {ns fs : List Int} (h : ns.length ≤ ns.countP (bothB rs fs)) : clsd rs ns fs := fun r hr => by
  obtain ⟨x, hx, e⟩ := mem_pick.mp hr
  have := List.countP_eq_length.mp (Nat.le_antisymm List.countP_le_length h) x hx
  unfold bothB at this
  rw [e] at this
  simp only [Bool.and_eq_true, decide_eq_true_eq] at this
  exact ⟨fun _ => this.2, fun _ => this.1⟩
def t__law_reach (c : CA) (Ed : XD) : TSD :=
  (sSeq (sAsg (tLs (tC (tV 2) tN)) (.nm 3))
    (sSeq (sFor (iR1 (tC (tCb rLen (tC (tV 1) tN)) tN)) (.nm 4)
    (sFor (iLs (tV 1)) (.nm 5)
    (sSeq (sAsg (tO rIx (tV 0) (tV 5)) (.tp [(.nm 6), (.nm 7), (.nm 8)]))
    (sIf (tTs (tO rNe (tO (rInG id) (tV 6) (tV 3)) (tO (rInG id) (tV 7) (tV 3)))) (sDrop (tBm rApp (tV 3) (tC (tO rIx (tLs (tC (tV 6) (tC (tV 7) tN))) (tCb rInt (tC (tO (rInG id) (tV 6) (tV 3)) tN))) tN))) sNx))))
    (sRet (tCb rSorted (tC (tV 3) tN)))))
theorem len__law_reach : ∀ c ds H Q E, sp__law_reach c ds H Q E → ds.length = (["_law_roads", "_law_numbers", "_law_begin"] : List Str).length := by intro c ds H Q E h; first | (obtain ⟨_, _, _, _, _, _, _, _, _, _, _, _, rfl, _⟩ := h; rfl) | (obtain ⟨_, _, _, _, _, _, _, _, _, _, _, rfl, _⟩ := h; rfl) | (obtain ⟨_, _, _, _, _, _, _, _, _, _, rfl, _⟩ := h; rfl) | (obtain ⟨_, _, _, _, _, _, _, _, _, rfl, _⟩ := h; rfl) | (obtain ⟨_, _, _, _, _, _, _, _, rfl, _⟩ := h; rfl) | (obtain ⟨rfl, _⟩ := h; rfl) | (obtain ⟨_, rfl, _⟩ := h; rfl) | (obtain ⟨_, _, rfl, _⟩ := h; rfl) | (obtain ⟨_, _, _, rfl, _⟩ := h; rfl) | (obtain ⟨_, _, _, _, rfl, _⟩ := h; rfl) | (obtain ⟨_, _, _, _, _, rfl, _⟩ := h; rfl) | (obtain ⟨_, _, _, _, _, _, rfl, _⟩ := h; rfl) | (obtain ⟨_, _, _, _, _, _, _, rfl, _⟩ := h; rfl)
theorem rd__law_reach (c : CA) (Ed : XD) (ds : List D) (Hd : HD) (Qd : QD) (h : sp__law_reach c ds Hd Qd Ed) : t__law_reach c Ed { nx := fun _ H' => Qd .non H', rt := Qd } (startD ["_law_roads", "_law_numbers", "_law_begin", "_law_found", "_law_turn", "_law_number", "_law_one", "_law_other", "_law_cost"] ds) Hd := by
  obtain ⟨a, p, rs, ns, b, rfl, ha, hp, hns, hl, k⟩ := h
  unfold t__law_reach
  simp only [↓u_asB, ↓u_asI, ↓u_asR, ↓u_slot, ↓u_gt1, ↓u_goA_nm, ↓u_goA_tp, ↓u_goAs_nil, ↓u_goAs_cons, ↓u_sSeq, ↓u_sNx, ↓u_sDrop, ↓u_sRet, ↓u_sRetN, ↓u_sIf, ↓u_sAsg, ↓u_sSub, ↓u_sbC_lst, ↓u_sbC_dK, ↓u_sbC_dT, ↓u_sFl, ↓u_sFor, ↓u_tV, ↓u_tK, ↓u_tO, ↓u_tNeg, ↓u_tPn, ↓u_tPs, ↓u_tSlD, ↓u_rSl_tup, ↓u_rSl_rl, ↓u_rSl_ref, ↓u_tFl, ↓u_tN, ↓u_tC, ↓u_tTp, ↓u_tLs, ↓u_tDK, ↓u_tDT, ↓u_tTs, ↓u_tChn, ↓u_tChn3, ↓u_tAn, ↓u_tOr, ↓u_tNt, ↓u_tIfE, ↓u_tAnV, ↓u_tOrV, ↓u_tNtV, ↓u_rAdd_int, ↓u_rAdd_str, ↓u_rAdd_tup, ↓u_rAdd_ref, ↓u_rSub, ↓u_rMod, ↓u_rDiv, ↓u_rPow, ↓u_rLt, ↓u_rLe, ↓u_rGt, ↓u_rGe, ↓u_rMul_int, ↓u_rMul_ref, ↓u_rEq_int, ↓u_rEq_str, ↓u_rEq_bl, ↓u_rEq_nn, ↓u_rEq_in, ↓u_rEq_ni, ↓u_rNe_int, ↓u_rNe_str, ↓u_rNe_bl, ↓u_rNe_nn, ↓u_rNe_in, ↓u_rNe_ni, ↓u_rEq_t2, ↓u_rIsN, ↓u_rIsN_bl, ↓u_rNotN, ↓u_rNotN_bl, ↓u_isNon_non, ↓u_isNon_int, ↓u_isNon_ref, ↓u_isNon_tup, ↓u_isNon_bl, ↓u_isNon_str, ↓u_DG, ↓u_dgC_K, ↓u_dgC_rK, ↓u_dgC_T, ↓u_dgC_rT, ↓u_rInG_ref, ↓u_inC_K, ↓u_inC_rK, ↓u_inC_T, ↓u_inC_ints, ↓u_inC_prs, ↓u_rInG_tup, ↓u_rIx_ref, ↓u_ixC_lst, ↓u_ixC_K, ↓u_ixC_rK, ↓u_ixC_T, ↓u_ixC_rT, ↓u_rIx_tup, ↓u_rIx_rl, ↓u_at0, ↓u_at1, ↓u_at2, ↓u_at3, ↓u_iLs, ↓u_lsI_ref, ↓u_lsI_rl, ↓u_iTp, ↓u_tpI, ↓u_iR1, ↓u_r1I, ↓u_iR2, ↓u_r2I, ↓u_iEn, ↓u_enI, ↓u_iKy, ↓u_kyC_K, ↓u_kyC_T, ↓u_tYs, ↓u_tLcG, ↓u_wipe_nil, ↓u_wipe_cons, ↓u_tCal, ↓u_tMet, ↓u_tMak, ↓u_WdE, ↓u_noW, ↓u_tCb, ↓u_rLen_tup, ↓u_rLen_rl, ↓u_rLen_str, ↓u_rLen_ref, ↓u_lnC_lst, ↓u_lnC_dK, ↓u_rList_tup, ↓u_rList_rl, ↓u_rList_ref, ↓u_rTuple_tup, ↓u_rTuple_ref, ↓u_rInt_int, ↓u_rInt_bl, ↓u_rStr, ↓u_rMin2, ↓u_rMax2, ↓u_rSum, ↓u_tLr1, ↓u_tLr2, ↓u_tBm, ↓u_rApp, ↓u_rPop0, ↓u_rPopI, ↓u_rIns, ↓u_rClr, ↓u_tGet2, ↓u_isD_K, ↓u_isD_T, ↓u_tDisp1, ↓u_ixN41, ↓u_ixN42, ↓u_ixN43, ↓u_isS, ↓u_tSplit, ↓u_rSplit, ↓u_tJn, ↓u_rIntT_str, ↓u_rIntT_int, ↓u_iSr, ↓u_srI, ↓u_rInG_str, ↓u_rIx_str, ↓u_isi_non, ↓u_isi_bl, ↓u_isi_int, ↓u_isi_str, ↓u_isi_tup, ↓u_isi_ref, ↓u_isiC_lst, ↓u_isiC_dK, ↓u_isiC_dT, ↓u_kit_NoneType_bool, ↓u_kit_NoneType_int, ↓u_kit_NoneType_str, ↓u_kit_NoneType_tuple, ↓u_kit_NoneType_list, ↓u_kit_NoneType_dict, ↓u_kit_bool_bool, ↓u_kit_bool_int, ↓u_kit_bool_str, ↓u_kit_bool_tuple, ↓u_kit_bool_list, ↓u_kit_bool_dict, ↓u_kit_int_bool, ↓u_kit_int_int, ↓u_kit_int_str, ↓u_kit_int_tuple, ↓u_kit_int_list, ↓u_kit_int_dict, ↓u_kit_str_bool, ↓u_kit_str_int, ↓u_kit_str_str, ↓u_kit_str_tuple, ↓u_kit_str_list, ↓u_kit_str_dict, ↓u_kit_tuple_bool, ↓u_kit_tuple_int, ↓u_kit_tuple_str, ↓u_kit_tuple_tuple, ↓u_kit_tuple_list, ↓u_kit_tuple_dict, ↓u_kit_list_bool, ↓u_kit_list_int, ↓u_kit_list_str, ↓u_kit_list_tuple, ↓u_kit_list_list, ↓u_kit_list_dict, ↓u_kit_dict_bool, ↓u_kit_dict_int, ↓u_kit_dict_str, ↓u_kit_dict_tuple, ↓u_kit_dict_list, ↓u_kit_dict_dict, ↓u_tLsS, ↓u_tStS, startD, List.set, List.map, List.replicate, List.length_cons, List.length_nil, Nat.reduceAdd, Nat.reduceSub, List.cons_append, List.nil_append, List.append_nil, List.getElem?_cons_zero, List.getElem?_cons_succ, Option.some.injEq, DO.lst.injEq, DO.ins.injEq, DO.dK.injEq, DO.dT.injEq, DO.rdK.injEq, DO.rdT.injEq, exists_eq_left', exists_eq_left, exists_eq', Bool.false_eq_true, reduceCtorEq, Nat.reduceLeDiff, Bool.true_eq_false, if_true, if_false, ite_true, ite_false, Bool.not_true, Bool.not_false, cut2, true_and, and_true, false_and, and_false, decide_eq_true_eq, decide_true, roD_def, Int.reduceToNat, id_eq, forall_const, Nat.zero_le, Nat.le_refl, upD_same, putI, Nat.reduceLT, Nat.lt_irrefl, Nat.zero_lt_one, Nat.not_lt_zero]
  intro p3 hp3
  have f1 : upD Hd p3 (.lst [D.int b]) p = some (.lst (ns.map D.int)) := upD_old hp hp3
  simp only [f1, Option.some.injEq, exists_eq_left', ↓u_lnC_lst, List.length_map, ↓u_r1I, Int.toNat_natCast]
  refine ⟨⟨by omega, by omega⟩, ?_⟩
  refine loop_inv' (I := ⟨rngD 0 ns.length, fun _ => True⟩) (fun i ρ H => ∃ (fs : List Int) (z4 z5 z6 z7 z8 : Option D), ρ = [some (.ref a), some (.ref p), some (.int b), some (.ref p3), z4, z5, z6, z7, z8] ∧ Ext Hd H ∧ H p3 = some (.lst (fs.map D.int)) ∧ fs.Nodup ∧ b ∈ fs ∧ (∀ x ∈ fs, Rch (pick rs ns) b x) ∧
    fs.length ≤ ns.countP (bothB rs fs) + 1 ∧ (clsd rs ns fs ∨ i + 1 ≤ fs.length)) ?_ ?_ ?_
  · exact ⟨[b], _, _, _, _, _, rfl, .new hp3, upD_same, by simp, by simp, fun x hx => by rw [List.mem_singleton.mp hx]; exact .base, by simp, .inr (by simp)⟩
  · rintro i d ρ H hd ⟨fs, z4, z5, z6, z7, z8, rfl, e, g, nd, hb, hr, hc, hi⟩
    refine ⟨trivial, fun N B hN _ => ?_⟩
    obtain ⟨_, rfl⟩ := nth_rng hd
    simp only [↓u_goA_nm, List.set, ↓u_sFor, ↓u_iLs, ↓u_tV, List.getElem?_cons_zero, List.getElem?_cons_succ, ↓u_slot, ↓u_lsI_ref, e _ _ hp, Option.some.injEq, DO.lst.injEq, exists_eq_left']
    refine loop_inv' (I := ⟨ns.map D.int, fun H => H p = some (.lst (ns.map D.int))⟩) (fun m ρ H => ∃ (fs' : List Int) (z4 z5 z6 z7 z8 : Option D), ρ = [some (.ref a), some (.ref p), some (.int b), some (.ref p3), z4, z5, z6, z7, z8] ∧ Ext Hd H ∧ H p3 = some (.lst (fs'.map D.int)) ∧ fs'.Nodup ∧ b ∈ fs' ∧ (∀ x ∈ fs', Rch (pick rs ns) b x) ∧
      fs'.length ≤ ns.countP (bothB rs fs') + 1 ∧ ((fs' = fs ∧ ∀ j x r, j < m → ns[j]? = some x → rs[x.toNat]? = some r → (r.o ∈ fs ↔ r.t ∈ fs)) ∨ (¬ clsd rs ns fs ∧ fs.length + 1 ≤ fs'.length))) ?_ ?_ ?_
    · exact ⟨fs, _, _, _, _, _, rfl, e, g, nd, hb, hr, hc, .inl ⟨rfl, fun j x r hj => by omega⟩⟩
    · rintro m d ρ H' hd ⟨fs', y4, y5, y6, y7, y8, rfl, e', g', nd', hb', hr', hc', hi'⟩
      refine ⟨e' _ _ hp, fun N' B' hN' _ => ?_⟩
      obtain ⟨x, hx, rfl⟩ := getMap hd
      have hxm := List.mem_of_getElem? hx
      obtain ⟨j, r, rfl, hj⟩ := hns x hxm
      have hpk : r ∈ pick rs ns := mem_pick.mpr ⟨_, hxm, by rw [Int.toNat_natCast]; exact hj⟩
      simp only [↓u_goA_nm, ↓u_sSeq, ↓u_sAsg, ↓u_tO, ↓u_tV, List.set, List.getElem?_cons_zero, List.getElem?_cons_succ, ↓u_slot, ↓u_rIx_ref, e' _ _ ha, Option.some.injEq, exists_eq_left', ↓u_ixC_lst, atJ hj, roD_def, ↓u_goA_tp, ↓u_goAs_cons, ↓u_goAs_nil, ↓u_sIf, ↓u_tTs, ↓u_rInG_ref, g', ↓u_inC_ints, id_eq, ↓u_rNe_bl, ↓u_asB, ↓u_sNx, DO.lst.injEq]
      have key : ∀ z : Int, (z = r.o ∨ z = r.t) → z ∉ fs' → Rch (pick rs ns) b z → (r.o ∈ fs' ++ [z] ∧ r.t ∈ fs' ++ [z]) → ¬ (r.o ∈ fs' ∧ r.t ∈ fs') → ¬ (r.o ∈ fs' ↔ r.t ∈ fs') → ∀ H6 : HD, Ext H' H6 → ∀ z4 z5 z6 z7 z8 : Option D, N' [some (.ref a), some (.ref p), some (.int b), some (.ref p3), z4, z5, z6, z7, z8] (upD H6 p3 (.lst (fs'.map D.int ++ [D.int z]))) := by
        intro z hz hn hrz hin hno hne H6 e6 z4 z5 z6 z7 z8
        refine hN' _ _ ⟨fs' ++ [z], _, _, _, _, _, rfl, (e'.trans e6).up hp3, by rw [upD_same]; simp, ?_, by simp [hb'], ?_, ?_, .inr ?_⟩
        · rw [List.nodup_append]
          refine ⟨nd', by simp, fun x hx y hy => ?_⟩
          rw [List.mem_singleton.mp hy]
          exact fun q => hn (q ▸ hx)
        · intro x hx
          rcases List.mem_append.mp hx with q | q
          · exact hr' x q
          · rw [List.mem_singleton.mp q]; exact hrz
        · have := both_lt (z := z) hxm (by rw [Int.toNat_natCast]; exact hj) hno hin
          rw [List.length_append, List.length_singleton]; omega
        · rw [List.length_append, List.length_singleton]
          rcases hi' with ⟨z1, z2⟩ | ⟨z1, z2⟩
          · subst z1
            exact ⟨fun c => hne (c r hpk), by omega⟩
          · exact ⟨z1, by omega⟩
      have hlen : fs'.length ≤ 1001 := by have := List.countP_le_length (p := bothB rs fs') (l := ns); omega
      have same : (r.o ∈ fs' ↔ r.t ∈ fs') → ∀ z4 z5 z6 z7 z8 : Option D, N' [some (.ref a), some (.ref p), some (.int b), some (.ref p3), z4, z5, z6, z7, z8] H' := by
        intro q z4 z5 z6 z7 z8
        refine hN' _ _ ⟨fs', _, _, _, _, _, rfl, e', g', nd', hb', hr', hc', ?_⟩
        rcases hi' with ⟨z1, z2⟩ | z1
        · subst z1
          refine .inl ⟨rfl, fun j' x' r' hj' hx' hr2 => ?_⟩
          rcases Nat.lt_succ_iff_lt_or_eq.mp hj' with w | w
          · exact z2 _ _ _ w hx' hr2
          · subst w
            rw [hx] at hx'
            cases hx'
            rw [Int.toNat_natCast, hj] at hr2
            cases hr2
            exact q
        · exact .inr z1
      by_cases c1 : r.o ∈ fs' <;> by_cases c2 : r.t ∈ fs'
      · simp only [c1, c2, decide_true, Bool.not_true, Bool.false_eq_true, if_false]
        exact same (by simp [c1, c2]) _ _ _ _ _
      · simp only [c1, c2, decide_true, decide_false, Bool.true_eq_false, Bool.not_false, if_true]
        simp only [↓u_sDrop, ↓u_tBm, ↓u_tV, ↓u_tC, ↓u_tO, ↓u_tLs, ↓u_tN, ↓u_tCb, List.getElem?_cons_zero, List.getElem?_cons_succ, ↓u_slot, List.length_cons, List.length_nil, Nat.reduceAdd, Nat.reduceLeDiff, true_and, ↓u_asR]
        refine ⟨⟨_, g'⟩, fun q6 hq6 => ?_⟩
        have g6 : upD H' q6 (.lst [.int r.o, .int r.t]) p3 = some (.lst (fs'.map D.int)) := upD_old g' hq6
        simp only [↓u_rInG_ref, g6, Option.some.injEq, exists_eq_left', ↓u_inC_ints, id_eq, c1, c2, decide_true, decide_false, ↓u_rInt_bl, ↓u_rIx_ref, upD_same, ↓u_ixC_lst, if_true, if_false, Bool.false_eq_true, ↓u_at0, ↓u_at1, ↓u_rApp, DO.lst.injEq]
        refine ⟨by rw [List.length_map]; omega, key r.t (.inr rfl) c2 (.fwd hpk (hr' _ c1)) (by simp [c1]) (fun z => c2 z.2) (by simp [c1, c2]) _ (.new hq6) _ _ _ _ _⟩
      · simp only [c1, c2, decide_true, decide_false, Bool.false_eq_true, Bool.not_false, if_true, if_false]
        simp only [↓u_sDrop, ↓u_tBm, ↓u_tV, ↓u_tC, ↓u_tO, ↓u_tLs, ↓u_tN, ↓u_tCb, List.getElem?_cons_zero, List.getElem?_cons_succ, ↓u_slot, List.length_cons, List.length_nil, Nat.reduceAdd, Nat.reduceLeDiff, true_and, ↓u_asR]
        refine ⟨⟨_, g'⟩, fun q6 hq6 => ?_⟩
        have g6 : upD H' q6 (.lst [.int r.o, .int r.t]) p3 = some (.lst (fs'.map D.int)) := upD_old g' hq6
        simp only [↓u_rInG_ref, g6, Option.some.injEq, exists_eq_left', ↓u_inC_ints, id_eq, c1, c2, decide_true, decide_false, ↓u_rInt_bl, ↓u_rIx_ref, upD_same, ↓u_ixC_lst, if_true, if_false, Bool.false_eq_true, ↓u_at0, ↓u_at1, ↓u_rApp, DO.lst.injEq]
        refine ⟨by rw [List.length_map]; omega, key r.o (.inl rfl) c1 (.bwd hpk (hr' _ c2)) (by simp [c2]) (fun z => c1 z.1) (by simp [c1, c2]) _ (.new hq6) _ _ _ _ _⟩
      · simp only [c1, c2, decide_false, Bool.not_true, Bool.false_eq_true, if_false]
        exact same (by simp [c1, c2]) _ _ _ _ _
    · rintro ρ H' ⟨fs', y4, y5, y6, y7, y8, rfl, e', g', nd', hb', hr', hc', hi'⟩
      refine ⟨e' _ _ hp, hN _ _ ⟨fs', _, _, _, _, _, rfl, e', g', nd', hb', hr', hc', ?_⟩⟩
      rcases hi' with ⟨z1, z2⟩ | ⟨z1, z2⟩
      · subst z1
        refine .inl fun r hr => ?_
        obtain ⟨x, hx, e⟩ := mem_pick.mp hr
        obtain ⟨j, hj⟩ := List.getElem?_of_mem hx
        exact z2 j x r (by rw [List.length_map]; exact (List.getElem?_eq_some_iff.mp hj).1) hj e
      · rcases hi with q | q
        · exact (z1 q).elim
        · exact .inr (by omega)
  · rintro ρ H ⟨fs, z4, z5, z6, z7, z8, rfl, e, g, nd, hb, hr, hc, hi⟩
    refine ⟨trivial, ?_⟩
    have hcl : clsd rs ns fs := by
      rcases hi with q | q
      · exact q
      · have : (rngD 0 ns.length).length = ns.length := by simp [rngD]
        rw [this] at q
        exact both_all (by omega)
    simp only [↓u_sRet, ↓u_tCb, ↓u_tC, ↓u_tV, List.getElem?_cons_zero, List.getElem?_cons_succ, ↓u_slot, ↓u_tN]
    refine rSorted_ints g fun p9 hp9 => ?_
    refine k p9 _ (sortI fs) (Ext.none e hp9) (e.trans (.new hp9)) ?_ (sortI_sorted _) (fun x => ?_) upD_same
    · exact (sortI_perm fs).nodup_iff.mpr nd
    · rw [(sortI_perm fs).mem_iff]
      exact ⟨hr x, rch_closed hb hcl⟩
theorem Way.path {rs : List Rd} {ts : List Int} {a h : Int} {ps vs : List Int} (w : Way rs ts a ps h vs) : vs.length = ps.length + 1 ∧ vs[0]? = some a ∧ vs[ps.length]? = some h ∧ vs.Nodup ∧
    ∀ i x, ps[i]? = some x → ∃ (j : Nat) (r : Rd) (u z : Int), x = (j : Int) ∧ rs[j]? = some r ∧ vs[i]? = some u ∧ vs[i + 1]? = some z ∧ ((r.o = u ∧ z = r.t) ∨ (r.t = u ∧ z = r.o)) := by
  have step : ∀ {ps vs : List Int} {h g : Int} {j : Nat} {r : Rd}, (vs.length = ps.length + 1 ∧ vs[0]? = some a ∧ vs[ps.length]? = some h ∧ vs.Nodup ∧
      ∀ i x, ps[i]? = some x → ∃ (j : Nat) (r : Rd) (u z : Int), x = (j : Int) ∧ rs[j]? = some r ∧ vs[i]? = some u ∧ vs[i + 1]? = some z ∧ ((r.o = u ∧ z = r.t) ∨ (r.t = u ∧ z = r.o))) → rs[j]? = some r → ((r.o = h ∧ g = r.t) ∨ (r.t = h ∧ g = r.o)) → g ∉ vs →
      ((vs ++ [g]).length = (ps ++ [(j : Int)]).length + 1 ∧ (vs ++ [g])[0]? = some a ∧ (vs ++ [g])[(ps ++ [(j : Int)]).length]? = some g ∧ (vs ++ [g]).Nodup ∧
      ∀ i x, (ps ++ [(j : Int)])[i]? = some x → ∃ (j : Nat) (r : Rd) (u z : Int), x = (j : Int) ∧ rs[j]? = some r ∧ (vs ++ [g])[i]? = some u ∧ (vs ++ [g])[i + 1]? = some z ∧ ((r.o = u ∧ z = r.t) ∨ (r.t = u ∧ z = r.o))) := by
    rintro ps vs h g j r ⟨h1, h2, h3, h4, h5⟩ hj hd hg
    have pre : ∀ i u, vs[i]? = some u → (vs ++ [g])[i]? = some u := fun i u q => by rw [List.getElem?_append_left (List.getElem?_eq_some_iff.mp q).1]; exact q
    have fin : (vs ++ [g])[ps.length + 1]? = some g := by rw [List.getElem?_append_right (by omega), h1, Nat.sub_self]; rfl
    refine ⟨by simp [h1], pre _ _ h2, by rw [List.length_append, List.length_singleton]; exact fin, ?_, fun i x hx => ?_⟩
    · rw [List.nodup_append]
      refine ⟨h4, by simp, fun x hx y hy => ?_⟩
      rw [List.mem_singleton.mp hy]
      exact fun q => hg (q ▸ hx)
    · by_cases hi : i < ps.length
      · rw [List.getElem?_append_left hi] at hx
        obtain ⟨j', r', u, z, e1, e2, e3, e4, e5⟩ := h5 i x hx
        exact ⟨j', r', u, z, e1, e2, pre _ _ e3, pre _ _ e4, e5⟩
      · have hlt := (List.getElem?_eq_some_iff.mp hx).1
        rw [List.length_append, List.length_singleton] at hlt
        obtain rfl : i = ps.length := by omega
        rw [List.getElem?_append_right (Nat.le_refl _), Nat.sub_self] at hx
        cases hx
        exact ⟨j, r, h, g, rfl, hj, pre _ _ h3, fin, hd⟩
  induction w with
  | nil => exact ⟨rfl, rfl, rfl, by simp, fun i x hx => by cases hx⟩
  | fwd w hj hr e hn ih => exact step ih hr (.inl ⟨e, rfl⟩) hn
  | bwd w hj hr e hn ih => exact step ih hr (.inr ⟨e, rfl⟩) hn
--@ul Dl18
theorem atI_end (ds : List D) (d : D) : L2.atI (ds ++ [d]) (-1) = some d := by
  unfold L2.atI
  have : ixN (ds ++ [d]).length (-1) = some ds.length := by
    unfold ixN
    rw [List.length_append]
    simp
    omega
  rw [this]
  simp
theorem rInG_pair {g : Bool → Bool} {i a b : Int} {H : HD} {Q : QD} : rInG g (.int i) (.tup [.int a, .int b]) H Q = Q (.bl (g (decide (i ∈ [a, b])))) H := u_rInG_tup (ns := [a, b])
def sp__law_leads (_ : CA) : SpD := fun ds H Q E => ∃ (a p : Addr) (rs : List Rd) (ts ps vs : List Int) (b e : Int), ds = [.ref a, .ref p, .int b, .int e] ∧ H a = some (.lst (rs.map roD)) ∧ H p = some (.lst (ps.map D.int)) ∧ Way rs ts b ps e vs ∧ ps.length ≤ 60 ∧
  ∀ H' : HD, Ext H H' → Q (.bl true) H'
def t__law_leads (c : CA) (Ed : XD) : TSD :=
  (sSeq (sAsg (tLs (tC (tV 2) tN)) (.nm 4))
    (sSeq (sFor (iLs (tV 1)) (.nm 5)
    (sSeq (sIf (tTs (tO (rInG not) (tO rIx (tV 4) (tNeg (tK (.int 1)))) (tSlD (tO rIx (tV 0) (tV 5)) tPn (tPs (tK (.int 2)))))) (sRet (tK (.bl false))) sNx)
    (sDrop (tBm rApp (tV 4) (tC (tO rSub (tO rAdd (tO rIx (tO rIx (tV 0) (tV 5)) (tK (.int 0))) (tO rIx (tO rIx (tV 0) (tV 5)) (tK (.int 1)))) (tO rIx (tV 4) (tNeg (tK (.int 1))))) tN)))))
    (sRet (tAnV (tO rEq (tO rIx (tV 4) (tNeg (tK (.int 1)))) (tV 3)) (tO rEq (tLsS (tV 4)) (tCb rLen (tC (tV 4) tN)))))))
theorem len__law_leads : ∀ c ds H Q E, sp__law_leads c ds H Q E → ds.length = (["_law_roads", "_law_numbers", "_law_begin", "_law_end"] : List Str).length := by intro c ds H Q E h; first | (obtain ⟨_, _, _, _, _, _, _, _, _, _, _, _, rfl, _⟩ := h; rfl) | (obtain ⟨_, _, _, _, _, _, _, _, _, _, _, rfl, _⟩ := h; rfl) | (obtain ⟨_, _, _, _, _, _, _, _, _, _, rfl, _⟩ := h; rfl) | (obtain ⟨_, _, _, _, _, _, _, _, _, rfl, _⟩ := h; rfl) | (obtain ⟨_, _, _, _, _, _, _, _, rfl, _⟩ := h; rfl) | (obtain ⟨rfl, _⟩ := h; rfl) | (obtain ⟨_, rfl, _⟩ := h; rfl) | (obtain ⟨_, _, rfl, _⟩ := h; rfl) | (obtain ⟨_, _, _, rfl, _⟩ := h; rfl) | (obtain ⟨_, _, _, _, rfl, _⟩ := h; rfl) | (obtain ⟨_, _, _, _, _, rfl, _⟩ := h; rfl) | (obtain ⟨_, _, _, _, _, _, rfl, _⟩ := h; rfl) | (obtain ⟨_, _, _, _, _, _, _, rfl, _⟩ := h; rfl)
theorem rd__law_leads (c : CA) (Ed : XD) (ds : List D) (Hd : HD) (Qd : QD) (h : sp__law_leads c ds Hd Qd Ed) : t__law_leads c Ed { nx := fun _ H' => Qd .non H', rt := Qd } (startD ["_law_roads", "_law_numbers", "_law_begin", "_law_end", "_law_met", "_law_number"] ds) Hd := by
  obtain ⟨a, p, rs, ts, ps, vs, b, e, rfl, ha, hp, w, hl, k⟩ := h
  obtain ⟨w1, w2, w3, w4, w5⟩ := w.path
  unfold t__law_leads
  simp only [↓u_asB, ↓u_asI, ↓u_asR, ↓u_slot, ↓u_gt1, ↓u_goA_nm, ↓u_goA_tp, ↓u_goAs_nil, ↓u_goAs_cons, ↓u_sSeq, ↓u_sNx, ↓u_sDrop, ↓u_sRet, ↓u_sRetN, ↓u_sIf, ↓u_sAsg, ↓u_sSub, ↓u_sbC_lst, ↓u_sbC_dK, ↓u_sbC_dT, ↓u_sFl, ↓u_sFor, ↓u_tV, ↓u_tK, ↓u_tO, ↓u_tNeg, ↓u_tPn, ↓u_tPs, ↓u_tSlD, ↓u_rSl_tup, ↓u_rSl_rl, ↓u_rSl_ref, ↓u_tFl, ↓u_tN, ↓u_tC, ↓u_tTp, ↓u_tLs, ↓u_tDK, ↓u_tDT, ↓u_tTs, ↓u_tChn, ↓u_tChn3, ↓u_tAn, ↓u_tOr, ↓u_tNt, ↓u_tIfE, ↓u_tAnV, ↓u_tOrV, ↓u_tNtV, ↓u_rAdd_int, ↓u_rAdd_str, ↓u_rAdd_tup, ↓u_rAdd_ref, ↓u_rSub, ↓u_rMod, ↓u_rDiv, ↓u_rPow, ↓u_rLt, ↓u_rLe, ↓u_rGt, ↓u_rGe, ↓u_rMul_int, ↓u_rMul_ref, ↓u_rEq_int, ↓u_rEq_str, ↓u_rEq_bl, ↓u_rEq_nn, ↓u_rEq_in, ↓u_rEq_ni, ↓u_rNe_int, ↓u_rNe_str, ↓u_rNe_bl, ↓u_rNe_nn, ↓u_rNe_in, ↓u_rNe_ni, ↓u_rEq_t2, ↓u_rIsN, ↓u_rIsN_bl, ↓u_rNotN, ↓u_rNotN_bl, ↓u_isNon_non, ↓u_isNon_int, ↓u_isNon_ref, ↓u_isNon_tup, ↓u_isNon_bl, ↓u_isNon_str, ↓u_DG, ↓u_dgC_K, ↓u_dgC_rK, ↓u_dgC_T, ↓u_dgC_rT, ↓u_rInG_ref, ↓u_inC_K, ↓u_inC_rK, ↓u_inC_T, ↓u_inC_ints, ↓u_inC_prs, ↓u_rInG_tup, ↓u_rIx_ref, ↓u_ixC_lst, ↓u_ixC_K, ↓u_ixC_rK, ↓u_ixC_T, ↓u_ixC_rT, ↓u_rIx_tup, ↓u_rIx_rl, ↓u_at0, ↓u_at1, ↓u_at2, ↓u_at3, ↓u_iLs, ↓u_lsI_ref, ↓u_lsI_rl, ↓u_iTp, ↓u_tpI, ↓u_iR1, ↓u_r1I, ↓u_iR2, ↓u_r2I, ↓u_iEn, ↓u_enI, ↓u_iKy, ↓u_kyC_K, ↓u_kyC_T, ↓u_tYs, ↓u_tLcG, ↓u_wipe_nil, ↓u_wipe_cons, ↓u_tCal, ↓u_tMet, ↓u_tMak, ↓u_WdE, ↓u_noW, ↓u_tCb, ↓u_rLen_tup, ↓u_rLen_rl, ↓u_rLen_str, ↓u_rLen_ref, ↓u_lnC_lst, ↓u_lnC_dK, ↓u_rList_tup, ↓u_rList_rl, ↓u_rList_ref, ↓u_rTuple_tup, ↓u_rTuple_ref, ↓u_rInt_int, ↓u_rInt_bl, ↓u_rStr, ↓u_rMin2, ↓u_rMax2, ↓u_rSum, ↓u_tLr1, ↓u_tLr2, ↓u_tBm, ↓u_rApp, ↓u_rPop0, ↓u_rPopI, ↓u_rIns, ↓u_rClr, ↓u_tGet2, ↓u_isD_K, ↓u_isD_T, ↓u_tDisp1, ↓u_ixN41, ↓u_ixN42, ↓u_ixN43, ↓u_isS, ↓u_tSplit, ↓u_rSplit, ↓u_tJn, ↓u_rIntT_str, ↓u_rIntT_int, ↓u_iSr, ↓u_srI, ↓u_rInG_str, ↓u_rIx_str, ↓u_isi_non, ↓u_isi_bl, ↓u_isi_int, ↓u_isi_str, ↓u_isi_tup, ↓u_isi_ref, ↓u_isiC_lst, ↓u_isiC_dK, ↓u_isiC_dT, ↓u_kit_NoneType_bool, ↓u_kit_NoneType_int, ↓u_kit_NoneType_str, ↓u_kit_NoneType_tuple, ↓u_kit_NoneType_list, ↓u_kit_NoneType_dict, ↓u_kit_bool_bool, ↓u_kit_bool_int, ↓u_kit_bool_str, ↓u_kit_bool_tuple, ↓u_kit_bool_list, ↓u_kit_bool_dict, ↓u_kit_int_bool, ↓u_kit_int_int, ↓u_kit_int_str, ↓u_kit_int_tuple, ↓u_kit_int_list, ↓u_kit_int_dict, ↓u_kit_str_bool, ↓u_kit_str_int, ↓u_kit_str_str, ↓u_kit_str_tuple, ↓u_kit_str_list, ↓u_kit_str_dict, ↓u_kit_tuple_bool, ↓u_kit_tuple_int, ↓u_kit_tuple_str, ↓u_kit_tuple_tuple, ↓u_kit_tuple_list, ↓u_kit_tuple_dict, ↓u_kit_list_bool, ↓u_kit_list_int, ↓u_kit_list_str, ↓u_kit_list_tuple, ↓u_kit_list_list, ↓u_kit_list_dict, ↓u_kit_dict_bool, ↓u_kit_dict_int, ↓u_kit_dict_str, ↓u_kit_dict_tuple, ↓u_kit_dict_list, ↓u_kit_dict_dict, ↓u_tLsS, ↓u_tStS, startD, List.set, List.map, List.replicate, List.length_cons, List.length_nil, Nat.reduceAdd, Nat.reduceSub, List.cons_append, List.nil_append, List.append_nil, List.getElem?_cons_zero, List.getElem?_cons_succ, Option.some.injEq, DO.lst.injEq, DO.ins.injEq, DO.dK.injEq, DO.dT.injEq, DO.rdK.injEq, DO.rdT.injEq, exists_eq_left', exists_eq_left, exists_eq', Bool.false_eq_true, reduceCtorEq, Nat.reduceLeDiff, Bool.true_eq_false, if_true, if_false, ite_true, ite_false, Bool.not_true, Bool.not_false, cut2, true_and, and_true, false_and, and_false, decide_eq_true_eq, decide_true, roD_def, Int.reduceToNat, id_eq, forall_const, Nat.zero_le, Nat.le_refl, upD_same, putI, Nat.reduceLT, Nat.lt_irrefl, Nat.zero_lt_one, Nat.not_lt_zero]
  intro p4 hp4
  have f1 : upD Hd p4 (.lst [D.int b]) p = some (.lst (ps.map D.int)) := upD_old hp hp4
  simp only [f1, Option.some.injEq, exists_eq_left', DO.lst.injEq]
  refine loop_inv' (I := ⟨ps.map D.int, fun H => H p = some (.lst (ps.map D.int))⟩) (fun i ρ H => ∃ (z5 : Option D), ρ = [some (.ref a), some (.ref p), some (.int b), some (.int e), some (.ref p4), z5] ∧ Ext Hd H ∧ H p4 = some (.lst ((vs.take (i + 1)).map D.int))) ?_ ?_ ?_
  · refine ⟨_, rfl, .new hp4, ?_⟩
    rw [upD_same]
    cases vs with
    | nil => cases w2
    | cons v vs => cases w2; rfl
  · rintro i d ρ H hd ⟨z5, rfl, ex, g⟩
    refine ⟨ex _ _ hp, fun N B hN _ => ?_⟩
    obtain ⟨x, hx, rfl⟩ := getMap hd
    obtain ⟨j, r, u, z, rfl, hj, hu, hz, hd'⟩ := w5 i x hx
    have tk : (vs.take (i + 1)).map D.int = (vs.take i).map D.int ++ [.int u] := by rw [List.take_add_one, hu, List.map_append]; rfl
    have tk2 : (vs.take (i + 1 + 1)).map D.int = (vs.take (i + 1)).map D.int ++ [.int z] := by rw [List.take_add_one, hz, List.map_append]; rfl
    have g0 := g
    rw [tk] at g
    simp only [↓u_asB, ↓u_asI, ↓u_asR, ↓u_slot, ↓u_gt1, ↓u_goA_nm, ↓u_goA_tp, ↓u_goAs_nil, ↓u_goAs_cons, ↓u_sSeq, ↓u_sNx, ↓u_sDrop, ↓u_sRet, ↓u_sRetN, ↓u_sIf, ↓u_sAsg, ↓u_sSub, ↓u_sbC_lst, ↓u_sbC_dK, ↓u_sbC_dT, ↓u_sFl, ↓u_sFor, ↓u_tV, ↓u_tK, ↓u_tO, ↓u_tNeg, ↓u_tPn, ↓u_tPs, ↓u_tSlD, ↓u_rSl_tup, ↓u_rSl_rl, ↓u_rSl_ref, ↓u_tFl, ↓u_tN, ↓u_tC, ↓u_tTp, ↓u_tLs, ↓u_tDK, ↓u_tDT, ↓u_tTs, ↓u_tChn, ↓u_tChn3, ↓u_tAn, ↓u_tOr, ↓u_tNt, ↓u_tIfE, ↓u_tAnV, ↓u_tOrV, ↓u_tNtV, ↓u_rAdd_int, ↓u_rAdd_str, ↓u_rAdd_tup, ↓u_rAdd_ref, ↓u_rSub, ↓u_rMod, ↓u_rDiv, ↓u_rPow, ↓u_rLt, ↓u_rLe, ↓u_rGt, ↓u_rGe, ↓u_rMul_int, ↓u_rMul_ref, ↓u_rEq_int, ↓u_rEq_str, ↓u_rEq_bl, ↓u_rEq_nn, ↓u_rEq_in, ↓u_rEq_ni, ↓u_rNe_int, ↓u_rNe_str, ↓u_rNe_bl, ↓u_rNe_nn, ↓u_rNe_in, ↓u_rNe_ni, ↓u_rEq_t2, ↓u_rIsN, ↓u_rIsN_bl, ↓u_rNotN, ↓u_rNotN_bl, ↓u_isNon_non, ↓u_isNon_int, ↓u_isNon_ref, ↓u_isNon_tup, ↓u_isNon_bl, ↓u_isNon_str, ↓u_DG, ↓u_dgC_K, ↓u_dgC_rK, ↓u_dgC_T, ↓u_dgC_rT, ↓u_rInG_ref, ↓u_inC_K, ↓u_inC_rK, ↓u_inC_T, ↓u_inC_ints, ↓u_inC_prs, ↓u_rInG_tup, ↓u_rIx_ref, ↓u_ixC_lst, ↓u_ixC_K, ↓u_ixC_rK, ↓u_ixC_T, ↓u_ixC_rT, ↓u_rIx_tup, ↓u_rIx_rl, ↓u_at0, ↓u_at1, ↓u_at2, ↓u_at3, ↓u_iLs, ↓u_lsI_ref, ↓u_lsI_rl, ↓u_iTp, ↓u_tpI, ↓u_iR1, ↓u_r1I, ↓u_iR2, ↓u_r2I, ↓u_iEn, ↓u_enI, ↓u_iKy, ↓u_kyC_K, ↓u_kyC_T, ↓u_tYs, ↓u_tLcG, ↓u_wipe_nil, ↓u_wipe_cons, ↓u_tCal, ↓u_tMet, ↓u_tMak, ↓u_WdE, ↓u_noW, ↓u_tCb, ↓u_rLen_tup, ↓u_rLen_rl, ↓u_rLen_str, ↓u_rLen_ref, ↓u_lnC_lst, ↓u_lnC_dK, ↓u_rList_tup, ↓u_rList_rl, ↓u_rList_ref, ↓u_rTuple_tup, ↓u_rTuple_ref, ↓u_rInt_int, ↓u_rInt_bl, ↓u_rStr, ↓u_rMin2, ↓u_rMax2, ↓u_rSum, ↓u_tLr1, ↓u_tLr2, ↓u_tBm, ↓u_rApp, ↓u_rPop0, ↓u_rPopI, ↓u_rIns, ↓u_rClr, ↓u_tGet2, ↓u_isD_K, ↓u_isD_T, ↓u_tDisp1, ↓u_ixN41, ↓u_ixN42, ↓u_ixN43, ↓u_isS, ↓u_tSplit, ↓u_rSplit, ↓u_tJn, ↓u_rIntT_str, ↓u_rIntT_int, ↓u_iSr, ↓u_srI, ↓u_rInG_str, ↓u_rIx_str, ↓u_isi_non, ↓u_isi_bl, ↓u_isi_int, ↓u_isi_str, ↓u_isi_tup, ↓u_isi_ref, ↓u_isiC_lst, ↓u_isiC_dK, ↓u_isiC_dT, ↓u_kit_NoneType_bool, ↓u_kit_NoneType_int, ↓u_kit_NoneType_str, ↓u_kit_NoneType_tuple, ↓u_kit_NoneType_list, ↓u_kit_NoneType_dict, ↓u_kit_bool_bool, ↓u_kit_bool_int, ↓u_kit_bool_str, ↓u_kit_bool_tuple, ↓u_kit_bool_list, ↓u_kit_bool_dict, ↓u_kit_int_bool, ↓u_kit_int_int, ↓u_kit_int_str, ↓u_kit_int_tuple, ↓u_kit_int_list, ↓u_kit_int_dict, ↓u_kit_str_bool, ↓u_kit_str_int, ↓u_kit_str_str, ↓u_kit_str_tuple, ↓u_kit_str_list, ↓u_kit_str_dict, ↓u_kit_tuple_bool, ↓u_kit_tuple_int, ↓u_kit_tuple_str, ↓u_kit_tuple_tuple, ↓u_kit_tuple_list, ↓u_kit_tuple_dict, ↓u_kit_list_bool, ↓u_kit_list_int, ↓u_kit_list_str, ↓u_kit_list_tuple, ↓u_kit_list_list, ↓u_kit_list_dict, ↓u_kit_dict_bool, ↓u_kit_dict_int, ↓u_kit_dict_str, ↓u_kit_dict_tuple, ↓u_kit_dict_list, ↓u_kit_dict_dict, ↓u_tLsS, ↓u_tStS, startD, List.set, List.map, List.replicate, List.length_cons, List.length_nil, Nat.reduceAdd, Nat.reduceSub, List.cons_append, List.nil_append, List.append_nil, List.getElem?_cons_zero, List.getElem?_cons_succ, Option.some.injEq, DO.lst.injEq, DO.ins.injEq, DO.dK.injEq, DO.dT.injEq, DO.rdK.injEq, DO.rdT.injEq, exists_eq_left', exists_eq_left, exists_eq', Bool.false_eq_true, reduceCtorEq, Nat.reduceLeDiff, Bool.true_eq_false, if_true, if_false, ite_true, ite_false, Bool.not_true, Bool.not_false, cut2, true_and, and_true, false_and, and_false, decide_eq_true_eq, decide_true, roD_def, Int.reduceToNat, id_eq, forall_const, Nat.zero_le, Nat.le_refl, upD_same, putI, Nat.reduceLT, Nat.lt_irrefl, Nat.zero_lt_one, Nat.not_lt_zero, g, ex _ _ ha, atJ hj, (atI_end _ _), rInG_pair]
    have hm : u ∈ [r.o, r.t] := by
      rcases hd' with ⟨q, _⟩ | ⟨q, _⟩ <;> simp [← q]
    simp only [hm, decide_true, Bool.not_true, Bool.false_eq_true, if_false]
    have ez : r.o + r.t - u = z := by rcases hd' with ⟨q1, q2⟩ | ⟨q1, q2⟩ <;> omega
    have hi : i < ps.length := (List.getElem?_eq_some_iff.mp hx).1
    refine ⟨?_, hN _ _ ⟨_, rfl, ex.up hp4, ?_⟩⟩
    · rw [← tk, List.length_map, List.length_take]; omega
    · rw [upD_same, ez, ← tk, ← tk2]
  · rintro ρ H ⟨z5, rfl, ex, g⟩
    refine ⟨ex _ _ hp, ?_⟩
    have tk : (vs.take (ps.length + 1)).map D.int = (vs.take ps.length).map D.int ++ [.int e] := by rw [List.take_add_one, w3, List.map_append]; rfl
    rw [List.length_map] at g
    have g0 := g
    rw [tk] at g
    rw [← w1, List.take_length] at g0
    simp only [↓u_sRet, ↓u_tAnV, ↓u_tO, ↓u_tV, List.getElem?_cons_succ, List.getElem?_cons_zero, ↓u_slot, ↓u_tNeg, ↓u_tK, ↓u_rIx_ref, g, Option.some.injEq, exists_eq_left', ↓u_ixC_lst, ↓u_asI, (atI_end _ _), ↓u_rEq_int, decide_true, ↓u_asB, if_true, ↓u_tLsS, ↓u_asR, ↓u_tCb, ↓u_tC, ↓u_tN, ↓u_rLen_ref, ↓u_lnC_lst]
    rw [← tk, ← w1, List.take_length]
    refine ⟨vs, rfl, by omega, fun ms m1 m2 => ?_⟩
    have hle : ms.length = vs.length := Nat.le_antisymm (m1.length_le_of_subset fun x hx => (m2 x).mp hx) (w4.length_le_of_subset fun x hx => (m2 x).mpr hx)
    rw [hle, List.length_map, decide_eq_true rfl]
    exact k H ex
end Lt


end
section
set_option Elab.async false
set_option linter.all false
set_option maxRecDepth 100000
set_option maxHeartbeats 2000000
/-! En: data that is compared as a whole. -/
namespace Lt
open PySem PySem.Spec L2
structure Enc (α : Type) [DecidableEq α] (f : α → PyData) (k : Nat) : Prop where
  e : ∀ x y, PyData.eqv (f x) (f y) = decide (x = y)
  l : ∀ x, (f x).canLay0 = true
  d : ∀ x, (f x).depth ≤ k
structure EncT (α : Type) [DecidableEq α] (f : α → List PyData) (k : Nat) : Prop where
  e : ∀ x y, PyData.eqvAll (f x) (f y) = decide (x = y)
  l : ∀ x, PyData.canLayAll0 (f x) = true
  d : ∀ x, PyData.depthAll (f x) ≤ k
def pyOI : Option Int → PyData
  | none => .none
  | some i => .int i
variable {α β : Type} [DecidableEq α] [DecidableEq β] {f : α → PyData} {k : Nat}
theorem Enc.int : Enc Int PyData.int k := ⟨fun _ _ => eqv_int, fun _ => rfl, fun _ => by show (0 : Nat) ≤ k; omega⟩
theorem Enc.bl : Enc Bool PyData.bool k := ⟨fun x y => by cases x <;> cases y <;> decide, fun _ => rfl, fun _ => by show (0 : Nat) ≤ k; omega⟩
theorem Enc.oi : Enc (Option Int) pyOI k := by
  refine ⟨fun x y => ?_, fun x => by cases x <;> rfl, fun x => by cases x <;> (show (0 : Nat) ≤ k; omega)⟩
  cases x <;> cases y
  · rfl
  · rfl
  · rfl
  · show PyData.eqv (.int _) (.int _) = _
    rw [show ∀ i j : Int, PyData.eqv (.int i) (.int j) = decide (i = j) from fun _ _ => eqv_int]
    simp
theorem eqvAll_enc (h : ∀ x y, PyData.eqv (f x) (f y) = decide (x = y)) : ∀ xs ys : List α, PyData.eqvAll (xs.map f) (ys.map f) = decide (xs = ys)
  | [], [] => rfl
  | [], _ :: _ => rfl
  | _ :: _, [] => rfl
  | x :: xs, y :: ys => by
    show (PyData.eqv (f x) (f y) && PyData.eqvAll (xs.map f) (ys.map f)) = _
    rw [h, eqvAll_enc h xs ys]
    by_cases h1 : x = y <;> by_cases h2 : xs = ys <;> simp [h1, h2]
theorem lay_enc (h : ∀ x, (f x).canLay0 = true) : ∀ xs : List α, PyData.canLayAll0 (xs.map f) = true
  | [] => rfl
  | x :: xs => by
    show ((f x).canLay0 && PyData.canLayAll0 (xs.map f)) = true
    rw [h, lay_enc h xs]; rfl
theorem depth_enc (h : ∀ x, (f x).depth ≤ k) : ∀ xs : List α, PyData.depthAll (xs.map f) ≤ k
  | [] => by show (0 : Nat) ≤ k; omega
  | x :: xs => by
    show max (f x).depth (PyData.depthAll (xs.map f)) ≤ k
    have := h x; have := depth_enc h xs; omega
theorem Enc.list (h : Enc α f k) : Enc (List α) (fun xs => .list (xs.map f)) (k + 1) := by
  refine ⟨fun x y => eqvAll_enc h.e x y, fun x => lay_enc h.l x, fun x => ?_⟩
  show PyData.depthAll (x.map f) + 1 ≤ k + 1
  have := depth_enc h.d x; omega
theorem EncT.nil : EncT Unit (fun _ => []) k := ⟨fun _ _ => rfl, fun _ => rfl, fun _ => by show (0 : Nat) ≤ k; omega⟩
theorem EncT.cons {g : β → List PyData} (h : Enc α f k) (t : EncT β g k) : EncT (α × β) (fun p => f p.1 :: g p.2) k := by
  refine ⟨fun x y => ?_, fun x => ?_, fun x => ?_⟩
  · show (PyData.eqv (f x.1) (f y.1) && PyData.eqvAll (g x.2) (g y.2)) = _
    rw [h.e, t.e]
    cases x; cases y
    simp
  · show ((f x.1).canLay0 && PyData.canLayAll0 (g x.2)) = true
    rw [h.l, t.l]; rfl
  · show max (f x.1).depth (PyData.depthAll (g x.2)) ≤ k
    have := h.d x.1; have := t.d x.2; omega
theorem Enc.tup {g : β → List PyData} (t : EncT β g k) : Enc β (fun x => .tuple (g x)) (k + 1) := by
  refine ⟨fun x y => t.e x y, fun x => t.l x, fun x => ?_⟩
  show PyData.depthAll (g x) + 1 ≤ k + 1
  have := t.d x; omega
theorem Enc.up {j : Nat} (h : Enc α f k) (hk : k ≤ j) : Enc α f j := ⟨h.e, h.l, fun x => Nat.le_trans (h.d x) hk⟩
theorem Enc.shaped (h : Enc α f k) (hk : k ≤ 64) (x : α) : SeqAt.shaped (f x) = true := by
  show ((f x).canLay0 && decide ((f x).depth ≤ 64)) = true
  rw [h.l]
  have := h.d x
  simp; omega
theorem encEq (h : Enc α f k) {H : HD} {Q : QD} {x y : D} {a b : α} (hx : PyA H x (f a)) (hy : PyA H y (f b)) (q : Q (.bl (decide (a = b))) H) (hs : scalD x y = none := by rfl) (hk : k ≤ 64 := by omega) : rEq x y H Q := by
  unfold rEq
  rw [hs]
  exact ⟨_, _, hx, hy, h.shaped hk a, h.shaped hk b, by rw [h.e]; exact q⟩
theorem encNe (h : Enc α f k) {H : HD} {Q : QD} {x y : D} {a b : α} (hx : PyA H x (f a)) (hy : PyA H y (f b)) (q : Q (.bl (!decide (a = b))) H) (hs : scalD x y = none := by rfl) (hk : k ≤ 64 := by omega) : rNe x y H Q := by
  unfold rNe
  rw [hs]
  exact ⟨_, _, hx, hy, h.shaped hk a, h.shaped hk b, by rw [h.e]; exact q⟩
theorem pyA_oI {H : HD} {m : Option Int} : PyA H (oI m) (pyOI m) := by cases m; exact .non; exact .int
theorem pyAs_map {H : HD} {g : α → D} (h : ∀ x, PyA H (g x) (f x)) : ∀ xs : List α, PyAs H (xs.map g) (xs.map f)
  | [] => .nil
  | x :: xs => .cons (h x) (pyAs_map h xs)
theorem pyA_ints {H : HD} {p : Addr} {ns : List Int} (h : H p = some (.lst (ns.map D.int))) : PyA H (.ref p) (.list (ns.map PyData.int)) := .lst h (pyAs_map (fun _ => .int) ns)
/-- any of a list -/
theorem encIn (h : Enc α f k) {g : Bool → Bool} {H : HD} {Q : QD} {x : D} {p : Addr} {ds : List D} {a : α} {as : List α} (hx : PyA H x (f a)) (hp : H p = some (.lst ds)) (hy : PyAs H ds (as.map f)) (q : Q (.bl (g (decide (a ∈ as)))) H) (hk : k + 1 ≤ 64 := by omega) : rInG g x (.ref p) H Q := by
  refine ⟨_, hp, ?_⟩
  have e : ∀ as : List α, ((as.map f).any fun z => PyData.eqv z (f a)) = decide (a ∈ as) := fun as => by
    induction as with
    | nil => rfl
    | cons y ys ih =>
      rw [List.map_cons, List.any_cons, ih, h.e]
      by_cases h1 : y = a
      · simp [h1]
      · have h2 : ¬ a = y := fun z => h1 z.symm
        simp [h1, h2]
  exact ⟨_, _, hx, hy, h.shaped (by omega) a, h.list.shaped hk as, by rw [e]; exact q⟩
/-! what a run tells -/
theorem encRun : Enc (Bool × List Int × Int × Option Int × Unit) (fun x => .tuple [.bool x.1, .list (x.2.1.map PyData.int), .int x.2.2.1, pyOI x.2.2.2.1]) 2 :=
  Enc.tup (EncT.cons (k := 1) .bl (.cons (Enc.list .int) (.cons .int (.cons .oi .nil))))
theorem pyA_run {H : HD} {b : Bool} {p : Addr} {ts : List Int} {i : Int} {m : Option Int} (h : H p = some (.lst (ts.map D.int))) : PyA H (.tup [.bl b, .ref p, .int i, oI m]) (.tuple [.bool b, .list (ts.map PyData.int), .int i, pyOI m]) :=
  .tup (.cons .bl (.cons (pyA_ints h) (.cons .int (.cons pyA_oI .nil))))
instance decK1 : DecidableEq (List Int × Bool × Unit) := inferInstance
instance decK2 : DecidableEq (List Int × List Int × Bool × Unit) := inferInstance
instance decK3 : DecidableEq (Option Int × List Int × List Int × Bool × Unit) := inferInstance
instance decK4 : DecidableEq (Int × Option Int × List Int × List Int × Bool × Unit) := inferInstance
instance decK5 : DecidableEq (Bool × Int × Option Int × List Int × List Int × Bool × Unit) := inferInstance
abbrev KnT := Bool × Int × Option Int × List Int × List Int × Bool × Unit
def knP (x : KnT) : PyData := .tuple [.bool x.1, .int x.2.1, pyOI x.2.2.1, .list (x.2.2.2.1.map PyData.int), .list (x.2.2.2.2.1.map PyData.int), .bool x.2.2.2.2.2.1]
theorem encKn : Enc KnT knP 2 := Enc.tup (EncT.cons (k := 1) .bl (.cons .int (.cons .oi (.cons (Enc.list .int) (.cons (Enc.list .int) (.cons .bl .nil))))))
theorem pyA_kn {H : HD} {a o : Bool} {v : Int} {m : Option Int} {tl ol : Addr} {ts us : List Int} (h1 : H tl = some (.lst (ts.map D.int))) (h2 : H ol = some (.lst (us.map D.int))) : PyA H (.tup [.bl a, .int v, oI m, .ref tl, .ref ol, .bl o]) (knP (a, v, m, ts, us, o, ())) :=
  .tup (.cons .bl (.cons .int (.cons pyA_oI (.cons (pyA_ints h1) (.cons (pyA_ints h2) (.cons .bl .nil))))))
end Lt

end
section
set_option Elab.async false
set_option linter.all false
set_option maxRecDepth 100000
set_option maxHeartbeats 4000000
/-! Xi: _law_is. -/
namespace Lt
open PySem PySem.Spec L2
def fiveW : List Str := ["web", "hand", "road", "letter", "text"]
def kindsOf (i : Nat) : List Bool := [decide (i = 0), decide (i = 1), decide (i = 2), decide (i = 3), decide (i = 4)]
theorem kinds_words {c : CA} {C : Addr} {i : Nat} {w : Str} (h : (C, i) ∈ five c) : decide (kindsOf i = fiveW.map fun x => decide (w = x)) = decide (w = wordOf i) := by
  have hi : i = 0 ∨ i = 1 ∨ i = 2 ∨ i = 3 ∨ i = 4 := by
    simp only [five, List.mem_cons, Prod.mk.injEq, List.not_mem_nil, or_false] at h
    omega
  have key : ∀ v : Str, v ∈ fiveW → fiveW.map (fun x => decide (v = x)) = fiveW.map fun x => decide (v = x) := fun _ _ => rfl
  by_cases h0 : w = "web"
  · subst h0; rcases hi with rfl | rfl | rfl | rfl | rfl <;> decide
  by_cases h1 : w = "hand"
  · subst h1; rcases hi with rfl | rfl | rfl | rfl | rfl <;> decide
  by_cases h2 : w = "road"
  · subst h2; rcases hi with rfl | rfl | rfl | rfl | rfl <;> decide
  by_cases h3 : w = "letter"
  · subst h3; rcases hi with rfl | rfl | rfl | rfl | rfl <;> decide
  by_cases h4 : w = "text"
  · subst h4; rcases hi with rfl | rfl | rfl | rfl | rfl <;> decide
  have e : fiveW.map (fun x => decide (w = x)) = [false, false, false, false, false] := by
    simp only [fiveW, List.map_cons, List.map_nil, decide_eq_false h0, decide_eq_false h1, decide_eq_false h2, decide_eq_false h3, decide_eq_false h4]
  rw [e]
  rcases hi with rfl | rfl | rfl | rfl | rfl
  · rw [decide_eq_false (show ¬ w = wordOf 0 from h0)]; decide
  · rw [decide_eq_false (show ¬ w = wordOf 1 from h1)]; decide
  · rw [decide_eq_false (show ¬ w = wordOf 2 from h2)]; decide
  · rw [decide_eq_false (show ¬ w = wordOf 3 from h3)]; decide
  · rw [decide_eq_false (show ¬ w = wordOf 4 from h4)]; decide
theorem dok_ext {d : Option Addr} {H H' : HD} (h : d = none ∨ ∃ dd fs, d = some dd ∧ H dd = some (.xd fs)) (e : Ext H H') : d = none ∨ ∃ dd fs, d = some dd ∧ H' dd = some (.xd fs) := by
  rcases h with h | ⟨dd, fs, h, g⟩
  · exact .inl h
  · exact .inr ⟨dd, fs, h, e _ _ g⟩
def th__law_is (a C : Addr) (d : Option Addr) (c : CA) : TSD :=
  (sSeq (sAsg (tLs (tC (tCb (rIsX a C d (isTab c)) (tC (tV 0) (tC (tK (.ref c.BadWeb)) tN))) (tC (tCb (rIsX a C d (isTab c)) (tC (tV 0) (tC (tK (.ref c.NoHand)) tN))) (tC (tCb (rIsX a C d (isTab c)) (tC (tV 0) (tC (tK (.ref c.NoRoad)) tN))) (tC (tCb (rIsX a C d (isTab c)) (tC (tV 0) (tC (tK (.ref c.NoLetter)) tN))) tN))))) (.nm 2))
    (sSeq (sAsg (tO rAdd (tV 2) (tLs (tC (tCb (rIsX a C d (isTab c)) (tC (tV 0) (tC (tK (.ref c.BadText)) tN))) tN))) (.nm 2))
    (sSeq (sAsg (tLs (tC (tK (.str "web")) (tC (tK (.str "hand")) (tC (tK (.str "road")) (tC (tK (.str "letter")) (tC (tK (.str "text")) tN)))))) (.nm 3))
    (sRet (tAnV (tCb (rIsX a C d (isTab c)) (tC (tV 0) (tC (tK (.ty "ValueError")) tN))) (tO rEq (tV 2) (tLcG (iLs (tV 3)) (.nm 4) tYs (tO rEq (tV 1) (tV 4)) [4])))))))
theorem lenh__law_is : ∀ c a C d ds H Q E, sph__law_is c a C d ds H Q E → ds.length = (["_law_e", "_law_word"] : List Str).length := by intro c a C d; intro ds H Q E h; first | (obtain ⟨_, _, _, _, _, _, _, _, _, _, _, _, rfl, _⟩ := h; rfl) | (obtain ⟨_, _, _, _, _, _, _, _, _, _, _, rfl, _⟩ := h; rfl) | (obtain ⟨_, _, _, _, _, _, _, _, _, _, rfl, _⟩ := h; rfl) | (obtain ⟨_, _, _, _, _, _, _, _, _, rfl, _⟩ := h; rfl) | (obtain ⟨_, _, _, _, _, _, _, _, rfl, _⟩ := h; rfl) | (obtain ⟨rfl, _⟩ := h; rfl) | (obtain ⟨_, rfl, _⟩ := h; rfl) | (obtain ⟨_, _, rfl, _⟩ := h; rfl) | (obtain ⟨_, _, _, rfl, _⟩ := h; rfl) | (obtain ⟨_, _, _, _, rfl, _⟩ := h; rfl) | (obtain ⟨_, _, _, _, _, rfl, _⟩ := h; rfl) | (obtain ⟨_, _, _, _, _, _, rfl, _⟩ := h; rfl) | (obtain ⟨_, _, _, _, _, _, _, rfl, _⟩ := h; rfl)
theorem rdh__law_is (c : CA) (a C : Addr) (d : Option Addr) (ds : List D) (Hd : HD) (Qd : QD) (h : sph__law_is c a C d ds Hd Qd noX) : th__law_is a C d c { nx := fun _ H' => Qd .non H', rt := Qd } (startD ["_law_e", "_law_word", "_law_kinds", "_law_words", "_law_one"] ds) Hd := by
  obtain ⟨w, i, rfl, hi, hd, q⟩ := h
  have f0 : (c.BadWeb, 0) ∈ five c := by simp [five]
  have f1 : (c.NoHand, 1) ∈ five c := by simp [five]
  have f2 : (c.NoRoad, 2) ∈ five c := by simp [five]
  have f3 : (c.NoLetter, 3) ∈ five c := by simp [five]
  have f4 : (c.BadText, 4) ∈ five c := by simp [five]
  unfold th__law_is
  simp only [↓u_asB, ↓u_asI, ↓u_asR, ↓u_slot, ↓u_gt1, ↓u_goA_nm, ↓u_goA_tp, ↓u_goAs_nil, ↓u_goAs_cons, ↓u_sSeq, ↓u_sNx, ↓u_sDrop, ↓u_sRet, ↓u_sRetN, ↓u_sIf, ↓u_sAsg, ↓u_sSub, ↓u_sbC_lst, ↓u_sbC_dK, ↓u_sbC_dT, ↓u_sFl, ↓u_sFor, ↓u_tV, ↓u_tK, ↓u_tO, ↓u_tNeg, ↓u_tPn, ↓u_tPs, ↓u_tSlD, ↓u_rSl_tup, ↓u_rSl_rl, ↓u_rSl_ref, ↓u_tFl, ↓u_tN, ↓u_tC, ↓u_tTp, ↓u_tLs, ↓u_tDK, ↓u_tDT, ↓u_tTs, ↓u_tChn, ↓u_tChn3, ↓u_tAn, ↓u_tOr, ↓u_tNt, ↓u_tIfE, ↓u_tAnV, ↓u_tOrV, ↓u_tNtV, ↓u_rAdd_int, ↓u_rAdd_str, ↓u_rAdd_tup, ↓u_rAdd_ref, ↓u_rSub, ↓u_rMod, ↓u_rDiv, ↓u_rPow, ↓u_rLt, ↓u_rLe, ↓u_rGt, ↓u_rGe, ↓u_rMul_int, ↓u_rMul_ref, ↓u_rEq_int, ↓u_rEq_str, ↓u_rEq_bl, ↓u_rEq_nn, ↓u_rEq_in, ↓u_rEq_ni, ↓u_rNe_int, ↓u_rNe_str, ↓u_rNe_bl, ↓u_rNe_nn, ↓u_rNe_in, ↓u_rNe_ni, ↓u_rEq_t2, ↓u_rIsN, ↓u_rIsN_bl, ↓u_rNotN, ↓u_rNotN_bl, ↓u_isNon_non, ↓u_isNon_int, ↓u_isNon_ref, ↓u_isNon_tup, ↓u_isNon_bl, ↓u_isNon_str, ↓u_DG, ↓u_dgC_K, ↓u_dgC_rK, ↓u_dgC_T, ↓u_dgC_rT, ↓u_rInG_ref, ↓u_inC_K, ↓u_inC_rK, ↓u_inC_T, ↓u_inC_ints, ↓u_inC_prs, ↓u_rInG_tup, ↓u_rIx_ref, ↓u_ixC_lst, ↓u_ixC_K, ↓u_ixC_rK, ↓u_ixC_T, ↓u_ixC_rT, ↓u_rIx_tup, ↓u_rIx_rl, ↓u_at0, ↓u_at1, ↓u_at2, ↓u_at3, ↓u_iLs, ↓u_lsI_ref, ↓u_lsI_rl, ↓u_iTp, ↓u_tpI, ↓u_iR1, ↓u_r1I, ↓u_iR2, ↓u_r2I, ↓u_iEn, ↓u_enI, ↓u_iKy, ↓u_kyC_K, ↓u_kyC_T, ↓u_tYs, ↓u_tLcG, ↓u_wipe_nil, ↓u_wipe_cons, ↓u_tCal, ↓u_tMet, ↓u_tMak, ↓u_WdE, ↓u_noW, ↓u_tCb, ↓u_rLen_tup, ↓u_rLen_rl, ↓u_rLen_str, ↓u_rLen_ref, ↓u_lnC_lst, ↓u_lnC_dK, ↓u_rList_tup, ↓u_rList_rl, ↓u_rList_ref, ↓u_rTuple_tup, ↓u_rTuple_ref, ↓u_rInt_int, ↓u_rInt_bl, ↓u_rStr, ↓u_rMin2, ↓u_rMax2, ↓u_rSum, ↓u_tLr1, ↓u_tLr2, ↓u_tBm, ↓u_rApp, ↓u_rPop0, ↓u_rPopI, ↓u_rIns, ↓u_rClr, ↓u_tGet2, ↓u_isD_K, ↓u_isD_T, ↓u_tDisp1, ↓u_ixN41, ↓u_ixN42, ↓u_ixN43, ↓u_isS, ↓u_tSplit, ↓u_rSplit, ↓u_tJn, ↓u_rIntT_str, ↓u_rIntT_int, ↓u_iSr, ↓u_srI, ↓u_rInG_str, ↓u_rIx_str, ↓u_isi_non, ↓u_isi_bl, ↓u_isi_int, ↓u_isi_str, ↓u_isi_tup, ↓u_isi_ref, ↓u_isiC_lst, ↓u_isiC_dK, ↓u_isiC_dT, ↓u_kit_NoneType_bool, ↓u_kit_NoneType_int, ↓u_kit_NoneType_str, ↓u_kit_NoneType_tuple, ↓u_kit_NoneType_list, ↓u_kit_NoneType_dict, ↓u_kit_bool_bool, ↓u_kit_bool_int, ↓u_kit_bool_str, ↓u_kit_bool_tuple, ↓u_kit_bool_list, ↓u_kit_bool_dict, ↓u_kit_int_bool, ↓u_kit_int_int, ↓u_kit_int_str, ↓u_kit_int_tuple, ↓u_kit_int_list, ↓u_kit_int_dict, ↓u_kit_str_bool, ↓u_kit_str_int, ↓u_kit_str_str, ↓u_kit_str_tuple, ↓u_kit_str_list, ↓u_kit_str_dict, ↓u_kit_tuple_bool, ↓u_kit_tuple_int, ↓u_kit_tuple_str, ↓u_kit_tuple_tuple, ↓u_kit_tuple_list, ↓u_kit_tuple_dict, ↓u_kit_list_bool, ↓u_kit_list_int, ↓u_kit_list_str, ↓u_kit_list_tuple, ↓u_kit_list_list, ↓u_kit_list_dict, ↓u_kit_dict_bool, ↓u_kit_dict_int, ↓u_kit_dict_str, ↓u_kit_dict_tuple, ↓u_kit_dict_list, ↓u_kit_dict_dict, startD, List.set, List.map, List.replicate, List.length_cons, List.length_nil, Nat.reduceAdd, Nat.reduceSub, List.cons_append, List.nil_append, List.append_nil, List.getElem?_cons_zero, List.getElem?_cons_succ, Option.some.injEq, DO.lst.injEq, DO.ins.injEq, DO.dK.injEq, DO.dT.injEq, DO.rdK.injEq, DO.rdT.injEq, exists_eq_left', exists_eq_left, exists_eq', Bool.false_eq_true, reduceCtorEq, Nat.reduceLeDiff, Bool.true_eq_false, if_true, if_false, ite_true, ite_false, Bool.not_true, Bool.not_false, cut2, true_and, and_true, false_and, and_false, decide_eq_true_eq, decide_true, roD_def, Int.reduceToNat, id_eq, forall_const, Nat.zero_le, Nat.le_refl, upD_same, putI, Nat.reduceLT, Nat.lt_irrefl, Nat.zero_lt_one, Nat.not_lt_zero]
  refine isx_ref 0 hi f0 hd (isx_ref 1 hi f1 hd (isx_ref 2 hi f2 hd (isx_ref 3 hi f3 hd fun p1 h1 => ?_)))
  have e1 : Ext Hd (upD Hd p1 (.lst [D.bl (decide (i = 0)), D.bl (decide (i = 1)), D.bl (decide (i = 2)), D.bl (decide (i = 3))])) := .new h1
  have g1 : upD Hd p1 (.lst [D.bl (decide (i = 0)), D.bl (decide (i = 1)), D.bl (decide (i = 2)), D.bl (decide (i = 3))]) p1 = some (.lst [D.bl (decide (i = 0)), D.bl (decide (i = 1)), D.bl (decide (i = 2)), D.bl (decide (i = 3))]) := upD_same
  generalize upD Hd p1 (.lst [D.bl (decide (i = 0)), D.bl (decide (i = 1)), D.bl (decide (i = 2)), D.bl (decide (i = 3))]) = H1 at e1 g1 ⊢
  refine isx_ref 4 hi f4 (dok_ext hd e1) fun p2 h2 => ⟨_, _, upD_old g1 h2, rfl, by simp [sizeLine_eq], fun p3 h3 p4 h4 => ?_⟩
  have e2 : Ext Hd (upD H1 p2 (.lst [D.bl (decide (i = 4))])) := e1.trans (.new h2)
  generalize upD H1 p2 (.lst [D.bl (decide (i = 4))]) = H2 at e2 h3 h4 ⊢
  have ek : [D.bl (decide (i = 0)), D.bl (decide (i = 1)), D.bl (decide (i = 2)), D.bl (decide (i = 3))] ++ [D.bl (decide (i = 4))] = (kindsOf i).map D.bl := rfl
  rw [ek] at h4 ⊢
  have e3 : Ext Hd (upD H2 p3 (.lst ((kindsOf i).map D.bl))) := e2.trans (.new h3)
  have g3 : upD H2 p3 (.lst ((kindsOf i).map D.bl)) p3 = some (.lst ((kindsOf i).map D.bl)) := upD_same
  generalize upD H2 p3 (.lst ((kindsOf i).map D.bl)) = H3 at e3 g3 h4 ⊢
  have ew : [D.str (Str.ofString "web"), D.str (Str.ofString "hand"), D.str (Str.ofString "road"), D.str (Str.ofString "letter"), D.str (Str.ofString "text")] = fiveW.map D.str := rfl
  rw [ew]
  have e4 : Ext Hd (upD H3 p4 (.lst (fiveW.map D.str))) := e3.trans (.new h4)
  have g4 : upD H3 p4 (.lst (fiveW.map D.str)) p4 = some (.lst (fiveW.map D.str)) := upD_same
  have g34 : upD H3 p4 (.lst (fiveW.map D.str)) p3 = some (.lst ((kindsOf i).map D.bl)) := upD_old g3 h4
  generalize upD H3 p4 (.lst (fiveW.map D.str)) = H4 at e4 g4 g34 ⊢
  refine isx_ty hi (dok_ext hd e4) ?_
  simp only [↓u_asB, if_true]
  refine ⟨_, g4, fun p5 h5 => ?_⟩
  refine lc_map D.str (fun x => D.bl (decide (w = x))) h5 (by decide) (fun H e => e _ _ g4) (fun j x H K hx e hk => ?_) fun H5 e5 g5 => ?_
  · simp only [↓u_asB, ↓u_asI, ↓u_asR, ↓u_slot, ↓u_gt1, ↓u_goA_nm, ↓u_goA_tp, ↓u_goAs_nil, ↓u_goAs_cons, ↓u_sSeq, ↓u_sNx, ↓u_sDrop, ↓u_sRet, ↓u_sRetN, ↓u_sIf, ↓u_sAsg, ↓u_sSub, ↓u_sbC_lst, ↓u_sbC_dK, ↓u_sbC_dT, ↓u_sFl, ↓u_sFor, ↓u_tV, ↓u_tK, ↓u_tO, ↓u_tNeg, ↓u_tPn, ↓u_tPs, ↓u_tSlD, ↓u_rSl_tup, ↓u_rSl_rl, ↓u_rSl_ref, ↓u_tFl, ↓u_tN, ↓u_tC, ↓u_tTp, ↓u_tLs, ↓u_tDK, ↓u_tDT, ↓u_tTs, ↓u_tChn, ↓u_tChn3, ↓u_tAn, ↓u_tOr, ↓u_tNt, ↓u_tIfE, ↓u_tAnV, ↓u_tOrV, ↓u_tNtV, ↓u_rAdd_int, ↓u_rAdd_str, ↓u_rAdd_tup, ↓u_rAdd_ref, ↓u_rSub, ↓u_rMod, ↓u_rDiv, ↓u_rPow, ↓u_rLt, ↓u_rLe, ↓u_rGt, ↓u_rGe, ↓u_rMul_int, ↓u_rMul_ref, ↓u_rEq_int, ↓u_rEq_str, ↓u_rEq_bl, ↓u_rEq_nn, ↓u_rEq_in, ↓u_rEq_ni, ↓u_rNe_int, ↓u_rNe_str, ↓u_rNe_bl, ↓u_rNe_nn, ↓u_rNe_in, ↓u_rNe_ni, ↓u_rEq_t2, ↓u_rIsN, ↓u_rIsN_bl, ↓u_rNotN, ↓u_rNotN_bl, ↓u_isNon_non, ↓u_isNon_int, ↓u_isNon_ref, ↓u_isNon_tup, ↓u_isNon_bl, ↓u_isNon_str, ↓u_DG, ↓u_dgC_K, ↓u_dgC_rK, ↓u_dgC_T, ↓u_dgC_rT, ↓u_rInG_ref, ↓u_inC_K, ↓u_inC_rK, ↓u_inC_T, ↓u_inC_ints, ↓u_inC_prs, ↓u_rInG_tup, ↓u_rIx_ref, ↓u_ixC_lst, ↓u_ixC_K, ↓u_ixC_rK, ↓u_ixC_T, ↓u_ixC_rT, ↓u_rIx_tup, ↓u_rIx_rl, ↓u_at0, ↓u_at1, ↓u_at2, ↓u_at3, ↓u_iLs, ↓u_lsI_ref, ↓u_lsI_rl, ↓u_iTp, ↓u_tpI, ↓u_iR1, ↓u_r1I, ↓u_iR2, ↓u_r2I, ↓u_iEn, ↓u_enI, ↓u_iKy, ↓u_kyC_K, ↓u_kyC_T, ↓u_tYs, ↓u_tLcG, ↓u_wipe_nil, ↓u_wipe_cons, ↓u_tCal, ↓u_tMet, ↓u_tMak, ↓u_WdE, ↓u_noW, ↓u_tCb, ↓u_rLen_tup, ↓u_rLen_rl, ↓u_rLen_str, ↓u_rLen_ref, ↓u_lnC_lst, ↓u_lnC_dK, ↓u_rList_tup, ↓u_rList_rl, ↓u_rList_ref, ↓u_rTuple_tup, ↓u_rTuple_ref, ↓u_rInt_int, ↓u_rInt_bl, ↓u_rStr, ↓u_rMin2, ↓u_rMax2, ↓u_rSum, ↓u_tLr1, ↓u_tLr2, ↓u_tBm, ↓u_rApp, ↓u_rPop0, ↓u_rPopI, ↓u_rIns, ↓u_rClr, ↓u_tGet2, ↓u_isD_K, ↓u_isD_T, ↓u_tDisp1, ↓u_ixN41, ↓u_ixN42, ↓u_ixN43, ↓u_isS, ↓u_tSplit, ↓u_rSplit, ↓u_tJn, ↓u_rIntT_str, ↓u_rIntT_int, ↓u_iSr, ↓u_srI, ↓u_rInG_str, ↓u_rIx_str, ↓u_isi_non, ↓u_isi_bl, ↓u_isi_int, ↓u_isi_str, ↓u_isi_tup, ↓u_isi_ref, ↓u_isiC_lst, ↓u_isiC_dK, ↓u_isiC_dT, ↓u_kit_NoneType_bool, ↓u_kit_NoneType_int, ↓u_kit_NoneType_str, ↓u_kit_NoneType_tuple, ↓u_kit_NoneType_list, ↓u_kit_NoneType_dict, ↓u_kit_bool_bool, ↓u_kit_bool_int, ↓u_kit_bool_str, ↓u_kit_bool_tuple, ↓u_kit_bool_list, ↓u_kit_bool_dict, ↓u_kit_int_bool, ↓u_kit_int_int, ↓u_kit_int_str, ↓u_kit_int_tuple, ↓u_kit_int_list, ↓u_kit_int_dict, ↓u_kit_str_bool, ↓u_kit_str_int, ↓u_kit_str_str, ↓u_kit_str_tuple, ↓u_kit_str_list, ↓u_kit_str_dict, ↓u_kit_tuple_bool, ↓u_kit_tuple_int, ↓u_kit_tuple_str, ↓u_kit_tuple_tuple, ↓u_kit_tuple_list, ↓u_kit_tuple_dict, ↓u_kit_list_bool, ↓u_kit_list_int, ↓u_kit_list_str, ↓u_kit_list_tuple, ↓u_kit_list_list, ↓u_kit_list_dict, ↓u_kit_dict_bool, ↓u_kit_dict_int, ↓u_kit_dict_str, ↓u_kit_dict_tuple, ↓u_kit_dict_list, ↓u_kit_dict_dict, startD, List.set, List.map, List.replicate, List.length_cons, List.length_nil, Nat.reduceAdd, Nat.reduceSub, List.cons_append, List.nil_append, List.append_nil, List.getElem?_cons_zero, List.getElem?_cons_succ, Option.some.injEq, DO.lst.injEq, DO.ins.injEq, DO.dK.injEq, DO.dT.injEq, DO.rdK.injEq, DO.rdT.injEq, exists_eq_left', exists_eq_left, exists_eq', Bool.false_eq_true, reduceCtorEq, Nat.reduceLeDiff, Bool.true_eq_false, if_true, if_false, ite_true, ite_false, Bool.not_true, Bool.not_false, cut2, true_and, and_true, false_and, and_false, decide_eq_true_eq, decide_true, roD_def, Int.reduceToNat, id_eq, forall_const, Nat.zero_le, Nat.le_refl, upD_same, putI, Nat.reduceLT, Nat.lt_irrefl, Nat.zero_lt_one, Nat.not_lt_zero]
    exact hk _ (.refl _)
  · refine encEq (k := 1) (Enc.list (k := 0) Enc.bl) (a := kindsOf i) (b := fiveW.map fun x => decide (w = x)) (.lst (e5 _ _ g34) (pyAs_map (fun _ => .bl) _)) (.lst g5 ?_) ?_
    · have z : fiveW.map (fun x => D.bl (decide (w = x))) = (fiveW.map fun x => decide (w = x)).map D.bl := by rw [List.map_map]; rfl
      rw [z]
      exact pyAs_map (fun _ => .bl) _
    · rw [kinds_words hi]
      exact q _ (e4.trans e5)
end Lt


end
section
set_option Elab.async false
set_option linter.all false
set_option maxRecDepth 100000
set_option maxHeartbeats 2000000
/-! Kw: there is one way only. -/
namespace Lt
open PySem PySem.Spec L2
theorem Way.inv {rs : List Rd} {ts : List Int} {a h : Int} {ps vs : List Int} (w : Way rs ts a ps h vs) : (ps = [] ∧ h = a) ∨ ∃ (ps0 : List Int) (h0 : Int) (vs0 : List Int) (j : Nat) (r : Rd), Way rs ts a ps0 h0 vs0 ∧ ps = ps0 ++ [(j : Int)] ∧ rs[j]? = some r ∧ h ∉ vs0 ∧ (j : Int) ∈ ts ∧ ((r.o = h0 ∧ r.t = h) ∨ (r.t = h0 ∧ r.o = h)) := by
  cases w with
  | nil => exact .inl ⟨rfl, rfl⟩
  | fwd w h1 h2 h3 h4 => exact .inr ⟨_, _, _, _, _, w, rfl, h2, h4, h1, .inl ⟨h3, rfl⟩⟩
  | bwd w h1 h2 h3 h4 => exact .inr ⟨_, _, _, _, _, w, rfl, h2, h4, h1, .inr ⟨h3, rfl⟩⟩
theorem Way.uniq {rs : List Rd} {ts : List Int} (hc : Cd rs) (f : Forest (pick rs ts)) {a : Int} : ∀ (m : Nat) {ps qs vs us : List Int} {h : Int}, ps.length ≤ m → Way rs ts a ps h vs → Way rs ts a qs h us → ps = qs := by
  intro m
  induction m with
  | zero =>
    intro ps qs vs us h hm w u
    have : ps = [] := List.length_eq_zero_iff.mp (by omega)
    subst this
    rcases w.inv with ⟨_, e⟩ | ⟨ps0, h0, vs0, j, r, _, e, _⟩
    · rcases u.inv with ⟨e2, _⟩ | ⟨qs0, k0, us0, k, q, u0, e2, _, h4, _⟩
      · exact e2.symm
      · exact (h4 (e ▸ u0.ends.1)).elim
    · simp at e
  | succ m ih =>
    intro ps qs vs us h hm w u
    rcases w.inv with ⟨e1, e⟩ | ⟨ps0, h0, vs0, j, r, w0, e1, hj, hn, hjt, he⟩
    · rcases u.inv with ⟨e2, _⟩ | ⟨qs0, k0, us0, k, q, u0, e2, _, h4, _⟩
      · rw [e1, e2]
      · exact (h4 (e ▸ u0.ends.1)).elim
    · rcases u.inv with ⟨e2, e⟩ | ⟨qs0, k0, us0, k, q, u0, e2, hk, kn, hkt, ke⟩
      · exact (hn (e ▸ w0.ends.1)).elim
      · have hkp : (k : Int) ∈ ps := (w.sep hc f k q hk).mpr ((u.sep hc f k q hk).mp (by rw [e2]; simp))
        have ekj : (k : Int) = j := by
          rw [e1] at hkp
          rcases List.mem_append.mp hkp with z | z
          · obtain ⟨_, i, s, e3, hs, s1, s2⟩ := w0.ends.2.2.1 _ z
            have : i = k := by omega
            subst this
            rw [hk] at hs
            have := Option.some.inj hs
            subst this
            rcases ke with ⟨_, z2⟩ | ⟨_, z2⟩
            · exact (hn (z2 ▸ s2)).elim
            · exact (hn (z2 ▸ s1)).elim
          · exact List.mem_singleton.mp z
        have : k = j := by omega
        subst this
        rw [hk] at hj
        have := Option.some.inj hj
        subst this
        have eh : h0 = k0 := by
          have a1 := w0.ends.2.1
          have a2 := u0.ends.2.1
          rcases he with ⟨x1, x2⟩ | ⟨x1, x2⟩ <;> rcases ke with ⟨y1, y2⟩ | ⟨y1, y2⟩
          · omega
          · exact (hn (by rw [show h = h0 by omega]; exact a1)).elim
          · exact (hn (by rw [show h = h0 by omega]; exact a1)).elim
          · omega
        subst eh
        rw [e1, e2, ih (by rw [e1, List.length_append] at hm; simp at hm; omega) w0 u0]
end Lt

end
section
set_option Elab.async false
set_option linter.all false
set_option maxRecDepth 100000
set_option maxHeartbeats 4000000
/-! K02: law k02: _law_refused, the law. -/
namespace Lt
open PySem PySem.Spec L2
--@ul Dl27
def t__law_refused (tw : WD → TED) (c : CA) (Ed : XD) : TSD :=
  (sSeq (sTry tw sNx [(c.BadWeb, true), (c.NoHand, true), (c.NoRoad, true), (c.NoLetter, true), (c.BadText, true)] 1 (fun a C d => (sRet (tCal (sph__law_is c a C d) noW (tC (tV 1) (tC (tK (.str "road")) tN))))) (WdE Ed))
    (sRet (tK (.bl false))))
theorem rd_refused {tw : WD → TED} {c : CA} {Ed : XD} {Q : QD} {x : D} {H : HD} (hw : ∀ (wd : WD) (R : QD), (∀ H1, Ext H H1 → wd c.NoRoad [] [some x, none] H1) → tw wd [some x, none] H R) (k : ∀ H', Ext H H' → Q (.bl true) H') :
    t__law_refused tw c Ed { nx := fun _ H' => Q .non H', rt := Q } (startD ["_law_work", "_law_e"] [x]) H := by
  unfold t__law_refused
  simp only [startD, List.map, List.length_cons, List.length_nil, Nat.reduceAdd, Nat.reduceSub, List.replicate, List.cons_append, List.nil_append, ↓u_sSeq, u_sTry]
  refine hw _ _ fun H1 e1 => ⟨true, by simp, fun _ a d Hd1 ha xh => ?_, fun z => nomatch z⟩
  simp only [↓u_sRet, ↓u_tCal, ↓u_tC, ↓u_tV, List.set, List.getElem?_cons_succ, List.getElem?_cons_zero, ↓u_slot, ↓u_tN, ↓u_tK]
  have go : ∀ Hx, Ext H1 Hx → (d = none ∨ ∃ dd fs, d = some dd ∧ Hx dd = some (.xd fs)) → sph__law_is c a c.NoRoad d [.ref a, .str (Str.ofString "road")] Hx Q noX := fun Hx ex hd => by
    refine ⟨_, 2, rfl, by simp [five], hd, fun H6 e6 => ?_⟩
    rw [show decide (Str.ofString "road" = wordOf 2) = true from by decide]
    exact k _ ((e1.trans ex).trans e6)
  rcases xh with ⟨_, z1, z2⟩ | ⟨d0, z1, hdd, z2⟩
  · rw [z2]
    exact go H1 (.refl _) (.inl z1)
  · rw [z2]
    exact go _ (.new hdd) (.inr ⟨d0, _, z1, upD_same⟩)
def sp_law (P : Addr) (q : Str) (c : CA) : SpD := fun ds H Q E => ∃ (ns : List Int), ds = [.rl (ns.map D.int)] ∧ H P = some (.tab q) ∧ ∀ H', Q (.bl true) H'
def tb_law_0 (c : CA) (Ed : XD) : TED :=
  (tCal (sp_side c) (WdE Ed) (tC (tV 4) (tC (tV 15) tN)))
def tb_law_1 (c : CA) (Ed : XD) : TED :=
  (tCal (sp_instead c) (WdE Ed) (tC (tV 4) (tC (tV 15) tN)))
def lamL_law (lm : LmP) (c : CA) : LamL := [(lm.l 0, 17, tb_law_0 c), (lm.l 1, 9, tb_law_1 c)]
def t_law_6 (lm : LmP) (c : CA) (Ed : XD) : TSD :=
  (sSeq (sAsg (tO rIx (tLs (tC (tCb rLen (tC (tV 3) tN)) (tC (tNeg (tK (.int 1))) (tC (tO rAdd (tCb rLen (tC (tV 3) tN)) (tCal (sp__law_next c) (WdE Ed) (tC (tV 1) (tC (tO rPow (tK (.int 10)) (tK (.int 6))) tN)))) tN)))) (tCal (sp__law_next c) (WdE Ed) (tC (tV 1) (tC (tK (.int 3)) tN)))) (.nm 15))
    (sRet (tAnV (tRef ["_law_work", "_law_e"] (["_law_work"] : List Str).length (fun ρm Ed => t__law_refused (tLamO (lamL_law lm c) lm.q lm.fr 0 ρm) c Ed) (WdE Ed) (tC (tLam lm.P lm.q lm.fr (lm.l 0)) tN)) (tRef ["_law_work", "_law_e"] (["_law_work"] : List Str).length (fun ρm Ed => t__law_refused (tLamO (lamL_law lm c) lm.q lm.fr 0 ρm) c Ed) (WdE Ed) (tC (tLam lm.P lm.q lm.fr (lm.l 1)) tN)))))
def t_law_5 (lm : LmP) (c : CA) (Ed : XD) : TSD :=
  (sSeq (sFor (iR1 (tC (tCb rLen (tC (tV 3) tN)) tN)) (.nm 8)
    (sSeq (sAsg (tO rIx (tV 3) (tV 8)) (.tp [(.nm 9), (.nm 10), (.nm 11)]))
    (sSeq (sIf (tTs (tO (rInG id) (tV 8) (tV 5))) (sSeq (sAsg (tLcG (iLs (tV 5)) (.nm 16) (tTs (tO rNe (tV 16) (tV 8))) (tV 16) [16]) (.nm 12))
    (sSeq (sAsg (tCal (sp_side c) (WdE Ed) (tC (tV 4) (tC (tV 8) tN))) (.nm 13))
    (sIf (tOr (tNt (tTs (tCal (sp__law_like c) (WdE Ed) (tC (tV 13) (tC (tCal (sp__law_reach c) (WdE Ed) (tC (tV 3) (tC (tV 12) (tC (tV 9) tN)))) tN))))) (tTs (tO rNotN (tCal (sp_instead c) (WdE Ed) (tC (tV 4) (tC (tV 8) tN))) (tK .non)))) (sRet (tK (.bl false))) sNx))) (sSeq (sAsg (tCal (sp_instead c) (WdE Ed) (tC (tV 4) (tC (tV 8) tN))) (.nm 13))
    (sSeq (sIf (tOr (tNt (tTs (tCb rIsi (tC (tV 13) (tC (tK (.ty "list")) tN))))) (tTs (tO rNe (tLcG (iLs (tV 13)) (.nm 16) (tTs (tO (rInG not) (tV 16) (tV 5))) (tV 16) [16]) (tLs tN)))) (sRet (tK (.bl false))) sNx)
    (sIf (tOr (tNt (tTs (tCal (sp__law_leads c) (WdE Ed) (tC (tV 3) (tC (tV 13) (tC (tV 9) (tC (tV 10) tN))))))) (tTs (tO rNotN (tCal (sp_side c) (WdE Ed) (tC (tV 4) (tC (tV 8) tN))) (tK .non)))) (sRet (tK (.bl false))) sNx))))
    (sSeq (sAsg (tCb rList (tC (tV 13) tN)) (.nm 14))
    (sSeq (sDrop (tBm rClr (tV 13) tN))
    (sIf (tTs (tO (rInG not) (tV 14) (tLs (tC (tCal (sp_side c) (WdE Ed) (tC (tV 4) (tC (tV 8) tN))) (tC (tCal (sp_instead c) (WdE Ed) (tC (tV 4) (tC (tV 8) tN))) tN))))) (sRet (tK (.bl false))) sNx))))))
    (t_law_6 lm c Ed))
def t_law (lm : LmP) (c : CA) (Ed : XD) : TSD :=
  (sSeq (sAsg (tCal (sp__law_dice c) (WdE Ed) (tC (tV 0) tN)) (.nm 1))
    (sSeq (sAsg (tCal (sp__law_web c) (WdE Ed) (tC (tV 1) (tC (tK (.int 8)) tN))) (.tp [(.nm 2), (.nm 3)]))
    (sSeq (sAsg (tMak c.Web (sp_Web_init c) (WdE Ed) (tC (tV 2) (tC (tCb rList (tC (tV 3) tN)) tN))) (.nm 4))
    (sSeq (sAsg (tCal (sp__law_tree c) (WdE Ed) (tC (tV 3) tN)) (.nm 5))
    (sSeq (sFor (iR1 (tC (tK (.int 2)) tN)) (.nm 6)
    (sSeq (sAsg (tCal (sp_tree c) (WdE Ed) (tC (tV 4) tN)) (.nm 7))
    (sSeq (sIf (tNt (tTs (tCal (sp__law_like c) (WdE Ed) (tC (tV 7) (tC (tV 5) tN))))) (sRet (tK (.bl false))) sNx)
    (sDrop (tBm rApp (tV 7) (tC (tNeg (tK (.int 1))) tN))))))
    (t_law_5 lm c Ed))))))
theorem ref_lam {lm : LmP} {c : CA} {wd : WD} {ρ : StD} {H : HD} {Q : QD} {i j : Nat} {tb : XD → TED} (hP : H lm.P = some (.tab lm.q)) (hmem : (lm.l i, j, tb) ∈ lamL_law lm c)
    (hb : ∀ (Ed : XD) (R : QD) (H' : HD), Ext H H' → (∀ H1, Ext H' H1 → Ed c.NoRoad [] H1) → tb Ed (ρ.set j none) H' R) (k : ∀ H', Ext H H' → Q (.bl true) H') :
    tRef [Str.ofString "_law_work", Str.ofString "_law_e"] 1 (fun ρm Ed => t__law_refused (tLamO (lamL_law lm c) lm.q lm.fr 0 ρm) c Ed) wd (tC (tLam lm.P lm.q lm.fr (lm.l i)) tN) ρ H Q := by
  unfold tRef
  simp only [↓u_tC, ↓u_tN, u_tLam]
  refine ⟨hP, fun f hf => ⟨rfl, rd_refused (fun wd R h => ?_) fun H' e => k H' ((Ext.new hf).trans e)⟩⟩
  exact ⟨f, _, rfl, hmem, upD_same, hb _ _ _ (.new hf) h⟩
theorem k02_6 {lm : LmP} {c : CA} {Ed : XD} {Qd : QD} {H : HD} {pd wa l : Addr} {n : Int} {rs : List Rd} {z0 z2 z5 z6 z7 z8 z9 z10 z11 z12 z13 z14 z15 z16 : Option D} (k : ∀ H', Qd (D.bl true) H') (ok : WebOk n rs) (hw : IsWeb c H wa n rs) (hl : H l = some (.lst (rs.map roD))) (d : IsDice H pd) (hP : H lm.P = some (.tab lm.q)) :
    t_law_6 lm c Ed { nx := fun x H' => Qd D.non H', rt := Qd } [z0, some (D.ref pd), z2, some (D.ref l), some (D.ref wa), z5, z6, z7, z8, z9, z10, z11, z12, z13, z14, z15, z16] H := by
  unfold t_law_6
  have n1 := ok.n1; have n8 := ok.n8; have hfew := ok.few
  simp only [↓u_asB, ↓u_asI, ↓u_asR, ↓u_slot, ↓u_gt1, ↓u_goA_nm, ↓u_goA_tp, ↓u_goAs_nil, ↓u_goAs_cons, ↓u_sSeq, ↓u_sNx, ↓u_sDrop, ↓u_sRet, ↓u_sRetN, ↓u_sIf, ↓u_sAsg, ↓u_sSub, ↓u_sbC_lst, ↓u_sbC_dK, ↓u_sbC_dT, ↓u_sFl, ↓u_sFor, ↓u_tV, ↓u_tK, ↓u_tO, ↓u_tNeg, ↓u_tPn, ↓u_tPs, ↓u_tSlD, ↓u_rSl_tup, ↓u_rSl_rl, ↓u_rSl_ref, ↓u_tFl, ↓u_tN, ↓u_tC, ↓u_tTp, ↓u_tLs, ↓u_tDK, ↓u_tDT, ↓u_tTs, ↓u_tChn, ↓u_tChn3, ↓u_tAn, ↓u_tOr, ↓u_tNt, ↓u_tIfE, ↓u_tAnV, ↓u_tOrV, ↓u_tNtV, ↓u_rAdd_int, ↓u_rAdd_str, ↓u_rAdd_tup, ↓u_rAdd_ref, ↓u_rSub, ↓u_rMod, ↓u_rDiv, ↓u_rPow, ↓u_rLt, ↓u_rLe, ↓u_rGt, ↓u_rGe, ↓u_rMul_int, ↓u_rMul_ref, ↓u_rEq_int, ↓u_rEq_str, ↓u_rEq_bl, ↓u_rEq_nn, ↓u_rEq_in, ↓u_rEq_ni, ↓u_rNe_int, ↓u_rNe_str, ↓u_rNe_bl, ↓u_rNe_nn, ↓u_rNe_in, ↓u_rNe_ni, ↓u_rEq_t2, ↓u_rIsN, ↓u_rIsN_bl, ↓u_rNotN, ↓u_rNotN_bl, ↓u_isNon_non, ↓u_isNon_int, ↓u_isNon_ref, ↓u_isNon_tup, ↓u_isNon_bl, ↓u_isNon_str, ↓u_DG, ↓u_dgC_K, ↓u_dgC_rK, ↓u_dgC_T, ↓u_dgC_rT, ↓u_rInG_ref, ↓u_inC_K, ↓u_inC_rK, ↓u_inC_T, ↓u_inC_ints, ↓u_inC_prs, ↓u_rInG_tup, ↓u_rIx_ref, ↓u_ixC_lst, ↓u_ixC_K, ↓u_ixC_rK, ↓u_ixC_T, ↓u_ixC_rT, ↓u_rIx_tup, ↓u_rIx_rl, ↓u_at0, ↓u_at1, ↓u_at2, ↓u_at3, ↓u_iLs, ↓u_lsI_ref, ↓u_lsI_rl, ↓u_iTp, ↓u_tpI, ↓u_iR1, ↓u_r1I, ↓u_iR2, ↓u_r2I, ↓u_iEn, ↓u_enI, ↓u_iKy, ↓u_kyC_K, ↓u_kyC_T, ↓u_tYs, ↓u_tLcG, ↓u_wipe_nil, ↓u_wipe_cons, ↓u_tCal, ↓u_tMet, ↓u_tMak, ↓u_WdE, ↓u_noW, ↓u_tCb, ↓u_rLen_tup, ↓u_rLen_rl, ↓u_rLen_str, ↓u_rLen_ref, ↓u_lnC_lst, ↓u_lnC_dK, ↓u_rList_tup, ↓u_rList_rl, ↓u_rList_ref, ↓u_rTuple_tup, ↓u_rTuple_ref, ↓u_rInt_int, ↓u_rInt_bl, ↓u_rStr, ↓u_rMin2, ↓u_rMax2, ↓u_rSum, ↓u_tLr1, ↓u_tLr2, ↓u_tBm, ↓u_rApp, ↓u_rPop0, ↓u_rPopI, ↓u_rIns, ↓u_rClr, ↓u_tGet2, ↓u_isD_K, ↓u_isD_T, ↓u_tDisp1, ↓u_ixN41, ↓u_ixN42, ↓u_ixN43, ↓u_isS, ↓u_tSplit, ↓u_rSplit, ↓u_tJn, ↓u_rIntT_str, ↓u_rIntT_int, ↓u_iSr, ↓u_srI, ↓u_rInG_str, ↓u_rIx_str, ↓u_isi_non, ↓u_isi_bl, ↓u_isi_int, ↓u_isi_str, ↓u_isi_tup, ↓u_isi_ref, ↓u_isiC_lst, ↓u_isiC_dK, ↓u_isiC_dT, ↓u_kit_NoneType_bool, ↓u_kit_NoneType_int, ↓u_kit_NoneType_str, ↓u_kit_NoneType_tuple, ↓u_kit_NoneType_list, ↓u_kit_NoneType_dict, ↓u_kit_bool_bool, ↓u_kit_bool_int, ↓u_kit_bool_str, ↓u_kit_bool_tuple, ↓u_kit_bool_list, ↓u_kit_bool_dict, ↓u_kit_int_bool, ↓u_kit_int_int, ↓u_kit_int_str, ↓u_kit_int_tuple, ↓u_kit_int_list, ↓u_kit_int_dict, ↓u_kit_str_bool, ↓u_kit_str_int, ↓u_kit_str_str, ↓u_kit_str_tuple, ↓u_kit_str_list, ↓u_kit_str_dict, ↓u_kit_tuple_bool, ↓u_kit_tuple_int, ↓u_kit_tuple_str, ↓u_kit_tuple_tuple, ↓u_kit_tuple_list, ↓u_kit_tuple_dict, ↓u_kit_list_bool, ↓u_kit_list_int, ↓u_kit_list_str, ↓u_kit_list_tuple, ↓u_kit_list_list, ↓u_kit_list_dict, ↓u_kit_dict_bool, ↓u_kit_dict_int, ↓u_kit_dict_str, ↓u_kit_dict_tuple, ↓u_kit_dict_list, ↓u_kit_dict_dict, ↓u_sTry, ↓u_sRaiI, ↓u_tXfD, startD, List.set, List.map, List.replicate, List.length_cons, List.length_nil, Nat.reduceAdd, Nat.reduceSub, List.cons_append, List.nil_append, List.append_nil, List.getElem?_cons_zero, List.getElem?_cons_succ, Option.some.injEq, DO.lst.injEq, DO.ins.injEq, DO.dK.injEq, DO.dT.injEq, DO.rdK.injEq, DO.rdT.injEq, exists_eq_left', exists_eq_left, exists_eq', Bool.false_eq_true, reduceCtorEq, Nat.reduceLeDiff, Bool.true_eq_false, if_true, if_false, ite_true, ite_false, Bool.not_true, Bool.not_false, cut2, true_and, and_true, false_and, and_false, decide_eq_true_eq, decide_true, roD_def, Int.reduceToNat, id_eq, forall_const, Nat.zero_le, Nat.le_refl, upD_same, putI, Nat.reduceLT, Nat.lt_irrefl, Nat.zero_lt_one, Nat.not_lt_zero, hl]
  refine ⟨by unfold CPow; omega, ?_⟩
  refine ⟨pd, _, rfl, d, by omega, by omega, fun v H2 v0 v1 x2 d2 => ?_⟩
  simp only [↓u_rAdd_int]
  intro p hp
  have npd := d2.ne hp
  have d3 := d2.up (c := .lst [.int (rs.map roD).length, .int (-1), .int ((rs.map roD).length + v)]) npd
  refine ⟨pd, 3, rfl, d3, by omega, by omega, fun u H3 u0 u1 x3 d4 => ?_⟩
  have h3p : H3 p = some (.lst [.int (rs.map roD).length, .int (-1), .int ((rs.map roD).length + v)]) := x3 _ _ npd upD_same
  have xE : ExtE pd H H3 := (x2.trans (Ext.new hp).but).trans x3
  have w3 : IsWeb c H3 wa n rs := by
    obtain ⟨lw, g1, g2⟩ := hw
    obtain ⟨_, _, _, _, z2, _⟩ := d
    refine ⟨lw, xE _ _ (fun z => ?_) g1, xE _ _ (fun z => ?_) g2⟩
    · rw [z, z2] at g1; cases g1
    · rw [z, z2] at g2
      cases rs with
      | nil => cases g2
      | cons r rs =>
        have := (List.cons.inj (DO.lst.inj (Option.some.inj g2))).1
        unfold roD at this
        cases this
  have nP : lm.P ≠ pd := fun z => by
    obtain ⟨_, _, _, _, z2, _⟩ := d
    rw [z, z2] at hP
    cases hP
  have hP3 := xE _ _ nP hP
  show ∃ c_1, H3 p = some c_1 ∧ ixC (.int u) H3 _ c_1
  obtain ⟨o, ho, hb⟩ : ∃ o : Int, L2.atI [D.int (rs.map roD).length, .int (-1), .int ((rs.map roD).length + v)] u = some (.int o) ∧ ¬ (0 ≤ o ∧ o < (rs.length : Nat)) := by
    rw [List.length_map]
    have : u = 0 ∨ u = 1 ∨ u = 2 := by omega
    rcases this with rfl | rfl | rfl
    · exact ⟨_, u_at0, by omega⟩
    · exact ⟨_, u_at1, by omega⟩
    · exact ⟨_, u_at2, by omega⟩
  refine ⟨_, h3p, ?_⟩
  rw [u_ixC_lst]
  refine ⟨_, ho, ?_⟩
  refine ref_lam hP3 (List.mem_cons_self ..) (fun Ed R H' e h => ?_) fun H' e => ?_
  · unfold tb_law_0
    simp only [↓u_tCal, ↓u_tC, ↓u_tV, List.set, List.getElem?_cons_succ, List.getElem?_cons_zero, ↓u_slot, ↓u_tN, ↓u_WdE]
    refine ⟨wa, n, rs, o, rfl, w3.ext e, ok, fun _ H1 e1 => h _ e1, fun j r hj hr => ?_⟩
    have := (List.getElem?_eq_some_iff.mp hr).1
    omega
  · simp only [↓u_asB, if_true]
    refine ref_lam (e _ _ hP3) (.tail _ (List.mem_cons_self ..)) (fun Ed R H' e' h => ?_) fun H' e' => k _
    unfold tb_law_1
    simp only [↓u_tCal, ↓u_tC, ↓u_tV, List.set, List.getElem?_cons_succ, List.getElem?_cons_zero, ↓u_slot, ↓u_tN, ↓u_WdE]
    refine ⟨wa, n, rs, o, rfl, w3.ext (e.trans e'), ok, fun _ H1 e1 => h _ e1, fun j r hj hr => ?_⟩
    have := (List.getElem?_eq_some_iff.mp hr).1
    omega
theorem sm_ints {H : HD} {p q : Addr} {xs : List Int} (h1 : H p = some (.lst (xs.map D.int))) (h2 : H q = some (.lst (xs.map D.int))) (hl : xs.length ≤ 1000) : Sm H 8 (.ref p) (.ref q) :=
  Sm.lst (n := 7) h1 h2 rfl (by rw [List.length_map]; exact hl) fun i u v hu hv => by
    rw [hu] at hv
    cases hv
    obtain ⟨x, _, rfl⟩ := getMap hu
    exact .int
def oLst (o : Option (List Int)) : PyData := match o with
  | none => .none
  | some xs => .list (xs.map PyData.int)
theorem encOL : Enc (Option (List Int)) oLst 1 := ⟨fun x y => by
    cases x <;> cases y
    · rfl
    · rfl
    · rfl
    · rename_i a b
      have := (Enc.list (Enc.int (k := 0))).e a b
      simpa [oLst] using this, fun x => by
    cases x
    · rfl
    · rename_i a; exact (Enc.list (Enc.int (k := 0))).l a, fun x => by
    cases x
    · show (0 : Nat) ≤ 1; omega
    · rename_i a; exact (Enc.list (Enc.int (k := 0))).d a⟩
theorem kept_in {H : HD} {Q : QD} {x y z : D} {p : Addr} {a b d : Option (List Int)} (hp : H p = some (.lst [y, z])) (hx : PyA H x (oLst a)) (hy : PyA H y (oLst b)) (hz : PyA H z (oLst d)) (h : a = b ∨ a = d) (q : Q (.bl false) H) : inC not x H p Q (.lst [y, z]) := by
  have r : rInG not x (.ref p) H Q := encIn encOL (a := a) (as := [b, d]) hx hp (.cons hy (.cons hz .nil)) (by
    have hd : ∀ inst : Decidable (a ∈ [b, d]), @decide _ inst = true := fun inst => @decide_eq_true _ inst (by simpa using h)
    rw [hd]
    exact q)
  rw [u_rInG_ref] at r
  obtain ⟨c, hc, r⟩ := r
  rw [hp] at hc
  cases hc
  exact r
/-- one's own going, told twice alike -/
theorem side_same {rs : List Rd} {ts : List Int} {b : Int} {fs gs : List Int} (h1 : fs.Nodup) (h2 : fs.Pairwise (· ≤ ·)) (h3 : ∀ x, x ∈ fs ↔ Rch (pick rs ts) b x) (g1 : gs.Nodup) (g2 : gs.Pairwise (· ≤ ·)) (g3 : ∀ x, x ∈ gs ↔ Rch (pick rs ts) b x) : fs = gs :=
  sorted_ext h2 g2 h1 g1 fun x => (h3 x).trans (g3 x).symm
theorem k02_5 {lm : LmP} {c : CA} {Ed : XD} {Qd : QD} {H : HD} {pd wa l p5 : Addr} {n : Int} {rs : List Rd} {z0 z6 z7 : Option D} (k : ∀ H', Qd (D.bl true) H') (ok : WebOk n rs) (hw : IsWeb c H wa n rs) (hl : H l = some (.lst (rs.map roD))) (h5 : H p5 = some (.lst ((kru rs).map D.int))) (d : IsDice H pd) (hP : H lm.P = some (.tab lm.q)) :
    t_law_5 lm c Ed { nx := fun x H' => Qd D.non H', rt := Qd } [z0, some (D.ref pd), some (D.int n), some (D.ref l), some (D.ref wa), some (.ref p5), z6, z7, none, none, none, none, none, none, none, none, none] H := by
  unfold t_law_5
  have n1 := ok.n1; have n8 := ok.n8; have hfew := ok.few
  simp only [↓u_sSeq, ↓u_sFor, ↓u_iR1, ↓u_tC, ↓u_tCb, ↓u_tV, List.getElem?_cons_succ, List.getElem?_cons_zero, ↓u_slot, ↓u_tN, ↓u_rLen_ref, hl, Option.some.injEq, exists_eq_left', ↓u_lnC_lst, List.length_map, ↓u_r1I, Int.toNat_natCast]
  refine ⟨⟨by omega, by omega⟩, ?_⟩
  refine loop_inv' (I := ⟨rngD 0 rs.length, fun _ => True⟩) (fun i ρ H' => ∃ (z7 z8 z9 z10 z11 z12 z13 z14 : Option D), ρ = [z0, some (D.ref pd), some (D.int n), some (D.ref l), some (D.ref wa), some (.ref p5), z6, z7, z8, z9, z10, z11, z12, z13, z14, none, none] ∧ Ext H H') ?_ ?_ ?_
  · exact ⟨_, _, _, _, _, _, _, _, rfl, .refl _⟩
  · rintro i dd ρ H1 hd ⟨z7, z8, z9, z10, z11, z12, z13, z14, rfl, e⟩
    refine ⟨trivial, fun N B hN _ => ?_⟩
    obtain ⟨hi, rfl⟩ := nth_rng hd
    rw [Int.zero_add]
    obtain ⟨r, hr⟩ : ∃ r, rs[i]? = some r := ⟨_, List.getElem?_eq_getElem hi⟩
    have w1 := hw.ext e
    simp only [↓u_asB, ↓u_asI, ↓u_asR, ↓u_slot, ↓u_gt1, ↓u_goA_nm, ↓u_goA_tp, ↓u_goAs_nil, ↓u_goAs_cons, ↓u_sSeq, ↓u_sNx, ↓u_sDrop, ↓u_sRet, ↓u_sRetN, ↓u_sIf, ↓u_sAsg, ↓u_sSub, ↓u_sbC_lst, ↓u_sbC_dK, ↓u_sbC_dT, ↓u_sFl, ↓u_sFor, ↓u_tV, ↓u_tK, ↓u_tO, ↓u_tNeg, ↓u_tPn, ↓u_tPs, ↓u_tSlD, ↓u_rSl_tup, ↓u_rSl_rl, ↓u_rSl_ref, ↓u_tFl, ↓u_tN, ↓u_tC, ↓u_tTp, ↓u_tLs, ↓u_tDK, ↓u_tDT, ↓u_tTs, ↓u_tChn, ↓u_tChn3, ↓u_tAn, ↓u_tOr, ↓u_tNt, ↓u_tIfE, ↓u_tAnV, ↓u_tOrV, ↓u_tNtV, ↓u_rAdd_int, ↓u_rAdd_str, ↓u_rAdd_tup, ↓u_rAdd_ref, ↓u_rSub, ↓u_rMod, ↓u_rDiv, ↓u_rPow, ↓u_rLt, ↓u_rLe, ↓u_rGt, ↓u_rGe, ↓u_rMul_int, ↓u_rMul_ref, ↓u_rEq_int, ↓u_rEq_str, ↓u_rEq_bl, ↓u_rEq_nn, ↓u_rEq_in, ↓u_rEq_ni, ↓u_rNe_int, ↓u_rNe_str, ↓u_rNe_bl, ↓u_rNe_nn, ↓u_rNe_in, ↓u_rNe_ni, ↓u_rEq_t2, ↓u_rIsN, ↓u_rIsN_bl, ↓u_rNotN, ↓u_rNotN_bl, ↓u_isNon_non, ↓u_isNon_int, ↓u_isNon_ref, ↓u_isNon_tup, ↓u_isNon_bl, ↓u_isNon_str, ↓u_DG, ↓u_dgC_K, ↓u_dgC_rK, ↓u_dgC_T, ↓u_dgC_rT, ↓u_rInG_ref, ↓u_inC_K, ↓u_inC_rK, ↓u_inC_T, ↓u_inC_ints, ↓u_inC_prs, ↓u_rInG_tup, ↓u_rIx_ref, ↓u_ixC_lst, ↓u_ixC_K, ↓u_ixC_rK, ↓u_ixC_T, ↓u_ixC_rT, ↓u_rIx_tup, ↓u_rIx_rl, ↓u_at0, ↓u_at1, ↓u_at2, ↓u_at3, ↓u_iLs, ↓u_lsI_ref, ↓u_lsI_rl, ↓u_iTp, ↓u_tpI, ↓u_iR1, ↓u_r1I, ↓u_iR2, ↓u_r2I, ↓u_iEn, ↓u_enI, ↓u_iKy, ↓u_kyC_K, ↓u_kyC_T, ↓u_tYs, ↓u_tLcG, ↓u_wipe_nil, ↓u_wipe_cons, ↓u_tCal, ↓u_tMet, ↓u_tMak, ↓u_WdE, ↓u_noW, ↓u_tCb, ↓u_rLen_tup, ↓u_rLen_rl, ↓u_rLen_str, ↓u_rLen_ref, ↓u_lnC_lst, ↓u_lnC_dK, ↓u_rList_tup, ↓u_rList_rl, ↓u_rList_ref, ↓u_rTuple_tup, ↓u_rTuple_ref, ↓u_rInt_int, ↓u_rInt_bl, ↓u_rStr, ↓u_rMin2, ↓u_rMax2, ↓u_rSum, ↓u_tLr1, ↓u_tLr2, ↓u_tBm, ↓u_rApp, ↓u_rPop0, ↓u_rPopI, ↓u_rIns, ↓u_rClr, ↓u_tGet2, ↓u_isD_K, ↓u_isD_T, ↓u_tDisp1, ↓u_ixN41, ↓u_ixN42, ↓u_ixN43, ↓u_isS, ↓u_tSplit, ↓u_rSplit, ↓u_tJn, ↓u_rIntT_str, ↓u_rIntT_int, ↓u_iSr, ↓u_srI, ↓u_rInG_str, ↓u_rIx_str, ↓u_isi_non, ↓u_isi_bl, ↓u_isi_int, ↓u_isi_str, ↓u_isi_tup, ↓u_isi_ref, ↓u_isiC_lst, ↓u_isiC_dK, ↓u_isiC_dT, ↓u_kit_NoneType_bool, ↓u_kit_NoneType_int, ↓u_kit_NoneType_str, ↓u_kit_NoneType_tuple, ↓u_kit_NoneType_list, ↓u_kit_NoneType_dict, ↓u_kit_bool_bool, ↓u_kit_bool_int, ↓u_kit_bool_str, ↓u_kit_bool_tuple, ↓u_kit_bool_list, ↓u_kit_bool_dict, ↓u_kit_int_bool, ↓u_kit_int_int, ↓u_kit_int_str, ↓u_kit_int_tuple, ↓u_kit_int_list, ↓u_kit_int_dict, ↓u_kit_str_bool, ↓u_kit_str_int, ↓u_kit_str_str, ↓u_kit_str_tuple, ↓u_kit_str_list, ↓u_kit_str_dict, ↓u_kit_tuple_bool, ↓u_kit_tuple_int, ↓u_kit_tuple_str, ↓u_kit_tuple_tuple, ↓u_kit_tuple_list, ↓u_kit_tuple_dict, ↓u_kit_list_bool, ↓u_kit_list_int, ↓u_kit_list_str, ↓u_kit_list_tuple, ↓u_kit_list_list, ↓u_kit_list_dict, ↓u_kit_dict_bool, ↓u_kit_dict_int, ↓u_kit_dict_str, ↓u_kit_dict_tuple, ↓u_kit_dict_list, ↓u_kit_dict_dict, ↓u_sTry, ↓u_sRaiI, ↓u_tXfD, startD, List.set, List.map, List.replicate, List.length_cons, List.length_nil, Nat.reduceAdd, Nat.reduceSub, List.cons_append, List.nil_append, List.append_nil, List.getElem?_cons_zero, List.getElem?_cons_succ, Option.some.injEq, DO.lst.injEq, DO.ins.injEq, DO.dK.injEq, DO.dT.injEq, DO.rdK.injEq, DO.rdT.injEq, exists_eq_left', exists_eq_left, exists_eq', Bool.false_eq_true, reduceCtorEq, Nat.reduceLeDiff, Bool.true_eq_false, if_true, if_false, ite_true, ite_false, Bool.not_true, Bool.not_false, cut2, true_and, and_true, false_and, and_false, decide_eq_true_eq, decide_true, roD_def, Int.reduceToNat, id_eq, forall_const, Nat.zero_le, Nat.le_refl, upD_same, putI, Nat.reduceLT, Nat.lt_irrefl, Nat.zero_lt_one, Nat.not_lt_zero, e _ _ hl, e _ _ h5, atJ hr]
    have hbad : ∀ {H' : HD}, ¬ (0 ≤ (i : Int) ∧ (i : Int) < (rs.length : Nat)) → ∀ (H6 : HD), Ext H' H6 → (fun C fs Hx => Ed C fs Hx) c.NoRoad [] H6 := fun h => (h ⟨by omega, by omega⟩).elim
    by_cases c1 : (i : Int) ∈ kru rs
    · rw [if_pos c1]
      intro p12 hp12
      refine lc_fm D.int D.int (fun j => !decide (j = (i : Int))) hp12 (by have := kru_len rs; omega) (fun H' e' => e' _ _ (e _ _ h5)) (fun j x H' K K' hx e' h3 h4 => ?_) (fun H3 x3 f3 => ?_)
      · simp only [↓u_goA_nm, ↓u_tTs, ↓u_tO, ↓u_tV, List.set, List.getElem?_cons_succ, List.getElem?_cons_zero, ↓u_slot, ↓u_rNe_int, ↓u_asB]
        by_cases c2 : x = (i : Int)
        · rw [if_neg (by simp [c2])]
          exact h4 (by simp [c2]) H' (.refl H')
        · rw [if_pos (by simp [c2])]
          exact h3 (by simp [c2]) H' (.refl H')
      refine ⟨wa, n, rs, _, rfl, w1.ext x3, ok, hbad, fun j' r' hj' hr' => ?_⟩
      obtain rfl : i = j' := by omega
      rw [hr] at hr'
      cases hr'
      refine ⟨fun h => (h c1).elim, fun _ p13 H4 fs hp13 x4 nd sr mem f4 => ?_⟩
      have x34 := x3.trans x4
      refine ⟨l, p12, rs, _, r.o, rfl, x34 _ _ (e _ _ hl), x4 _ _ f3, fun x hx => ?_, ?_, fun q H5 gs hq x5 nd' sr' mem' f5 => ?_⟩
      · exact kru_mem (List.mem_filter.mp hx).1
      · have := kru_len rs
        have := List.length_filter_le (fun j => !decide (j = (i : Int))) (kru rs)
        omega
      obtain rfl := side_same nd sr mem nd' sr' mem'
      refine ⟨_, _, rfl, sm_ints (x5 _ _ f4) f5 ?_, fun H6 x6 => ?_⟩
      · have := piece_len (rs := rs) nd (fun r hr => by obtain ⟨x, _, hx⟩ := mem_pick.mp hr; exact List.mem_of_getElem? hx) mem
        omega
      have x46 := x5.trans x6
      have x36 := x34.trans x46
      simp only [↓u_asB, Bool.not_true, Bool.false_eq_true, if_false]
      refine ⟨wa, n, rs, _, rfl, w1.ext x36, ok, hbad, fun j' r' hj' hr' => ?_⟩
      obtain rfl : i = j' := by omega
      rw [hr] at hr'
      cases hr'
      refine ⟨fun _ H7 x7 => ?_, fun h => (h c1).elim⟩
      have x47 := x46.trans x7
      have x17 := x36.trans x7
      have f7 : H7 p13 = some (.lst (fs.map D.int)) := x47 _ _ f4
      simp only [show isNon D.non = true from rfl, Bool.not_true, Bool.false_eq_true, if_false, ↓u_rList_ref]
      refine ⟨_, f7, fun p14 hp14 => ?_⟩
      have f8 : upD H7 p14 (.lst (fs.map D.int)) p13 = some (.lst (fs.map D.int)) := upD_old f7 hp14
      simp only [↓u_asR]
      refine ⟨⟨_, f8⟩, _, f8, ?_⟩
      have n14 : p14 ≠ p13 := neD' f7 hp14
      have x18 := x17.trans (.new (c := .lst (fs.map D.int)) hp14)
      have h13 : H1 p13 = none := Ext.none x3 hp13
      have x19 := x18.up (c := .lst []) h13
      have f14 : upD (upD H7 p14 (.lst (fs.map D.int))) p13 (.lst []) p14 = some (.lst (fs.map D.int)) := by rw [upD_ne n14, upD_same]
      refine ⟨wa, n, rs, _, rfl, w1.ext x19, ok, hbad, fun j' r' hj' hr' => ?_⟩
      obtain rfl : i = j' := by omega
      rw [hr] at hr'
      cases hr'
      refine ⟨fun h => (h c1).elim, fun _ p15 H9 gs hp15 x9 gnd gsr gmem f9 => ?_⟩
      obtain rfl := side_same nd sr mem gnd gsr gmem
      refine ⟨wa, n, rs, _, rfl, w1.ext (x19.trans x9), ok, hbad, fun j' r' hj' hr' => ?_⟩
      obtain rfl : i = j' := by omega
      rw [hr] at hr'
      cases hr'
      refine ⟨fun _ H10 x10 => ?_, fun h => (h c1).elim⟩
      intro p16 hp16
      refine kept_in (a := some fs) (b := some fs) (d := none) upD_same (pyA_ints (upD_old (x10 _ _ (x9 _ _ f14)) hp16)) (pyA_ints (upD_old (x10 _ _ f9) hp16)) .non (.inl rfl) ?_
      simp only [↓u_asB, Bool.false_eq_true, if_false]
      exact hN _ _ ⟨_, _, _, _, _, _, _, _, rfl, e.trans (((x19.trans x9).trans x10).trans (.new hp16))⟩
    · rw [if_neg c1]
      refine ⟨wa, n, rs, _, rfl, w1, ok, hbad, fun j' r' hj' hr' => ?_⟩
      obtain rfl : i = j' := by omega
      rw [hr] at hr'
      cases hr'
      refine ⟨fun h => (c1 h).elim, fun _ p13 H3 ps vs hp13 x3 way f3 => ?_⟩
      have ends := way.ends
      have hps : ps.length ≤ (kru rs).length := ends.2.2.2.1.length_le_of_subset fun x hx => (ends.2.2.1 x hx).1
      have hkl := kru_len rs
      refine ⟨"list", true, .lst f3, rfl, ?_⟩
      simp only [↓u_asB, Bool.not_true, Bool.false_eq_true, if_false, ↓u_lsI_ref, f3, Option.some.injEq, DO.lst.injEq, exists_eq_left']
      intro p15 hp15
      refine lc_fm D.int D.int (fun x => !decide (x ∈ kru rs)) hp15 (by omega) (fun H' e' => e' _ _ f3) (fun j x H' K K' hx e' h3 h4 => ?_) (fun H4 x4 f4 => ?_)
      · have hxk := (ends.2.2.1 x (List.mem_of_getElem? hx)).1
        simp only [↓u_goA_nm, ↓u_tTs, ↓u_tO, ↓u_tV, List.set, List.getElem?_cons_succ, List.getElem?_cons_zero, ↓u_slot, ↓u_rInG_ref, e' _ _ (x3 _ _ (e _ _ h5)), Option.some.injEq, exists_eq_left', ↓u_inC_ints, ↓u_asB, hxk, decide_true, Bool.not_true, Bool.false_eq_true, if_false]
        exact h4 (by simp [hxk]) H' (.refl H')
      have fe : ps.filter (fun x => !decide (x ∈ kru rs)) = [] := List.filter_eq_nil_iff.mpr fun x hx => by simp [(ends.2.2.1 x hx).1]
      rw [fe] at f4
      intro p16 hp16
      refine encNe (Enc.list (Enc.int (k := 0))) (a := []) (b := []) (pyA_ints (ns := []) (upD_old f4 hp16)) (pyA_ints (ns := []) upD_same) ?_
      simp only [decide_true, ↓u_asB, Bool.not_true, Bool.false_eq_true, if_false]
      have x35 := x4.trans (.new (c := .lst ([] : List D)) hp16)
      have x15 := x3.trans x35
      refine ⟨l, p13, rs, kru rs, ps, vs, r.o, r.t, rfl, x15 _ _ (e _ _ hl), x35 _ _ f3, way, by omega, fun H6 x6 => ?_⟩
      simp only [↓u_asB, Bool.not_true, Bool.false_eq_true, if_false]
      refine ⟨wa, n, rs, _, rfl, w1.ext (x15.trans x6), ok, hbad, fun j' r' hj' hr' => ?_⟩
      obtain rfl : i = j' := by omega
      rw [hr] at hr'
      cases hr'
      refine ⟨fun _ H7 x7 => ?_, fun h => (c1 h).elim⟩
      have x17 := (x15.trans x6).trans x7
      have f7 : H7 p13 = some (.lst (ps.map D.int)) := x7 _ _ (x6 _ _ (x35 _ _ f3))
      simp only [show isNon D.non = true from rfl, Bool.not_true, Bool.false_eq_true, if_false, ↓u_rList_ref]
      refine ⟨_, f7, fun p14 hp14 => ?_⟩
      have f8 : upD H7 p14 (.lst (ps.map D.int)) p13 = some (.lst (ps.map D.int)) := upD_old f7 hp14
      simp only [↓u_asR]
      refine ⟨⟨_, f8⟩, _, f8, ?_⟩
      have n14 : p14 ≠ p13 := neD' f7 hp14
      have x18 := x17.trans (.new (c := .lst (ps.map D.int)) hp14)
      have x19 := x18.up (c := .lst []) hp13
      have f14 : upD (upD H7 p14 (.lst (ps.map D.int))) p13 (.lst []) p14 = some (.lst (ps.map D.int)) := by rw [upD_ne n14, upD_same]
      refine ⟨wa, n, rs, _, rfl, w1.ext x19, ok, hbad, fun j' r' hj' hr' => ?_⟩
      obtain rfl : i = j' := by omega
      rw [hr] at hr'
      cases hr'
      refine ⟨fun _ H9 x9 => ?_, fun h => (c1 h).elim⟩
      refine ⟨wa, n, rs, _, rfl, w1.ext (x19.trans x9), ok, hbad, fun j' r' hj' hr' => ?_⟩
      obtain rfl : i = j' := by omega
      rw [hr] at hr'
      cases hr'
      refine ⟨fun h => (c1 h).elim, fun _ p17 H10 qs us hp17 x10 way2 f10 => ?_⟩
      obtain rfl := Way.uniq (ok.ap.imp fun h => h.2) (kru_forest rs) _ (Nat.le_refl _) way way2
      intro p18 hp18
      refine kept_in (a := some ps) (b := none) (d := some ps) upD_same (pyA_ints (upD_old (x10 _ _ (x9 _ _ f14)) hp18)) .non (pyA_ints (upD_old f10 hp18)) (.inr rfl) ?_
      simp only [↓u_asB, Bool.false_eq_true, if_false]
      exact hN _ _ ⟨_, _, _, _, _, _, _, _, rfl, e.trans (((x19.trans x9).trans x10).trans (.new hp18))⟩
  · rintro ρ H1 ⟨z7, z8, z9, z10, z11, z12, z13, z14, rfl, e⟩
    exact ⟨trivial, k02_6 k ok (hw.ext e) (e _ _ hl) (d.ext e) (e _ _ hP)⟩
theorem len_law : ∀ P q c ds H Q E, sp_law P q c ds H Q E → ds.length = (["_law_script"] : List Str).length := by intro P q; intro c ds H Q E h; first | (obtain ⟨_, _, _, _, _, _, _, _, _, _, _, _, rfl, _⟩ := h; rfl) | (obtain ⟨_, _, _, _, _, _, _, _, _, _, _, rfl, _⟩ := h; rfl) | (obtain ⟨_, _, _, _, _, _, _, _, _, _, rfl, _⟩ := h; rfl) | (obtain ⟨_, _, _, _, _, _, _, _, _, rfl, _⟩ := h; rfl) | (obtain ⟨_, _, _, _, _, _, _, _, rfl, _⟩ := h; rfl) | (obtain ⟨rfl, _⟩ := h; rfl) | (obtain ⟨_, rfl, _⟩ := h; rfl) | (obtain ⟨_, _, rfl, _⟩ := h; rfl) | (obtain ⟨_, _, _, rfl, _⟩ := h; rfl) | (obtain ⟨_, _, _, _, rfl, _⟩ := h; rfl) | (obtain ⟨_, _, _, _, _, rfl, _⟩ := h; rfl) | (obtain ⟨_, _, _, _, _, _, rfl, _⟩ := h; rfl) | (obtain ⟨_, _, _, _, _, _, _, rfl, _⟩ := h; rfl)
theorem rd_law (lm : LmP) (c : CA) (Ed : XD) (ds : List D) (Hd : HD) (Qd : QD) (h : sp_law lm.P lm.q c ds Hd Qd Ed) : t_law lm c Ed { nx := fun _ H' => Qd .non H', rt := Qd } (startD ["_law_script", "_law_d", "_law_hands", "_law_roads", "_law_web_here", "_law_due", "_law_turn", "_law_found", "_law_number", "_law_one", "_law_other", "_law_cost", "_law_left", "_law_told", "_law_kept", "_law_bad", "_law_at"] ds) Hd := by
  obtain ⟨ns, rfl, hP, k⟩ := h
  unfold t_law
  simp only [↓u_asB, ↓u_asI, ↓u_asR, ↓u_slot, ↓u_gt1, ↓u_goA_nm, ↓u_goA_tp, ↓u_goAs_nil, ↓u_goAs_cons, ↓u_sSeq, ↓u_sNx, ↓u_sDrop, ↓u_sRet, ↓u_sRetN, ↓u_sIf, ↓u_sAsg, ↓u_sSub, ↓u_sbC_lst, ↓u_sbC_dK, ↓u_sbC_dT, ↓u_sFl, ↓u_sFor, ↓u_tV, ↓u_tK, ↓u_tO, ↓u_tNeg, ↓u_tPn, ↓u_tPs, ↓u_tSlD, ↓u_rSl_tup, ↓u_rSl_rl, ↓u_rSl_ref, ↓u_tFl, ↓u_tN, ↓u_tC, ↓u_tTp, ↓u_tLs, ↓u_tDK, ↓u_tDT, ↓u_tTs, ↓u_tChn, ↓u_tChn3, ↓u_tAn, ↓u_tOr, ↓u_tNt, ↓u_tIfE, ↓u_tAnV, ↓u_tOrV, ↓u_tNtV, ↓u_rAdd_int, ↓u_rAdd_str, ↓u_rAdd_tup, ↓u_rAdd_ref, ↓u_rSub, ↓u_rMod, ↓u_rDiv, ↓u_rPow, ↓u_rLt, ↓u_rLe, ↓u_rGt, ↓u_rGe, ↓u_rMul_int, ↓u_rMul_ref, ↓u_rEq_int, ↓u_rEq_str, ↓u_rEq_bl, ↓u_rEq_nn, ↓u_rEq_in, ↓u_rEq_ni, ↓u_rNe_int, ↓u_rNe_str, ↓u_rNe_bl, ↓u_rNe_nn, ↓u_rNe_in, ↓u_rNe_ni, ↓u_rEq_t2, ↓u_rIsN, ↓u_rIsN_bl, ↓u_rNotN, ↓u_rNotN_bl, ↓u_isNon_non, ↓u_isNon_int, ↓u_isNon_ref, ↓u_isNon_tup, ↓u_isNon_bl, ↓u_isNon_str, ↓u_DG, ↓u_dgC_K, ↓u_dgC_rK, ↓u_dgC_T, ↓u_dgC_rT, ↓u_rInG_ref, ↓u_inC_K, ↓u_inC_rK, ↓u_inC_T, ↓u_inC_ints, ↓u_inC_prs, ↓u_rInG_tup, ↓u_rIx_ref, ↓u_ixC_lst, ↓u_ixC_K, ↓u_ixC_rK, ↓u_ixC_T, ↓u_ixC_rT, ↓u_rIx_tup, ↓u_rIx_rl, ↓u_at0, ↓u_at1, ↓u_at2, ↓u_at3, ↓u_iLs, ↓u_lsI_ref, ↓u_lsI_rl, ↓u_iTp, ↓u_tpI, ↓u_iR1, ↓u_r1I, ↓u_iR2, ↓u_r2I, ↓u_iEn, ↓u_enI, ↓u_iKy, ↓u_kyC_K, ↓u_kyC_T, ↓u_tYs, ↓u_tLcG, ↓u_wipe_nil, ↓u_wipe_cons, ↓u_tCal, ↓u_tMet, ↓u_tMak, ↓u_WdE, ↓u_noW, ↓u_tCb, ↓u_rLen_tup, ↓u_rLen_rl, ↓u_rLen_str, ↓u_rLen_ref, ↓u_lnC_lst, ↓u_lnC_dK, ↓u_rList_tup, ↓u_rList_rl, ↓u_rList_ref, ↓u_rTuple_tup, ↓u_rTuple_ref, ↓u_rInt_int, ↓u_rInt_bl, ↓u_rStr, ↓u_rMin2, ↓u_rMax2, ↓u_rSum, ↓u_tLr1, ↓u_tLr2, ↓u_tBm, ↓u_rApp, ↓u_rPop0, ↓u_rPopI, ↓u_rIns, ↓u_rClr, ↓u_tGet2, ↓u_isD_K, ↓u_isD_T, ↓u_tDisp1, ↓u_ixN41, ↓u_ixN42, ↓u_ixN43, ↓u_isS, ↓u_tSplit, ↓u_rSplit, ↓u_tJn, ↓u_rIntT_str, ↓u_rIntT_int, ↓u_iSr, ↓u_srI, ↓u_rInG_str, ↓u_rIx_str, ↓u_isi_non, ↓u_isi_bl, ↓u_isi_int, ↓u_isi_str, ↓u_isi_tup, ↓u_isi_ref, ↓u_isiC_lst, ↓u_isiC_dK, ↓u_isiC_dT, ↓u_kit_NoneType_bool, ↓u_kit_NoneType_int, ↓u_kit_NoneType_str, ↓u_kit_NoneType_tuple, ↓u_kit_NoneType_list, ↓u_kit_NoneType_dict, ↓u_kit_bool_bool, ↓u_kit_bool_int, ↓u_kit_bool_str, ↓u_kit_bool_tuple, ↓u_kit_bool_list, ↓u_kit_bool_dict, ↓u_kit_int_bool, ↓u_kit_int_int, ↓u_kit_int_str, ↓u_kit_int_tuple, ↓u_kit_int_list, ↓u_kit_int_dict, ↓u_kit_str_bool, ↓u_kit_str_int, ↓u_kit_str_str, ↓u_kit_str_tuple, ↓u_kit_str_list, ↓u_kit_str_dict, ↓u_kit_tuple_bool, ↓u_kit_tuple_int, ↓u_kit_tuple_str, ↓u_kit_tuple_tuple, ↓u_kit_tuple_list, ↓u_kit_tuple_dict, ↓u_kit_list_bool, ↓u_kit_list_int, ↓u_kit_list_str, ↓u_kit_list_tuple, ↓u_kit_list_list, ↓u_kit_list_dict, ↓u_kit_dict_bool, ↓u_kit_dict_int, ↓u_kit_dict_str, ↓u_kit_dict_tuple, ↓u_kit_dict_list, ↓u_kit_dict_dict, ↓u_sTry, ↓u_sRaiI, ↓u_tXfD, startD, List.set, List.map, List.replicate, List.length_cons, List.length_nil, Nat.reduceAdd, Nat.reduceSub, List.cons_append, List.nil_append, List.append_nil, List.getElem?_cons_zero, List.getElem?_cons_succ, Option.some.injEq, DO.lst.injEq, DO.ins.injEq, DO.dK.injEq, DO.dT.injEq, DO.rdK.injEq, DO.rdT.injEq, exists_eq_left', exists_eq_left, exists_eq', Bool.false_eq_true, reduceCtorEq, Nat.reduceLeDiff, Bool.true_eq_false, if_true, if_false, ite_true, ite_false, Bool.not_true, Bool.not_false, cut2, true_and, and_true, false_and, and_false, decide_eq_true_eq, decide_true, roD_def, Int.reduceToNat, id_eq, forall_const, Nat.zero_le, Nat.le_refl, upD_same, putI, Nat.reduceLT, Nat.lt_irrefl, Nat.zero_lt_one, Nat.not_lt_zero]
  refine ⟨ns, rfl, fun pd H1 hpd x1 d1 => ?_⟩
  refine ⟨pd, 8, rfl, d1, by omega, by omega, fun n rs l H2 hl2 x2 d2 g2 ok nm => ?_⟩
  have n1 := ok.n1; have n8 := ok.n8; have few := ok.few
  have nP : lm.P ≠ pd := fun z => by
    rw [z, hpd] at hP
    cases hP
  have hP2 := x2 _ _ nP (x1 _ _ hP)
  simp only [↓u_goA_tp, ↓u_goAs_cons, ↓u_goA_nm, ↓u_goAs_nil, List.set, List.getElem?_cons_succ, List.getElem?_cons_zero, ↓u_slot, ↓u_rList_ref, g2, Option.some.injEq, DO.lst.injEq, exists_eq_left']
  intro p3 hp3 wa hwa
  have hwa2 : H2 wa = none := upD_none hwa
  refine ⟨wa, n, p3, rs, rfl, upD_same, upD_old upD_same hwa, ok, fun lw H4 hlw x4 f1 f2 => ⟨rfl, ?_⟩⟩
  have x24 : Ext H2 H4 := fun a c ha => x4 _ _ (neD' ha hwa2).symm (upD_old (upD_old ha hp3) hwa)
  have w4 : IsWeb c H4 wa n rs := ⟨lw, f1, f2⟩
  have hl4 := x24 _ _ g2
  refine ⟨l, rs, rfl, hl4, by omega, fun p5 H5 hp5 x5 f5 => ?_⟩
  refine ⟨by decide, ?_⟩
  refine loop_inv' (I := ⟨rngD 0 2, fun _ => True⟩) (fun i ρ H => ∃ z6 z7 : Option D, ρ = [some (.rl (ns.map D.int)), some (.ref pd), some (.int n), some (.ref l), some (.ref wa), some (.ref p5), z6, z7, none, none, none, none, none, none, none, none, none] ∧ Ext H5 H) ?_ ?_ ?_
  · exact ⟨_, _, rfl, .refl _⟩
  · rintro i dd ρ H hd ⟨z6, z7, rfl, e⟩
    refine ⟨trivial, fun N B hN _ => ?_⟩
    obtain ⟨_, rfl⟩ := nth_rng hd
    simp only [↓u_asB, ↓u_asI, ↓u_asR, ↓u_slot, ↓u_gt1, ↓u_goA_nm, ↓u_goA_tp, ↓u_goAs_nil, ↓u_goAs_cons, ↓u_sSeq, ↓u_sNx, ↓u_sDrop, ↓u_sRet, ↓u_sRetN, ↓u_sIf, ↓u_sAsg, ↓u_sSub, ↓u_sbC_lst, ↓u_sbC_dK, ↓u_sbC_dT, ↓u_sFl, ↓u_sFor, ↓u_tV, ↓u_tK, ↓u_tO, ↓u_tNeg, ↓u_tPn, ↓u_tPs, ↓u_tSlD, ↓u_rSl_tup, ↓u_rSl_rl, ↓u_rSl_ref, ↓u_tFl, ↓u_tN, ↓u_tC, ↓u_tTp, ↓u_tLs, ↓u_tDK, ↓u_tDT, ↓u_tTs, ↓u_tChn, ↓u_tChn3, ↓u_tAn, ↓u_tOr, ↓u_tNt, ↓u_tIfE, ↓u_tAnV, ↓u_tOrV, ↓u_tNtV, ↓u_rAdd_int, ↓u_rAdd_str, ↓u_rAdd_tup, ↓u_rAdd_ref, ↓u_rSub, ↓u_rMod, ↓u_rDiv, ↓u_rPow, ↓u_rLt, ↓u_rLe, ↓u_rGt, ↓u_rGe, ↓u_rMul_int, ↓u_rMul_ref, ↓u_rEq_int, ↓u_rEq_str, ↓u_rEq_bl, ↓u_rEq_nn, ↓u_rEq_in, ↓u_rEq_ni, ↓u_rNe_int, ↓u_rNe_str, ↓u_rNe_bl, ↓u_rNe_nn, ↓u_rNe_in, ↓u_rNe_ni, ↓u_rEq_t2, ↓u_rIsN, ↓u_rIsN_bl, ↓u_rNotN, ↓u_rNotN_bl, ↓u_isNon_non, ↓u_isNon_int, ↓u_isNon_ref, ↓u_isNon_tup, ↓u_isNon_bl, ↓u_isNon_str, ↓u_DG, ↓u_dgC_K, ↓u_dgC_rK, ↓u_dgC_T, ↓u_dgC_rT, ↓u_rInG_ref, ↓u_inC_K, ↓u_inC_rK, ↓u_inC_T, ↓u_inC_ints, ↓u_inC_prs, ↓u_rInG_tup, ↓u_rIx_ref, ↓u_ixC_lst, ↓u_ixC_K, ↓u_ixC_rK, ↓u_ixC_T, ↓u_ixC_rT, ↓u_rIx_tup, ↓u_rIx_rl, ↓u_at0, ↓u_at1, ↓u_at2, ↓u_at3, ↓u_iLs, ↓u_lsI_ref, ↓u_lsI_rl, ↓u_iTp, ↓u_tpI, ↓u_iR1, ↓u_r1I, ↓u_iR2, ↓u_r2I, ↓u_iEn, ↓u_enI, ↓u_iKy, ↓u_kyC_K, ↓u_kyC_T, ↓u_tYs, ↓u_tLcG, ↓u_wipe_nil, ↓u_wipe_cons, ↓u_tCal, ↓u_tMet, ↓u_tMak, ↓u_WdE, ↓u_noW, ↓u_tCb, ↓u_rLen_tup, ↓u_rLen_rl, ↓u_rLen_str, ↓u_rLen_ref, ↓u_lnC_lst, ↓u_lnC_dK, ↓u_rList_tup, ↓u_rList_rl, ↓u_rList_ref, ↓u_rTuple_tup, ↓u_rTuple_ref, ↓u_rInt_int, ↓u_rInt_bl, ↓u_rStr, ↓u_rMin2, ↓u_rMax2, ↓u_rSum, ↓u_tLr1, ↓u_tLr2, ↓u_tBm, ↓u_rApp, ↓u_rPop0, ↓u_rPopI, ↓u_rIns, ↓u_rClr, ↓u_tGet2, ↓u_isD_K, ↓u_isD_T, ↓u_tDisp1, ↓u_ixN41, ↓u_ixN42, ↓u_ixN43, ↓u_isS, ↓u_tSplit, ↓u_rSplit, ↓u_tJn, ↓u_rIntT_str, ↓u_rIntT_int, ↓u_iSr, ↓u_srI, ↓u_rInG_str, ↓u_rIx_str, ↓u_isi_non, ↓u_isi_bl, ↓u_isi_int, ↓u_isi_str, ↓u_isi_tup, ↓u_isi_ref, ↓u_isiC_lst, ↓u_isiC_dK, ↓u_isiC_dT, ↓u_kit_NoneType_bool, ↓u_kit_NoneType_int, ↓u_kit_NoneType_str, ↓u_kit_NoneType_tuple, ↓u_kit_NoneType_list, ↓u_kit_NoneType_dict, ↓u_kit_bool_bool, ↓u_kit_bool_int, ↓u_kit_bool_str, ↓u_kit_bool_tuple, ↓u_kit_bool_list, ↓u_kit_bool_dict, ↓u_kit_int_bool, ↓u_kit_int_int, ↓u_kit_int_str, ↓u_kit_int_tuple, ↓u_kit_int_list, ↓u_kit_int_dict, ↓u_kit_str_bool, ↓u_kit_str_int, ↓u_kit_str_str, ↓u_kit_str_tuple, ↓u_kit_str_list, ↓u_kit_str_dict, ↓u_kit_tuple_bool, ↓u_kit_tuple_int, ↓u_kit_tuple_str, ↓u_kit_tuple_tuple, ↓u_kit_tuple_list, ↓u_kit_tuple_dict, ↓u_kit_list_bool, ↓u_kit_list_int, ↓u_kit_list_str, ↓u_kit_list_tuple, ↓u_kit_list_list, ↓u_kit_list_dict, ↓u_kit_dict_bool, ↓u_kit_dict_int, ↓u_kit_dict_str, ↓u_kit_dict_tuple, ↓u_kit_dict_list, ↓u_kit_dict_dict, ↓u_sTry, ↓u_sRaiI, ↓u_tXfD, startD, List.set, List.map, List.replicate, List.length_cons, List.length_nil, Nat.reduceAdd, Nat.reduceSub, List.cons_append, List.nil_append, List.append_nil, List.getElem?_cons_zero, List.getElem?_cons_succ, Option.some.injEq, DO.lst.injEq, DO.ins.injEq, DO.dK.injEq, DO.dT.injEq, DO.rdK.injEq, DO.rdT.injEq, exists_eq_left', exists_eq_left, exists_eq', Bool.false_eq_true, reduceCtorEq, Nat.reduceLeDiff, Bool.true_eq_false, if_true, if_false, ite_true, ite_false, Bool.not_true, Bool.not_false, cut2, true_and, and_true, false_and, and_false, decide_eq_true_eq, decide_true, roD_def, Int.reduceToNat, id_eq, forall_const, Nat.zero_le, Nat.le_refl, upD_same, putI, Nat.reduceLT, Nat.lt_irrefl, Nat.zero_lt_one, Nat.not_lt_zero]
    refine ⟨wa, n, rs, rfl, w4.ext (x5.trans e), by omega, ok.ne, fun p7 H7 hp7 x7 f7 => ?_⟩
    have := kru_len rs
    refine ⟨_, _, rfl, sm_ints f7 (x7 _ _ (e _ _ f5)) (by omega), fun H8 x8 => ?_⟩
    have f8 := x8 _ _ f7
    simp only [↓u_asB, Bool.not_true, Bool.false_eq_true, if_false, f8, Option.some.injEq, DO.lst.injEq, exists_eq_left', exists_eq', true_and, List.length_map, ↓u_asR, ↓u_rApp]
    refine ⟨by omega, hN _ _ ⟨_, _, rfl, e.trans ((x7.trans x8).up hp7)⟩⟩
  · rintro ρ H ⟨z6, z7, rfl, e⟩
    have x2H := x24.trans (x5.trans e)
    exact ⟨trivial, k02_5 k ok (w4.ext (x5.trans e)) (x2H _ _ g2) (e _ _ f5) (d2.ext x2H) (x2H _ _ hP2)⟩
end Lt


end
section
set_option Elab.async false
set_option linter.all false
set_option maxRecDepth 100000
set_option maxHeartbeats 4000000
namespace Lt
open PySem PySem.Spec PyProof.Rows L2 LamX
/-! the row: text, facts -/
def top (i : Nat) : Stmt := PySem.Challenge.pw_lettertree_k02_least_trees.main.body.getD i (.Pass ⟨0, 0, 0, 0⟩)
abbrev s_Web_fits : Stmt := inClass (top 13) 1
abbrev s_led_to : Stmt := top 12
abbrev s_Web_init : Stmt := inClass (top 13) 0
abbrev s__law_dice : Stmt := top 19
abbrev s__law_leads : Stmt := top 27
abbrev s__law_like : Stmt := top 21
abbrev s__law_next : Stmt := top 20
abbrev s__law_reach : Stmt := top 26
abbrev s__law_refused : Stmt := top 25
abbrev s__law_tree : Stmt := top 23
abbrev s__law_web : Stmt := top 22
abbrev s_Web_roads : Stmt := inClass (top 13) 3
abbrev s_need_road : Stmt := top 15
abbrev s_tree : Stmt := top 14
abbrev s_instead : Stmt := top 16
abbrev s_side : Stmt := top 17
abbrev s_law : Stmt := top 28
abbrev s__law_is : Stmt := top 24
abbrev ca (K : PySem.W.Frag) : CA := ⟨He.ga K "Web", He.ga K "Hand", He.ga K "Net", He.ga K "WebError", He.ga K "BadWeb", He.ga K "NoHand", He.ga K "NoRoad", He.ga K "NoLetter", He.ga K "BadText"⟩
def csOf (K : PySem.W.Frag) : Addr → Option (List Str) := fun a => if a = He.ga K "Web" then some (["many", "ways"] : List Str) else none
structure Tx (K : PySem.W.Frag) (mg : Str → Option Value) (cs : Addr → Option (List Str)) : Prop where
  e : cs = csOf K
  G : Gm.Ok ⟨K, cs⟩
  n_len : mg "len" = none
  n_range : mg "range" = none
  n_sorted : mg "sorted" = none
  n_enumerate : mg "enumerate" = none
  n_isinstance : mg "isinstance" = none
  n_tuple : mg "tuple" = none
  n_list : mg "list" = none
  n_int : mg "int" = none
  n_str : mg "str" = none
  n_dict : mg "dict" = none
  n_min : mg "min" = none
  n_set : mg "set" = none
  n_bool : mg "bool" = none
  n_ValueError : mg "ValueError" = none
  c_MOST_HANDS : ∃ t, mg "MOST_HANDS" = some (.int 8 t)
  c_MOST_ROADS : ∃ t, mg "MOST_ROADS" = some (.int 20 t)
  c_MOST_COST : ∃ t, mg "MOST_COST" = some (.int 99 t)
  g_led_to : mg "led_to" = some (.ref (He.ga K "led_to"))
  g__law_dice : mg "_law_dice" = some (.ref (He.ga K "_law_dice"))
  g__law_leads : mg "_law_leads" = some (.ref (He.ga K "_law_leads"))
  g__law_like : mg "_law_like" = some (.ref (He.ga K "_law_like"))
  g__law_next : mg "_law_next" = some (.ref (He.ga K "_law_next"))
  g__law_reach : mg "_law_reach" = some (.ref (He.ga K "_law_reach"))
  g__law_refused : mg "_law_refused" = some (.ref (He.ga K "_law_refused"))
  g__law_tree : mg "_law_tree" = some (.ref (He.ga K "_law_tree"))
  g__law_web : mg "_law_web" = some (.ref (He.ga K "_law_web"))
  g_need_road : mg "need_road" = some (.ref (He.ga K "need_road"))
  g_tree : mg "tree" = some (.ref (He.ga K "tree"))
  g_instead : mg "instead" = some (.ref (He.ga K "instead"))
  g_side : mg "side" = some (.ref (He.ga K "side"))
  g_law : mg "law" = some (.ref (He.ga K "law"))
  g__law_is : mg "_law_is" = some (.ref (He.ga K "_law_is"))
  g_Web : mg "Web" = some (.ref (He.ga K "Web"))
  g_WebError : mg "WebError" = some (.ref (He.ga K "WebError"))
  g_BadWeb : mg "BadWeb" = some (.ref (He.ga K "BadWeb"))
  g_NoHand : mg "NoHand" = some (.ref (He.ga K "NoHand"))
  g_NoRoad : mg "NoRoad" = some (.ref (He.ga K "NoRoad"))
  g_NoLetter : mg "NoLetter" = some (.ref (He.ga K "NoLetter"))
  g_BadText : mg "BadText" = some (.ref (He.ga K "BadText"))
  x_NoRoad : XcN K (He.ga K "NoRoad")
  xf_why : ∀ B ∈ [He.ga K "BadWeb"], L2.XfC K B ∧ PySem.W.findIn K (.ref B) "why" = some none
  xf_number : ∀ B ∈ [He.ga K "BadWeb"], L2.XfC K B ∧ PySem.W.findIn K (.ref B) "number" = some none
  xf_row : ∀ B ∈ [He.ga K "BadText"], L2.XfC K B ∧ PySem.W.findIn K (.ref B) "row" = some none
  mt_WebError : ∀ q ∈ [(He.ga K "BadWeb", true), (He.ga K "NoHand", true), (He.ga K "NoRoad", true), (He.ga K "NoLetter", true), (He.ga K "BadText", true)], PySem.W.exmOne K (.ref q.1) (.ref (He.ga K "WebError")) = some q.2
  is_tab : ∀ t ∈ isTab (ca K), IsF K t.1 t.2.1 t.2.2
  h_Web : cs (He.ga K "Web") = some (["many", "ways"] : List Str)
  m_Web : Mk K (He.ga K "Web") (He.ma K (He.ga K "Web") "__init__")
  t_Web_fits : Meth K (He.ga K "Web") "fits" (He.ma K (He.ga K "Web") "fits")
  F_Web_fits : FB K "fits" "Web.fits" s_Web_fits (He.ma K (He.ga K "Web") "fits") ["self", "road"]
  F_led_to : FB K "led_to" "led_to" s_led_to (He.ga K "led_to") ["roads", "begin"]
  F_Web_init : FB K "__init__" "Web.__init__" s_Web_init (He.ma K (He.ga K "Web") "__init__") ["self", "hands", "roads"]
  F__law_dice : FB K "_law_dice" "_law_dice" s__law_dice (He.ga K "_law_dice") ["_law_script"]
  F__law_leads : FB K "_law_leads" "_law_leads" s__law_leads (He.ga K "_law_leads") ["_law_roads", "_law_numbers", "_law_begin", "_law_end"]
  F__law_like : FB K "_law_like" "_law_like" s__law_like (He.ga K "_law_like") ["_law_found", "_law_due"]
  F__law_next : FB K "_law_next" "_law_next" s__law_next (He.ga K "_law_next") ["_law_dice_here", "_law_many"]
  F__law_reach : FB K "_law_reach" "_law_reach" s__law_reach (He.ga K "_law_reach") ["_law_roads", "_law_numbers", "_law_begin"]
  F__law_refused : FB K "_law_refused" "_law_refused" s__law_refused (He.ga K "_law_refused") ["_law_work"]
  F__law_tree : FB K "_law_tree" "_law_tree" s__law_tree (He.ga K "_law_tree") ["_law_roads"]
  F__law_web : FB K "_law_web" "_law_web" s__law_web (He.ga K "_law_web") ["_law_d", "_law_most"]
  t_Web_roads : Meth K (He.ga K "Web") "roads" (He.ma K (He.ga K "Web") "roads")
  F_Web_roads : FB K "roads" "Web.roads" s_Web_roads (He.ma K (He.ga K "Web") "roads") ["self"]
  F_need_road : FB K "need_road" "need_road" s_need_road (He.ga K "need_road") ["web", "number"]
  F_tree : FB K "tree" "tree" s_tree (He.ga K "tree") ["web"]
  F_instead : FB K "instead" "instead" s_instead (He.ga K "instead") ["web", "number"]
  F_side : FB K "side" "side" s_side (He.ga K "side") ["web", "number"]
  F_law : FB K "law" "law" s_law (He.ga K "law") ["_law_script"]
  F__law_is : FB K "_law_is" "_law_is" s__law_is (He.ga K "_law_is") ["_law_e", "_law_word"]
section
variable {P : Program} {w : World} {K : PySem.W.Frag} {mg : Str → Option Value} {base : Heap} {cs : Addr → Option (List Str)}
theorem sc__law_is : FnScope ["_law_e", "_law_word", "_law_kinds", "_law_words", "_law_one"] ["_law_e", "_law_word"] (defScope s__law_is) := ⟨rfl, rfl, rfl, by decide +kernel, rfl, by decide +kernel, by decide +kernel⟩
theorem okh__law_is (T : Tx K mg cs)  : DfH P w K mg base cs 1 (He.ga K "_law_is") (sph__law_is (ca K)) := by
  refine dfh_of (sph__law_is (ca K)) T.F__law_is sc__law_is (lenh__law_is (ca K)) (fun X fd cdv A outer s H E a C d oe eX hr hot hp => ?_)
  subst eX
  have nd := sc__law_is.nd
  exact ⟨th__law_is a C d (ca K), (pssd_cons (psd_set 2 nd (pd_lst (pad_cons (pd_callB (call_isX hot T.is_tab) T.n_isinstance (pad_cons (pd_var 0) (pad_cons (pd_gref T.g_BadWeb) pad_nil))) (pad_cons (pd_callB (call_isX hot T.is_tab) T.n_isinstance (pad_cons (pd_var 0) (pad_cons (pd_gref T.g_NoHand) pad_nil))) (pad_cons (pd_callB (call_isX hot T.is_tab) T.n_isinstance (pad_cons (pd_var 0) (pad_cons (pd_gref T.g_NoRoad) pad_nil))) (pad_cons (pd_callB (call_isX hot T.is_tab) T.n_isinstance (pad_cons (pd_var 0) (pad_cons (pd_gref T.g_NoLetter) pad_nil))) pad_nil))))))
    (pssd_cons (psd_set 2 nd (pd_op op_addD (pd_var 2) (pd_lst (pad_cons (pd_callB (call_isX hot T.is_tab) T.n_isinstance (pad_cons (pd_var 0) (pad_cons (pd_gref T.g_BadText) pad_nil))) pad_nil))))
    (pssd_cons (psd_set 3 nd (pd_lst (pad_cons pd_str (pad_cons pd_str (pad_cons pd_str (pad_cons pd_str (pad_cons pd_str pad_nil)))))))
    (pssd_one (psd_ret (pd_and (pd_callB (call_isX hot T.is_tab) T.n_isinstance (pad_cons (pd_var 0) (pad_cons (pd_gty T.n_ValueError (by decide +kernel)) pad_nil))) (pd_one (pd_cmp (op_eqG hr.units) (pd_var 2) (pd_lcH [("_law_one", 4)] hot nd (pd_var 3) (fun _ _ _ _ _ => (pgd_name 4 nd)) (fun _ _ _ _ _ => ptsd_nil) (fun _ _ _ _ _ => (pd_cmp (op_eqG hr.units) (pd_var 1) (pd_var 4)))))))))))), fun ds Hd Qd h => rdh__law_is (ca K) a C d ds Hd Qd h⟩
theorem sc_Web_fits : FnScope ["self", "road", "one", "other", "cost", "way"] ["self", "road"] (defScope s_Web_fits) := ⟨rfl, rfl, rfl, by decide +kernel, rfl, by decide +kernel, by decide +kernel⟩
theorem ok_Web_fits (T : Tx K mg cs)  : Df P w K mg base cs 1 (He.ma K (He.ga K "Web") "fits") (sp_Web_fits (ca K)) := by
  refine df_of (sp_Web_fits (ca K)) T.F_Web_fits sc_Web_fits (len_Web_fits (ca K)) (fun fd cdv A outer s H E Ed hr wl hp => ?_)
  have nd := sc_Web_fits.nd
  exact ⟨t_Web_fits (ca K) Ed, (pssd_cons (psd_asg (pd_var 1) (pgd_tup rfl (pgsd_cons (pgd_name 2 nd) (pgsd_cons (pgd_name 3 nd) (pgsd_cons (pgd_name 4 nd) pgsd_nil)))))
    (pssd_cons (psd_if (PWD.pt (pwd_or (ptd_not (ptd_chain3 op_leD op_ltD op_ltD pd_int (pd_var 2) (pd_var 3) (pd_fld T.G _ T.h_Web 0 (pd_var 0)))) (pwd_or1 (ptd_not (ptd_chain op_leD op_leD pd_int (pd_var 4) (pd_gint T.c_MOST_COST)))))) (pssd_one (psd_ret pd_bl)) pssd_nil)
    (pssd_one (psd_ret (pd_cmp (op_eqG hr.units) (pd_lc [("way", 5)] rfl nd (pid_list (pd_fld T.G _ T.h_Web 1 (pd_var 0))) (fun _ _ _ _ _ => (pgd_name 5 nd)) (fun _ _ _ _ _ => (ptsd_one (PWD.pt (pwd_or (ptd_cmp (op_eqG hr.units) (pd_slice (pd_var 5) pod_none (pod_some pd_int)) (pd_slice (pd_var 1) pod_none (pod_some pd_int))) (pwd_or1 (ptd_cmp (op_eqG hr.units) (pd_ix (hu_of hr) (pd_var 5) pd_int) (pd_var 4))))))) (fun _ _ _ _ _ => (pd_var 5))) (pd_lst pad_nil)))))), fun ds Hd Qd h => rd_Web_fits (ca K) Ed ds Hd Qd h⟩
theorem sc_led_to : FnScope ["roads", "begin", "found", "more", "one", "other", "cost"] ["roads", "begin"] (defScope s_led_to) := ⟨rfl, rfl, rfl, by decide +kernel, rfl, by decide +kernel, by decide +kernel⟩
theorem ok_led_to (T : Tx K mg cs)  : Df P w K mg base cs 1 (He.ga K "led_to") (sp_led_to (ca K)) := by
  refine df_of (sp_led_to (ca K)) T.F_led_to sc_led_to (len_led_to (ca K)) (fun fd cdv A outer s H E Ed hr wl hp => ?_)
  have nd := sc_led_to.nd
  exact ⟨t_led_to (ca K) Ed, (pssd_cons (psd_set 2 nd (pd_lst (pad_cons (pd_var 1) pad_nil)))
    (pssd_cons (psd_set 3 nd pd_bl)
    (pssd_cons (psd_while hp (ptd_val (pd_var 3))
    (pssd_cons (psd_set 3 nd pd_bl)
    (pssd_one (psd_for hp rfl (pid_list (pd_var 0)) (pgd_tup rfl (pgsd_cons (pgd_name 4 nd) (pgsd_cons (pgd_name 5 nd) (pgsd_cons (pgd_name 6 nd) pgsd_nil))))
    (pssd_one (psd_if (ptd_cmp (op_neG hr.units) (pd_cmp (op_inG hr.units65) (pd_var 4) (pd_var 2)) (pd_cmp (op_inG hr.units65) (pd_var 5) (pd_var 2))) (pssd_cons (psd_expr (pd_bm PySem.F.slot_list_append PySem.F.type_list_append m_append (pd_var 2) (pad_cons (pd_if (ptd_cmp (op_inG hr.units65) (pd_var 4) (pd_var 2)) (pd_var 5) (pd_var 4)) pad_nil)))
    (pssd_one (psd_set 3 nd pd_bl))) pssd_nil))))))
    (pssd_one (psd_ret (pd_var 2)))))), fun ds Hd Qd h => rd_led_to (ca K) Ed ds Hd Qd h⟩
theorem sc_Web_init : FnScope ["self", "hands", "roads", "number"] ["self", "hands", "roads"] (defScope s_Web_init) := ⟨rfl, rfl, rfl, by decide +kernel, rfl, by decide +kernel, by decide +kernel⟩
theorem ok_Web_init (T : Tx K mg cs) (D_Web_fits : Df P w K mg base cs 1 (He.ma K (He.ga K "Web") "fits") (sp_Web_fits (ca K))) (D_led_to : Df P w K mg base cs 1 (He.ga K "led_to") (sp_led_to (ca K))) : Df P w K mg base cs 3 (He.ma K (He.ga K "Web") "__init__") (sp_Web_init (ca K)) := by
  refine df_of (sp_Web_init (ca K)) T.F_Web_init sc_Web_init (len_Web_init (ca K)) (fun fd cdv A outer s H E Ed hr wl hp => ?_)
  have nd := sc_Web_init.nd
  exact ⟨t_Web_init (ca K) Ed, (pssd_cons (psd_if (ptd_not (ptd_chain op_leD op_leD pd_int (pd_var 1) (pd_gint T.c_MOST_HANDS))) (pssd_one psd_never) pssd_nil)
    (pssd_cons (psd_if (ptd_cmp op_gtD (pd_callB call_lenG T.n_len (pad_cons (pd_var 2) pad_nil)) (pd_gint T.c_MOST_ROADS)) (pssd_one psd_never) pssd_nil)
    (pssd_cons (psd_fld T.G _ T.h_Web 0 (pd_var 1) (pd_var 0))
    (pssd_cons (psd_fld T.G _ T.h_Web 1 (pd_lst pad_nil) (pd_var 0))
    (pssd_cons (psd_for hp rfl (pid_rng1 T.n_range (pad_cons (pd_callB call_lenG T.n_len (pad_cons (pd_var 2) pad_nil)) pad_nil)) (pgd_name 3 nd)
    (pssd_cons (psd_if (ptd_not (ptd_val (pd_meth T.G T.h_Web T.t_Web_fits D_Web_fits (hr.mono (by decide)) wl (pd_var 0) (pad_cons (pd_ix (hu_of hr) (pd_var 2) (pd_var 3)) pad_nil)))) (pssd_one psd_never) pssd_nil)
    (pssd_one (psd_expr (pd_bm PySem.F.slot_list_append PySem.F.type_list_append m_append (pd_fld T.G _ T.h_Web 1 (pd_var 0)) (pad_cons (pd_ix (hu_of hr) (pd_var 2) (pd_var 3)) pad_nil))))))
    (pssd_one (psd_if (ptd_cmp op_ltD (pd_callB call_lenG T.n_len (pad_cons (pd_call D_led_to (hr.mono (by decide)) wl T.g_led_to (pad_cons (pd_fld T.G _ T.h_Web 1 (pd_var 0)) (pad_cons pd_int pad_nil))) pad_nil)) (pd_var 1)) (pssd_one psd_never) pssd_nil))))))), fun ds Hd Qd h => rd_Web_init (ca K) Ed ds Hd Qd h⟩
theorem sc__law_dice : FnScope ["_law_script", "_law_mixed", "_law_cell"] ["_law_script"] (defScope s__law_dice) := ⟨rfl, rfl, rfl, by decide +kernel, rfl, by decide +kernel, by decide +kernel⟩
theorem ok__law_dice (T : Tx K mg cs)  : Df P w K mg base cs 1 (He.ga K "_law_dice") (sp__law_dice (ca K)) := by
  refine df_of (sp__law_dice (ca K)) T.F__law_dice sc__law_dice (len__law_dice (ca K)) (fun fd cdv A outer s H E Ed hr wl hp => ?_)
  have nd := sc__law_dice.nd
  exact ⟨t__law_dice (ca K) Ed, (pssd_cons (psd_set 1 nd pd_int)
    (pssd_cons (psd_for hp rfl (pid_list (pd_var 0)) (pgd_name 2 nd)
    (pssd_one (psd_set 1 nd (pd_op op_modD (pd_op op_addD (pd_op op_addD (pd_op op_mulD (pd_var 1) pd_int) (pd_op op_mulD (pd_op op_modD (pd_var 2) pd_int) pd_int)) pd_int) pd_int))))
    (pssd_one (psd_ret (pd_lst (pad_cons (pd_var 0) (pad_cons pd_int (pad_cons (pd_op op_mulD (pd_var 1) (pd_callTy call_intG T.n_int (pad_cons (pd_cmp op_gtD (pd_callB call_lenG T.n_len (pad_cons (pd_var 0) pad_nil)) pd_int) pad_nil))) (pad_cons pd_int pad_nil))))))))), fun ds Hd Qd h => rd__law_dice (ca K) Ed ds Hd Qd h⟩
theorem sc__law_leads : FnScope ["_law_roads", "_law_numbers", "_law_begin", "_law_end", "_law_met", "_law_number"] ["_law_roads", "_law_numbers", "_law_begin", "_law_end"] (defScope s__law_leads) := ⟨rfl, rfl, rfl, by decide +kernel, rfl, by decide +kernel, by decide +kernel⟩
theorem ok__law_leads (T : Tx K mg cs)  : Df P w K mg base cs 1 (He.ga K "_law_leads") (sp__law_leads (ca K)) := by
  refine df_of (sp__law_leads (ca K)) T.F__law_leads sc__law_leads (len__law_leads (ca K)) (fun fd cdv A outer s H E Ed hr wl hp => ?_)
  have nd := sc__law_leads.nd
  exact ⟨t__law_leads (ca K) Ed, (pssd_cons (psd_set 4 nd (pd_lst (pad_cons (pd_var 2) pad_nil)))
    (pssd_cons (psd_for hp rfl (pid_list (pd_var 1)) (pgd_name 5 nd)
    (pssd_cons (psd_if (ptd_cmp (op_notInG hr.units65) (pd_ix (hu_of hr) (pd_var 4) (pd_neg pd_int)) (pd_slice (pd_ix (hu_of hr) (pd_var 0) (pd_var 5)) pod_none (pod_some pd_int))) (pssd_one (psd_ret pd_bl)) pssd_nil)
    (pssd_one (psd_expr (pd_bm PySem.F.slot_list_append PySem.F.type_list_append m_append (pd_var 4) (pad_cons (pd_op op_subD (pd_op op_addD (pd_ix (hu_of hr) (pd_ix (hu_of hr) (pd_var 0) (pd_var 5)) pd_int) (pd_ix (hu_of hr) (pd_ix (hu_of hr) (pd_var 0) (pd_var 5)) pd_int)) (pd_ix (hu_of hr) (pd_var 4) (pd_neg pd_int))) pad_nil))))))
    (pssd_one (psd_ret (pd_and (pd_cmp (op_eqG hr.units) (pd_ix (hu_of hr) (pd_var 4) (pd_neg pd_int)) (pd_var 3)) (pd_one (pd_cmp (op_eqG hr.units) (pd_lenSet rfl T.n_len T.n_set (pd_var 4)) (pd_callB call_lenG T.n_len (pad_cons (pd_var 4) pad_nil))))))))), fun ds Hd Qd h => rd__law_leads (ca K) Ed ds Hd Qd h⟩
theorem sc__law_like : FnScope ["_law_found", "_law_due", "_law_k", "_law_key"] ["_law_found", "_law_due"] (defScope s__law_like) := ⟨rfl, rfl, rfl, by decide +kernel, rfl, by decide +kernel, by decide +kernel⟩
theorem okn__law_like (T : Tx K mg cs)  : ∀ n, Df P w K mg base cs (2 + n) (He.ga K "_law_like") (sn__law_like n (ca K)) := by
  have body : ∀ (n : Nat) (me : SpD) (_ : Df P w K mg base cs (1 + n) (He.ga K "_law_like") me) (_ : n = 0 ∨ ∃ m, n = m + 1 ∧ me = sn__law_like m (ca K)), Df P w K mg base cs (1 + n + 1) (He.ga K "_law_like") (sn__law_like n (ca K)) := by
    intro n me D_me hme
    refine df_of (sn__law_like n (ca K)) T.F__law_like sc__law_like (len__law_like n (ca K)) (fun fd cdv A outer s H E Ed hr wl hp => ?_)
    have nd := sc__law_like.nd
    exact ⟨t__law_like me (ca K) Ed, (pssd_cons (psd_if (ptd_val (pd_callB call_isiG T.n_isinstance (pad_cons (pd_var 1) (pad_cons (pd_gty T.n_bool (by decide +kernel)) pad_nil)))) (pssd_one (psd_ret (pd_and (pd_callB call_isiG T.n_isinstance (pad_cons (pd_var 0) (pad_cons (pd_gty T.n_bool (by decide +kernel)) pad_nil))) (pd_one (pd_cmp (op_eqG hr.units) (pd_var 0) (pd_var 1)))))) pssd_nil)
    (pssd_cons (psd_if (ptd_val (pd_callB call_isiG T.n_isinstance (pad_cons (pd_var 1) (pad_cons (pd_gty T.n_str (by decide +kernel)) pad_nil)))) (pssd_one (psd_ret (pd_and (pd_callB call_isiG T.n_isinstance (pad_cons (pd_var 0) (pad_cons (pd_gty T.n_str (by decide +kernel)) pad_nil))) (pd_one (pd_cmp (op_eqG hr.units) (pd_var 0) (pd_var 1)))))) pssd_nil)
    (pssd_cons (psd_if (ptd_val (pd_callB call_isiG T.n_isinstance (pad_cons (pd_var 1) (pad_cons (pd_gty T.n_int (by decide +kernel)) pad_nil)))) (pssd_one (psd_ret (pd_and (pd_callB call_isiG T.n_isinstance (pad_cons (pd_var 0) (pad_cons (pd_gty T.n_int (by decide +kernel)) pad_nil))) (pd_and (pd_not (pd_callB call_isiG T.n_isinstance (pad_cons (pd_var 0) (pad_cons (pd_gty T.n_bool (by decide +kernel)) pad_nil)))) (pd_one (pd_cmp (op_eqG hr.units) (pd_var 0) (pd_var 1))))))) pssd_nil)
    (pssd_cons (psd_if (ptd_cmp op_isG (pd_var 1) pd_non) (pssd_one (psd_ret (pd_cmp op_isG (pd_var 0) pd_non))) pssd_nil)
    (pssd_cons (psd_if (ptd_val (pd_callB call_isiG T.n_isinstance (pad_cons (pd_var 1) (pad_cons (pd_gty T.n_dict (by decide +kernel)) pad_nil)))) (pssd_cons (psd_if (PWD.pt (pwd_or (ptd_not (ptd_val (pd_callB call_isiG T.n_isinstance (pad_cons (pd_var 0) (pad_cons (pd_gty T.n_dict (by decide +kernel)) pad_nil))))) (pwd_or1 (ptd_cmp (op_neG hr.units) (pd_callB call_lenG T.n_len (pad_cons (pd_var 0) pad_nil)) (pd_callB call_lenG T.n_len (pad_cons (pd_var 1) pad_nil)))))) (pssd_one (psd_ret pd_bl)) pssd_nil)
    (pssd_one (psd_ret (pd_cmp (op_eqG hr.units) (pd_lc [("_law_key", 3)] rfl nd (pid_list (pd_var 1)) (fun _ _ _ _ _ => (pgd_name 3 nd)) (fun _ _ _ _ _ => (ptsd_one (PWD.pt (pwd_or (ptd_cmp (op_notInG hr.units65) (pd_var 3) (pd_var 0)) (pwd_or1 (ptd_not (ptd_val (pd_call D_me (hr.mono (by omega)) wish0 T.g__law_like (pad_cons (pd_ix (hu_of hr) (pd_var 0) (pd_var 3)) (pad_cons (pd_ix (hu_of hr) (pd_var 1) (pd_var 3)) pad_nil)))))))))) (fun _ _ _ _ _ => (pd_var 3))) (pd_lst pad_nil))))) pssd_nil)
    (pssd_cons (psd_if (PWD.pt (pwd_or (ptd_cmp (op_neG hr.units) (pd_callB call_isiG T.n_isinstance (pad_cons (pd_var 1) (pad_cons (pd_gty T.n_tuple (by decide +kernel)) pad_nil))) (pd_callB call_isiG T.n_isinstance (pad_cons (pd_var 0) (pad_cons (pd_gty T.n_tuple (by decide +kernel)) pad_nil)))) (pwd_or1 (ptd_cmp (op_neG hr.units) (pd_callB call_isiG T.n_isinstance (pad_cons (pd_var 1) (pad_cons (pd_gty T.n_list (by decide +kernel)) pad_nil))) (pd_callB call_isiG T.n_isinstance (pad_cons (pd_var 0) (pad_cons (pd_gty T.n_list (by decide +kernel)) pad_nil))))))) (pssd_one (psd_ret pd_bl)) pssd_nil)
    (pssd_cons (psd_if (ptd_cmp (op_neG hr.units) (pd_callB call_lenG T.n_len (pad_cons (pd_var 0) pad_nil)) (pd_callB call_lenG T.n_len (pad_cons (pd_var 1) pad_nil))) (pssd_one (psd_ret pd_bl)) pssd_nil)
    (pssd_cons (psd_for hp rfl (pid_rng1 T.n_range (pad_cons (pd_callB call_lenG T.n_len (pad_cons (pd_var 1) pad_nil)) pad_nil)) (pgd_name 2 nd)
    (pssd_one (psd_if (ptd_not (ptd_val (pd_call D_me (hr.mono (by omega)) wl T.g__law_like (pad_cons (pd_ix (hu_of hr) (pd_var 0) (pd_var 2)) (pad_cons (pd_ix (hu_of hr) (pd_var 1) (pd_var 2)) pad_nil))))) (pssd_one (psd_ret pd_bl)) pssd_nil)))
    (pssd_one (psd_ret pd_bl)))))))))), fun ds Hd Qd h => rd__law_like (ca K) n me hme Ed ds Hd Qd h⟩
  intro n
  induction n with
  | zero => exact (body 0 _ (df_false T.F__law_like sc__law_like) (.inl rfl)).mono (by omega)
  | succ m ih => exact (body (m + 1) _ (ih.mono (by omega)) (.inr ⟨m, rfl, rfl⟩)).mono (by omega)
theorem ok__law_like (T : Tx K mg cs)  : Df P w K mg base cs 10 (He.ga K "_law_like") (sp__law_like (ca K)) := okn__law_like T  8
theorem sc__law_next : FnScope ["_law_dice_here", "_law_many", "_law_found", "_law_cell"] ["_law_dice_here", "_law_many"] (defScope s__law_next) := ⟨rfl, rfl, rfl, by decide +kernel, rfl, by decide +kernel, by decide +kernel⟩
theorem ok__law_next (T : Tx K mg cs)  : Df P w K mg base cs 1 (He.ga K "_law_next") (sp__law_next (ca K)) := by
  refine df_of (sp__law_next (ca K)) T.F__law_next sc__law_next (len__law_next (ca K)) (fun fd cdv A outer s H E Ed hr wl hp => ?_)
  have nd := sc__law_next.nd
  exact ⟨t__law_next (ca K) Ed, (pssd_cons (psd_if (ptd_cmp op_gtD (pd_ix (hu_of hr) (pd_var 0) pd_int) pd_int) (pssd_cons (psd_set 2 nd (pd_op op_modD (pd_ix (hu_of hr) (pd_var 0) pd_int) (pd_var 1)))
    (pssd_cons (psd_sub (hu_of hr) (pd_op op_divD (pd_ix (hu_of hr) (pd_var 0) pd_int) (pd_var 1)) (pd_var 0) pd_int)
    (pssd_one (psd_ret (pd_var 2))))) pssd_nil)
    (pssd_cons (psd_sub (hu_of hr) (pd_op op_addD (pd_ix (hu_of hr) (pd_var 0) pd_int) pd_int) (pd_var 0) pd_int)
    (pssd_cons (psd_if (ptd_cmp op_leD (pd_ix (hu_of hr) (pd_var 0) pd_int) (pd_callB call_lenG T.n_len (pad_cons (pd_ix (hu_of hr) (pd_var 0) pd_int) pad_nil))) (pssd_cons (psd_set 3 nd (pd_ix (hu_of hr) (pd_ix (hu_of hr) (pd_var 0) pd_int) (pd_op op_subD (pd_ix (hu_of hr) (pd_var 0) pd_int) pd_int)))
    (pssd_cons (psd_sub (hu_of hr) (pd_if (ptd_cmp op_geD (pd_var 3) (pd_op op_powD pd_int pd_int)) (pd_op op_divD (pd_var 3) (pd_var 1)) pd_int) (pd_var 0) pd_int)
    (pssd_one (psd_ret (pd_op op_modD (pd_var 3) (pd_var 1)))))) pssd_nil)
    (pssd_cons (psd_sub (hu_of hr) (pd_op op_modD (pd_op op_mulD (pd_ix (hu_of hr) (pd_var 0) pd_int) pd_int) pd_int) (pd_var 0) pd_int)
    (pssd_one (psd_ret (pd_op op_modD (pd_op op_divD (pd_ix (hu_of hr) (pd_var 0) pd_int) pd_int) (pd_var 1)))))))), fun ds Hd Qd h => rd__law_next (ca K) Ed ds Hd Qd h⟩
theorem sc__law_reach : FnScope ["_law_roads", "_law_numbers", "_law_begin", "_law_found", "_law_turn", "_law_number", "_law_one", "_law_other", "_law_cost"] ["_law_roads", "_law_numbers", "_law_begin"] (defScope s__law_reach) := ⟨rfl, rfl, rfl, by decide +kernel, rfl, by decide +kernel, by decide +kernel⟩
theorem ok__law_reach (T : Tx K mg cs)  : Df P w K mg base cs 1 (He.ga K "_law_reach") (sp__law_reach (ca K)) := by
  refine df_of (sp__law_reach (ca K)) T.F__law_reach sc__law_reach (len__law_reach (ca K)) (fun fd cdv A outer s H E Ed hr wl hp => ?_)
  have nd := sc__law_reach.nd
  exact ⟨t__law_reach (ca K) Ed, (pssd_cons (psd_set 3 nd (pd_lst (pad_cons (pd_var 2) pad_nil)))
    (pssd_cons (psd_for hp rfl (pid_rng1 T.n_range (pad_cons (pd_callB call_lenG T.n_len (pad_cons (pd_var 1) pad_nil)) pad_nil)) (pgd_name 4 nd)
    (pssd_one (psd_for hp rfl (pid_list (pd_var 1)) (pgd_name 5 nd)
    (pssd_cons (psd_asg (pd_ix (hu_of hr) (pd_var 0) (pd_var 5)) (pgd_tup rfl (pgsd_cons (pgd_name 6 nd) (pgsd_cons (pgd_name 7 nd) (pgsd_cons (pgd_name 8 nd) pgsd_nil)))))
    (pssd_one (psd_if (ptd_cmp (op_neG hr.units) (pd_cmp (op_inG hr.units65) (pd_var 6) (pd_var 3)) (pd_cmp (op_inG hr.units65) (pd_var 7) (pd_var 3))) (pssd_one (psd_expr (pd_bm PySem.F.slot_list_append PySem.F.type_list_append m_append (pd_var 3) (pad_cons (pd_ix (hu_of hr) (pd_lst (pad_cons (pd_var 6) (pad_cons (pd_var 7) pad_nil))) (pd_callTy call_intG T.n_int (pad_cons (pd_cmp (op_inG hr.units65) (pd_var 6) (pd_var 3)) pad_nil))) pad_nil)))) pssd_nil))))))
    (pssd_one (psd_ret (pd_callB (call_sortedG rfl) T.n_sorted (pad_cons (pd_var 3) pad_nil)))))), fun ds Hd Qd h => rd__law_reach (ca K) Ed ds Hd Qd h⟩
theorem sc__law_refused : FnScope ["_law_work", "_law_e"] ["_law_work"] (defScope s__law_refused) := ⟨rfl, rfl, rfl, by decide +kernel, rfl, by decide +kernel, by decide +kernel⟩

theorem sc__law_tree : FnScope ["_law_roads", "_law_pieces", "_law_found", "_law_cost", "_law_number", "_law_one", "_law_other", "_law_hand"] ["_law_roads"] (defScope s__law_tree) := ⟨rfl, rfl, rfl, by decide +kernel, rfl, by decide +kernel, by decide +kernel⟩
theorem ok__law_tree (T : Tx K mg cs)  : Df P w K mg base cs 1 (He.ga K "_law_tree") (sp__law_tree (ca K)) := by
  refine df_of (sp__law_tree (ca K)) T.F__law_tree sc__law_tree (len__law_tree (ca K)) (fun fd cdv A outer s H E Ed hr wl hp => ?_)
  have nd := sc__law_tree.nd
  exact ⟨t__law_tree (ca K) Ed, (pssd_cons (psd_set 1 nd pd_newK)
    (pssd_cons (psd_set 2 nd (pd_lst pad_nil))
    (pssd_cons (psd_for hp rfl (pid_list (pd_callB (call_sortedG rfl) T.n_sorted (pad_cons (pd_lc [("_law_number", 4)] rfl nd (pid_rng1 T.n_range (pad_cons (pd_callB call_lenG T.n_len (pad_cons (pd_var 0) pad_nil)) pad_nil)) (fun _ _ _ _ _ => (pgd_name 4 nd)) (fun _ _ _ _ _ => ptsd_nil) (fun _ _ _ _ _ => (pd_tup (pad_cons (pd_ix (hu_of hr) (pd_ix (hu_of hr) (pd_var 0) (pd_var 4)) pd_int) (pad_cons (pd_var 4) pad_nil))))) pad_nil))) (pgd_tup rfl (pgsd_cons (pgd_name 3 nd) (pgsd_cons (pgd_name 4 nd) pgsd_nil)))
    (pssd_cons (psd_set 5 nd (pd_get2 (hu_of hr) (pd_var 1) (pd_ix (hu_of hr) (pd_ix (hu_of hr) (pd_var 0) (pd_var 4)) pd_int) (pd_lst (pad_cons (pd_ix (hu_of hr) (pd_ix (hu_of hr) (pd_var 0) (pd_var 4)) pd_int) pad_nil)) ⟨rfl, rfl, rfl, rfl⟩))
    (pssd_cons (psd_set 6 nd (pd_get2 (hu_of hr) (pd_var 1) (pd_ix (hu_of hr) (pd_ix (hu_of hr) (pd_var 0) (pd_var 4)) pd_int) (pd_lst (pad_cons (pd_ix (hu_of hr) (pd_ix (hu_of hr) (pd_var 0) (pd_var 4)) pd_int) pad_nil)) ⟨rfl, rfl, rfl, rfl⟩))
    (pssd_one (psd_if (ptd_cmp (op_notInG hr.units65) (pd_ix (hu_of hr) (pd_ix (hu_of hr) (pd_var 0) (pd_var 4)) pd_int) (pd_var 5)) (pssd_cons (psd_expr (pd_bm PySem.F.slot_list_append PySem.F.type_list_append m_append (pd_var 2) (pad_cons (pd_var 4) pad_nil)))
    (pssd_one (psd_for hp rfl (pid_list (pd_op op_addD (pd_var 5) (pd_var 6))) (pgd_name 7 nd)
    (pssd_one (psd_sub (hu_of hr) (pd_op op_addD (pd_var 5) (pd_var 6)) (pd_var 1) (pd_var 7)))))) pssd_nil)))))
    (pssd_one (psd_ret (pd_callB (call_sortedG rfl) T.n_sorted (pad_cons (pd_var 2) pad_nil))))))), fun ds Hd Qd h => rd__law_tree (ca K) Ed ds Hd Qd h⟩
theorem sc__law_web : FnScope ["_law_d", "_law_most", "_law_hands", "_law_left", "_law_order", "_law_pairs", "_law_k", "_law_pair", "_law_j", "_law_costs"] ["_law_d", "_law_most"] (defScope s__law_web) := ⟨rfl, rfl, rfl, by decide +kernel, rfl, by decide +kernel, by decide +kernel⟩
theorem ok__law_web (T : Tx K mg cs) (D__law_next : Df P w K mg base cs 1 (He.ga K "_law_next") (sp__law_next (ca K))) : Df P w K mg base cs 2 (He.ga K "_law_web") (sp__law_web (ca K)) := by
  refine df_of (sp__law_web (ca K)) T.F__law_web sc__law_web (len__law_web (ca K)) (fun fd cdv A outer s H E Ed hr wl hp => ?_)
  have nd := sc__law_web.nd
  exact ⟨t__law_web (ca K) Ed, (pssd_cons (psd_set 2 nd (pd_op op_addD pd_int (pd_call D__law_next (hr.mono (by decide)) wl T.g__law_next (pad_cons (pd_var 0) (pad_cons (pd_var 1) pad_nil)))))
    (pssd_cons (psd_set 3 nd (pd_lr1 rfl T.n_list T.n_range (pd_var 2)))
    (pssd_cons (psd_setLc 4 [("_law_k", 6)] rfl nd (pid_rng1 T.n_range (pad_cons (pd_var 2) pad_nil)) (fun _ _ _ _ _ => (pgd_name 6 nd)) (fun _ _ _ _ _ => ptsd_nil) (fun _ _ _ _ _ => (pd_bm PySem.F.slot_list_pop PySem.F.type_list_pop m_popI (pd_var 3) (pad_cons (pd_call D__law_next (hr.mono (by decide)) wish0 T.g__law_next (pad_cons (pd_var 0) (pad_cons (pd_callB call_lenG T.n_len (pad_cons (pd_var 3) pad_nil)) pad_nil))) pad_nil))))
    (pssd_cons (psd_set 5 nd (pd_lst pad_nil))
    (pssd_cons (psd_for hp rfl (pid_rng2 T.n_range (pad_cons pd_int (pad_cons (pd_var 2) pad_nil))) (pgd_name 6 nd)
    (pssd_one (psd_expr (pd_bm PySem.F.slot_list_insert PySem.F.type_list_insert m_insert (pd_var 5) (pad_cons (pd_call D__law_next (hr.mono (by decide)) wl T.g__law_next (pad_cons (pd_var 0) (pad_cons (pd_op op_addD (pd_callB call_lenG T.n_len (pad_cons (pd_var 5) pad_nil)) pd_int) pad_nil))) (pad_cons (pd_callTy call_tupleG T.n_tuple (pad_cons (pd_callB (call_sortedG rfl) T.n_sorted (pad_cons (pd_lst (pad_cons (pd_ix (hu_of hr) (pd_var 4) (pd_call D__law_next (hr.mono (by decide)) wl T.g__law_next (pad_cons (pd_var 0) (pad_cons (pd_var 6) pad_nil)))) (pad_cons (pd_ix (hu_of hr) (pd_var 4) (pd_var 6)) pad_nil))) pad_nil)) pad_nil)) pad_nil))))))
    (pssd_cons (psd_for hp rfl (pid_rng1 T.n_range (pad_cons (pd_call D__law_next (hr.mono (by decide)) wl T.g__law_next (pad_cons (pd_var 0) (pad_cons (pd_callB (call_minG rfl) T.n_min (pad_cons pd_int (pad_cons (pd_op op_mulD pd_int (pd_var 2)) pad_nil))) pad_nil))) pad_nil)) (pgd_name 6 nd)
    (pssd_cons (psd_set 7 nd (pd_callTy call_tupleG T.n_tuple (pad_cons (pd_callB (call_sortedG rfl) T.n_sorted (pad_cons (pd_lst (pad_cons (pd_call D__law_next (hr.mono (by decide)) wl T.g__law_next (pad_cons (pd_var 0) (pad_cons (pd_var 2) pad_nil))) (pad_cons (pd_call D__law_next (hr.mono (by decide)) wl T.g__law_next (pad_cons (pd_var 0) (pad_cons (pd_var 2) pad_nil))) pad_nil))) pad_nil)) pad_nil)))
    (pssd_one (psd_if (PWD.pt (pwd_and (ptd_cmp op_ltD (pd_ix (hu_of hr) (pd_var 7) pd_int) (pd_ix (hu_of hr) (pd_var 7) pd_int)) (pwd_and1 (ptd_cmp (op_notInG hr.units65) (pd_var 7) (pd_var 5))))) (pssd_one (psd_expr (pd_bm PySem.F.slot_list_insert PySem.F.type_list_insert m_insert (pd_var 5) (pad_cons (pd_call D__law_next (hr.mono (by decide)) wl T.g__law_next (pad_cons (pd_var 0) (pad_cons (pd_op op_addD (pd_callB call_lenG T.n_len (pad_cons (pd_var 5) pad_nil)) pd_int) pad_nil))) (pad_cons (pd_var 7) pad_nil))))) pssd_nil))))
    (pssd_cons (psd_for hp rfl (pid_rng1 T.n_range (pad_cons (pd_op op_mulD (pd_var 2) (pd_callTy call_intG T.n_int (pad_cons (pd_cmp (op_eqG hr.units) (pd_call D__law_next (hr.mono (by decide)) wl T.g__law_next (pad_cons (pd_var 0) (pad_cons pd_int pad_nil))) pd_int) pad_nil))) pad_nil)) (pgd_name 6 nd)
    (pssd_one (psd_for hp rfl (pid_rng1 T.n_range (pad_cons (pd_var 6) pad_nil)) (pgd_name 8 nd)
    (pssd_one (psd_if (PWD.pt (pwd_and (ptd_cmp (op_notInG hr.units65) (pd_tup (pad_cons (pd_var 8) (pad_cons (pd_var 6) pad_nil))) (pd_var 5)) (pwd_and1 (ptd_cmp op_ltD (pd_callB call_lenG T.n_len (pad_cons (pd_var 5) pad_nil)) pd_int)))) (pssd_one (psd_expr (pd_bm PySem.F.slot_list_insert PySem.F.type_list_insert m_insert (pd_var 5) (pad_cons (pd_call D__law_next (hr.mono (by decide)) wl T.g__law_next (pad_cons (pd_var 0) (pad_cons (pd_op op_addD (pd_callB call_lenG T.n_len (pad_cons (pd_var 5) pad_nil)) pd_int) pad_nil))) (pad_cons (pd_tup (pad_cons (pd_var 8) (pad_cons (pd_var 6) pad_nil))) pad_nil))))) pssd_nil)))))
    (pssd_cons (psd_set 9 nd (pd_lr2 rfl T.n_list T.n_range pd_int pd_int))
    (pssd_one (psd_ret (pd_tup (pad_cons (pd_var 2) (pad_cons (pd_lc [("_law_pair", 7)] rfl nd (pid_list (pd_var 5)) (fun _ _ _ _ _ => (pgd_name 7 nd)) (fun _ _ _ _ _ => ptsd_nil) (fun _ _ _ _ _ => (pd_op op_addD (pd_var 7) (pd_tup (pad_cons (pd_bm PySem.F.slot_list_pop PySem.F.type_list_pop m_popI (pd_var 9) (pad_cons (pd_call D__law_next (hr.mono (by decide)) wish0 T.g__law_next (pad_cons (pd_var 0) (pad_cons (pd_callB call_lenG T.n_len (pad_cons (pd_var 9) pad_nil)) pad_nil))) pad_nil)) pad_nil))))) pad_nil))))))))))))), fun ds Hd Qd h => rd__law_web (ca K) Ed ds Hd Qd h⟩
theorem sc_Web_roads : FnScope ["self"] ["self"] (defScope s_Web_roads) := ⟨rfl, rfl, rfl, by decide +kernel, rfl, by decide +kernel, by decide +kernel⟩
theorem ok_Web_roads (T : Tx K mg cs)  : Df P w K mg base cs 1 (He.ma K (He.ga K "Web") "roads") (sp_Web_roads (ca K)) := by
  refine df_of (sp_Web_roads (ca K)) T.F_Web_roads sc_Web_roads (len_Web_roads (ca K)) (fun fd cdv A outer s H E Ed hr wl hp => ?_)
  have nd := sc_Web_roads.nd
  exact ⟨t_Web_roads (ca K) Ed, (pssd_one (psd_ret (pd_callTy call_listG T.n_list (pad_cons (pd_fld T.G _ T.h_Web 1 (pd_var 0)) pad_nil)))), fun ds Hd Qd h => rd_Web_roads (ca K) Ed ds Hd Qd h⟩
theorem sc_need_road : FnScope ["web", "number"] ["web", "number"] (defScope s_need_road) := ⟨rfl, rfl, rfl, by decide +kernel, rfl, by decide +kernel, by decide +kernel⟩
theorem ok_need_road (T : Tx K mg cs) (D_Web_roads : Df P w K mg base cs 1 (He.ma K (He.ga K "Web") "roads") (sp_Web_roads (ca K))) : Df P w K mg base cs 2 (He.ga K "need_road") (sp_need_road (ca K)) := by
  refine df_of (sp_need_road (ca K)) T.F_need_road sc_need_road (len_need_road (ca K)) (fun fd cdv A outer s H E Ed hr wl hp => ?_)
  have nd := sc_need_road.nd
  exact ⟨t_need_road (ca K) Ed, (pssd_one (psd_if (ptd_not (ptd_chain op_leD op_ltD pd_int (pd_var 1) (pd_callB call_lenG T.n_len (pad_cons (pd_meth0 T.G T.h_Web T.t_Web_roads D_Web_roads (hr.mono (by decide)) wl (pd_var 0)) pad_nil)))) (pssd_one (psd_raiN rfl wl T.x_NoRoad T.g_NoRoad)) pssd_nil)), fun ds Hd Qd h => rd_need_road (ca K) Ed ds Hd Qd h⟩
theorem sc_tree : FnScope ["web", "found", "kept", "cost", "number", "one", "other", "road"] ["web"] (defScope s_tree) := ⟨rfl, rfl, rfl, by decide +kernel, rfl, by decide +kernel, by decide +kernel⟩
theorem ok_tree (T : Tx K mg cs) (D_Web_roads : Df P w K mg base cs 1 (He.ma K (He.ga K "Web") "roads") (sp_Web_roads (ca K))) (D_led_to : Df P w K mg base cs 1 (He.ga K "led_to") (sp_led_to (ca K))) : Df P w K mg base cs 2 (He.ga K "tree") (sp_tree (ca K)) := by
  refine df_of (sp_tree (ca K)) T.F_tree sc_tree (len_tree (ca K)) (fun fd cdv A outer s H E Ed hr wl hp => ?_)
  have nd := sc_tree.nd
  exact ⟨t_tree (ca K) Ed, (pssd_cons (psd_set 1 nd (pd_lst pad_nil))
    (pssd_cons (psd_set 2 nd (pd_lst pad_nil))
    (pssd_cons (psd_for hp rfl (pid_list (pd_callB (call_sortedG rfl) T.n_sorted (pad_cons (pd_lc [("number", 4), ("road", 7)] rfl nd (pid_enum T.n_enumerate (pad_cons (pd_meth0 T.G T.h_Web T.t_Web_roads D_Web_roads (hr.mono (by decide)) wl (pd_var 0)) pad_nil)) (fun _ _ _ _ _ => (pgd_tup rfl (pgsd_cons (pgd_name 4 nd) (pgsd_cons (pgd_name 7 nd) pgsd_nil)))) (fun _ _ _ _ _ => ptsd_nil) (fun _ _ _ _ _ => (pd_tup (pad_cons (pd_ix (hu_of hr) (pd_var 7) pd_int) (pad_cons (pd_var 4) pad_nil))))) pad_nil))) (pgd_tup rfl (pgsd_cons (pgd_name 3 nd) (pgsd_cons (pgd_name 4 nd) pgsd_nil)))
    (pssd_cons (psd_asg (pd_ix (hu_of hr) (pd_meth0 T.G T.h_Web T.t_Web_roads D_Web_roads (hr.mono (by decide)) wl (pd_var 0)) (pd_var 4)) (pgd_tup rfl (pgsd_cons (pgd_name 5 nd) (pgsd_cons (pgd_name 6 nd) (pgsd_cons (pgd_name 3 nd) pgsd_nil)))))
    (pssd_one (psd_if (ptd_cmp (op_notInG hr.units65) (pd_var 6) (pd_call D_led_to (hr.mono (by decide)) wl T.g_led_to (pad_cons (pd_var 2) (pad_cons (pd_var 5) pad_nil)))) (pssd_cons (psd_expr (pd_bm PySem.F.slot_list_append PySem.F.type_list_append m_append (pd_var 2) (pad_cons (pd_ix (hu_of hr) (pd_meth0 T.G T.h_Web T.t_Web_roads D_Web_roads (hr.mono (by decide)) wl (pd_var 0)) (pd_var 4)) pad_nil)))
    (pssd_one (psd_expr (pd_bm PySem.F.slot_list_append PySem.F.type_list_append m_append (pd_var 1) (pad_cons (pd_var 4) pad_nil))))) pssd_nil))))
    (pssd_one (psd_ret (pd_callB (call_sortedG rfl) T.n_sorted (pad_cons (pd_var 1) pad_nil))))))), fun ds Hd Qd h => rd_tree (ca K) Ed ds Hd Qd h⟩
theorem sc_instead : FnScope ["web", "number", "numbers", "one", "other", "cost", "ways", "waiting", "here", "at", "near", "far", "price", "begin", "end"] ["web", "number"] (defScope s_instead) := ⟨rfl, rfl, rfl, by decide +kernel, rfl, by decide +kernel, by decide +kernel⟩
theorem ok_instead (T : Tx K mg cs) (D_Web_roads : Df P w K mg base cs 1 (He.ma K (He.ga K "Web") "roads") (sp_Web_roads (ca K))) (D_need_road : Df P w K mg base cs 2 (He.ga K "need_road") (sp_need_road (ca K))) (D_tree : Df P w K mg base cs 2 (He.ga K "tree") (sp_tree (ca K))) : Df P w K mg base cs 3 (He.ga K "instead") (sp_instead (ca K)) := by
  refine df_of (sp_instead (ca K)) T.F_instead sc_instead (len_instead (ca K)) (fun fd cdv A outer s H E Ed hr wl hp => ?_)
  have nd := sc_instead.nd
  exact ⟨t_instead (ca K) Ed, (pssd_cons (psd_expr (pd_call D_need_road (hr.mono (by decide)) wl T.g_need_road (pad_cons (pd_var 0) (pad_cons (pd_var 1) pad_nil))))
    (pssd_cons (psd_set 2 nd (pd_call D_tree (hr.mono (by decide)) wl T.g_tree (pad_cons (pd_var 0) pad_nil)))
    (pssd_cons (psd_if (ptd_cmp (op_inG hr.units65) (pd_var 1) (pd_var 2)) (pssd_one (psd_ret pd_non)) pssd_nil)
    (pssd_cons (psd_asg (pd_ix (hu_of hr) (pd_meth0 T.G T.h_Web T.t_Web_roads D_Web_roads (hr.mono (by decide)) wl (pd_var 0)) (pd_var 1)) (pgd_tup rfl (pgsd_cons (pgd_name 3 nd) (pgsd_cons (pgd_name 4 nd) (pgsd_cons (pgd_name 5 nd) pgsd_nil)))))
    (pssd_cons (psd_set 6 nd (pd_disp1 (pd_var 3) (pd_lst pad_nil)))
    (pssd_cons (psd_set 7 nd (pd_lst (pad_cons (pd_var 3) pad_nil)))
    (pssd_cons (psd_while hp (ptd_cmp (op_neG hr.units) (pd_var 7) (pd_lst pad_nil))
    (pssd_cons (psd_set 8 nd (pd_bm0 PySem.F.slot_list_pop PySem.F.type_list_pop m_pop0 (pd_var 7)))
    (pssd_one (psd_for hp rfl (pid_list (pd_var 2)) (pgd_name 9 nd)
    (pssd_cons (psd_asg (pd_ix (hu_of hr) (pd_meth0 T.G T.h_Web T.t_Web_roads D_Web_roads (hr.mono (by decide)) wl (pd_var 0)) (pd_var 9)) (pgd_tup rfl (pgsd_cons (pgd_name 10 nd) (pgsd_cons (pgd_name 11 nd) (pgsd_cons (pgd_name 12 nd) pgsd_nil)))))
    (pssd_one (psd_for hp rfl (pid_list (pd_lst (pad_cons (pd_tup (pad_cons (pd_var 10) (pad_cons (pd_var 11) pad_nil))) (pad_cons (pd_tup (pad_cons (pd_var 11) (pad_cons (pd_var 10) pad_nil))) pad_nil)))) (pgd_tup rfl (pgsd_cons (pgd_name 13 nd) (pgsd_cons (pgd_name 14 nd) pgsd_nil)))
    (pssd_one (psd_if (PWD.pt (pwd_and (ptd_cmp (op_eqG hr.units) (pd_var 13) (pd_var 8)) (pwd_and1 (ptd_cmp (op_notInG hr.units65) (pd_var 14) (pd_var 6))))) (pssd_cons (psd_sub (hu_of hr) (pd_op op_addD (pd_ix (hu_of hr) (pd_var 6) (pd_var 8)) (pd_lst (pad_cons (pd_var 9) pad_nil))) (pd_var 6) (pd_var 14))
    (pssd_one (psd_expr (pd_bm PySem.F.slot_list_append PySem.F.type_list_append m_append (pd_var 7) (pad_cons (pd_var 14) pad_nil))))) pssd_nil)))))))))
    (pssd_one (psd_ret (pd_ix (hu_of hr) (pd_var 6) (pd_var 4))))))))))), fun ds Hd Qd h => rd_instead (ca K) Ed ds Hd Qd h⟩
theorem sc_side : FnScope ["web", "number", "numbers", "left", "at"] ["web", "number"] (defScope s_side) := ⟨rfl, rfl, rfl, by decide +kernel, rfl, by decide +kernel, by decide +kernel⟩
theorem ok_side (T : Tx K mg cs) (D_Web_roads : Df P w K mg base cs 1 (He.ma K (He.ga K "Web") "roads") (sp_Web_roads (ca K))) (D_led_to : Df P w K mg base cs 1 (He.ga K "led_to") (sp_led_to (ca K))) (D_need_road : Df P w K mg base cs 2 (He.ga K "need_road") (sp_need_road (ca K))) (D_tree : Df P w K mg base cs 2 (He.ga K "tree") (sp_tree (ca K))) : Df P w K mg base cs 3 (He.ga K "side") (sp_side (ca K)) := by
  refine df_of (sp_side (ca K)) T.F_side sc_side (len_side (ca K)) (fun fd cdv A outer s H E Ed hr wl hp => ?_)
  have nd := sc_side.nd
  exact ⟨t_side (ca K) Ed, (pssd_cons (psd_expr (pd_call D_need_road (hr.mono (by decide)) wl T.g_need_road (pad_cons (pd_var 0) (pad_cons (pd_var 1) pad_nil))))
    (pssd_cons (psd_set 2 nd (pd_call D_tree (hr.mono (by decide)) wl T.g_tree (pad_cons (pd_var 0) pad_nil)))
    (pssd_cons (psd_if (ptd_cmp (op_notInG hr.units65) (pd_var 1) (pd_var 2)) (pssd_one (psd_ret pd_non)) pssd_nil)
    (pssd_cons (psd_setLc 3 [("at", 4)] rfl nd (pid_list (pd_var 2)) (fun _ _ _ _ _ => (pgd_name 4 nd)) (fun _ _ _ _ _ => (ptsd_one (ptd_cmp (op_neG hr.units) (pd_var 4) (pd_var 1)))) (fun _ _ _ _ _ => (pd_ix (hu_of hr) (pd_meth0 T.G T.h_Web T.t_Web_roads D_Web_roads (hr.mono (by decide)) wish0 (pd_var 0)) (pd_var 4))))
    (pssd_one (psd_ret (pd_callB (call_sortedG rfl) T.n_sorted (pad_cons (pd_call D_led_to (hr.mono (by decide)) wl T.g_led_to (pad_cons (pd_var 3) (pad_cons (pd_ix (hu_of hr) (pd_ix (hu_of hr) (pd_meth0 T.G T.h_Web T.t_Web_roads D_Web_roads (hr.mono (by decide)) wl (pd_var 0)) (pd_var 1)) pd_int) pad_nil))) pad_nil)))))))), fun ds Hd Qd h => rd_side (ca K) Ed ds Hd Qd h⟩
def lamT_law_0 : LamT := xLam none (xA 0 (xB 0 (xS 7 s_law)))
theorem lamok_law_0 : LamOk ["_law_script", "_law_d", "_law_hands", "_law_roads", "_law_web_here", "_law_due", "_law_turn", "_law_found", "_law_number", "_law_one", "_law_other", "_law_cost", "_law_left", "_law_told", "_law_kept", "_law_bad", "_law_at"] (defScope s_law) lamT_law_0 17 := lamOk_of (by decide +kernel) (fun _ q cl doc pm cv ct s => BindsTo.of_eq rfl) (fun x n hx => by cases hx)
def lamT_law_1 : LamT := xLam (some ("_law_one", 0)) (xA 0 (xB 1 (xS 7 s_law)))
theorem lamok_law_1 : LamOk ["_law_script", "_law_d", "_law_hands", "_law_roads", "_law_web_here", "_law_due", "_law_turn", "_law_found", "_law_number", "_law_one", "_law_other", "_law_cost", "_law_left", "_law_told", "_law_kept", "_law_bad", "_law_at"] (defScope s_law) lamT_law_1 9 := lamOk_of (by decide +kernel) (fun hx => by cases hx) (fun x n hx => by
    cases hx
    intro q cl t doc pm cv ct v o m s ho hd
    exact BindsTo.of_defaults rfl ho hd rfl rfl)
def lamF_law : Nat → LamT := fun | 0 => lamT_law_0 | _ => lamT_law_1
abbrev lamQ_law : Str := (envOfC "law" (defScope s_law) 0 0 .none).qual ++ "<lambda>"
abbrev lmP_law (K : PySem.W.Frag) (z : Nat) : LmP := ⟨(He.cT K ("law", none)).2, lamQ_law, (envOfC "law" (defScope s_law) z (He.ga K "law") (.ref (He.codeOf K ("law", none)))).cells, lamF_law⟩
theorem sc_law : FnScope ["_law_script", "_law_d", "_law_hands", "_law_roads", "_law_web_here", "_law_due", "_law_turn", "_law_found", "_law_number", "_law_one", "_law_other", "_law_cost", "_law_left", "_law_told", "_law_kept", "_law_bad", "_law_at"] ["_law_script"] (defScope s_law) := ⟨rfl, rfl, rfl, by decide +kernel, rfl, by decide +kernel, by decide +kernel⟩
theorem fn_law (T : Tx K mg cs) (TB : TabB base mg (He.cT K ("law", none)).1 (He.cT K ("law", none)).2) (D_Web_init : Df P w K mg base cs 3 (He.ma K (He.ga K "Web") "__init__") (sp_Web_init (ca K))) (D__law_dice : Df P w K mg base cs 1 (He.ga K "_law_dice") (sp__law_dice (ca K))) (D__law_leads : Df P w K mg base cs 1 (He.ga K "_law_leads") (sp__law_leads (ca K))) (D__law_like : Df P w K mg base cs 10 (He.ga K "_law_like") (sp__law_like (ca K))) (D__law_next : Df P w K mg base cs 1 (He.ga K "_law_next") (sp__law_next (ca K))) (D__law_reach : Df P w K mg base cs 1 (He.ga K "_law_reach") (sp__law_reach (ca K))) (D__law_tree : Df P w K mg base cs 1 (He.ga K "_law_tree") (sp__law_tree (ca K))) (D__law_web : Df P w K mg base cs 2 (He.ga K "_law_web") (sp__law_web (ca K))) (D_instead : Df P w K mg base cs 3 (He.ga K "instead") (sp_instead (ca K))) (D_side : Df P w K mg base cs 3 (He.ga K "side") (sp_side (ca K))) (D_tree : Df P w K mg base cs 2 (He.ga K "tree") (sp_tree (ca K))) (DH__law_is : DfH P w K mg base cs 1 (He.ga K "_law_is") (sph__law_is (ca K))) {fd : FuncData} (F : Fun K "law" "law" s_law (He.ga K "law") fd) : FnOk P w K mg base (L2N.CX P w) 11 (He.ga K "law") fd ["_law_script"] (SpL K [((He.cT K ("law", none)).2, lamQ_law)] (sp_law (He.cT K ("law", none)).2 lamQ_law (ca K))) := by
  refine fn_lawL (dn := ("law", none)) (cs := cs) (sp_law (He.cT K ("law", none)).2 lamQ_law (ca K)) F rfl sc_law (fun A outer s H E Ed hr wl hp => ?_)
  have nd := sc_law.nd
  have hL : ∀ p ∈ lamL_law (lmP_law K s.heap.objs.size) (ca K), LamD (cxOf (L2N.CX P w) P w K mg base ["_law_script", "_law_d", "_law_hands", "_law_roads", "_law_web_here", "_law_due", "_law_turn", "_law_found", "_law_number", "_law_one", "_law_other", "_law_cost", "_law_left", "_law_told", "_law_kept", "_law_bad", "_law_at"] "law" (defScope s_law) (He.ga K "law") (.ref (He.codeOf K ("law", none))) A outer s H E) cs 3 lamQ_law p.1 p.2.1 p.2.2 := (lamL_cons ⟨lamok_law_0, fun A outer s H E Ed f c hr wl => (pd_call D_side (hr.mono (by decide)) wl T.g_side (pad_cons (pd_var 4) (pad_cons (pd_var 15) pad_nil)))⟩
    (lamL_cons ⟨lamok_law_1, fun A outer s H E Ed f c hr wl => (pd_call D_instead (hr.mono (by decide)) wl T.g_instead (pad_cons (pd_var 4) (pad_cons (pd_var 15) pad_nil)))⟩
    lamL_nil))
  exact ⟨t_law (lmP_law K s.heap.objs.size) (ca K) Ed, (pssd_cons (psd_set 1 nd (pd_call D__law_dice (hr.mono (by decide)) wl T.g__law_dice (pad_cons (pd_var 0) pad_nil)))
    (pssd_cons (psd_asg (pd_call D__law_web (hr.mono (by decide)) wl T.g__law_web (pad_cons (pd_var 1) (pad_cons pd_int pad_nil))) (pgd_tup rfl (pgsd_cons (pgd_name 2 nd) (pgsd_cons (pgd_name 3 nd) pgsd_nil))))
    (pssd_cons (psd_set 4 nd (pd_make T.h_Web T.m_Web D_Web_init (hr.mono (by decide)) wl T.g_Web (pad_cons (pd_var 2) (pad_cons (pd_callTy call_listG T.n_list (pad_cons (pd_var 3) pad_nil)) pad_nil))))
    (pssd_cons (psd_set 5 nd (pd_call D__law_tree (hr.mono (by decide)) wl T.g__law_tree (pad_cons (pd_var 3) pad_nil)))
    (pssd_cons (psd_for hp rfl (pid_rng1 T.n_range (pad_cons pd_int pad_nil)) (pgd_name 6 nd)
    (pssd_cons (psd_set 7 nd (pd_call D_tree (hr.mono (by decide)) wl T.g_tree (pad_cons (pd_var 4) pad_nil)))
    (pssd_cons (psd_if (ptd_not (ptd_val (pd_call D__law_like (hr.mono (by decide)) wl T.g__law_like (pad_cons (pd_var 7) (pad_cons (pd_var 5) pad_nil))))) (pssd_one (psd_ret pd_bl)) pssd_nil)
    (pssd_one (psd_expr (pd_bm PySem.F.slot_list_append PySem.F.type_list_append m_append (pd_var 7) (pad_cons (pd_neg pd_int) pad_nil)))))))
    (pssd_cons (psd_for hp rfl (pid_rng1 T.n_range (pad_cons (pd_callB call_lenG T.n_len (pad_cons (pd_var 3) pad_nil)) pad_nil)) (pgd_name 8 nd)
    (pssd_cons (psd_asg (pd_ix (hu_of hr) (pd_var 3) (pd_var 8)) (pgd_tup rfl (pgsd_cons (pgd_name 9 nd) (pgsd_cons (pgd_name 10 nd) (pgsd_cons (pgd_name 11 nd) pgsd_nil)))))
    (pssd_cons (psd_if (ptd_cmp (op_inG hr.units65) (pd_var 8) (pd_var 5)) (pssd_cons (psd_setLc 12 [("_law_at", 16)] rfl nd (pid_list (pd_var 5)) (fun _ _ _ _ _ => (pgd_name 16 nd)) (fun _ _ _ _ _ => (ptsd_one (ptd_cmp (op_neG hr.units) (pd_var 16) (pd_var 8)))) (fun _ _ _ _ _ => (pd_var 16)))
    (pssd_cons (psd_set 13 nd (pd_call D_side (hr.mono (by decide)) wl T.g_side (pad_cons (pd_var 4) (pad_cons (pd_var 8) pad_nil))))
    (pssd_one (psd_if (PWD.pt (pwd_or (ptd_not (ptd_val (pd_call D__law_like (hr.mono (by decide)) wl T.g__law_like (pad_cons (pd_var 13) (pad_cons (pd_call D__law_reach (hr.mono (by decide)) wl T.g__law_reach (pad_cons (pd_var 3) (pad_cons (pd_var 12) (pad_cons (pd_var 9) pad_nil)))) pad_nil))))) (pwd_or1 (ptd_cmp op_isnotG (pd_call D_instead (hr.mono (by decide)) wl T.g_instead (pad_cons (pd_var 4) (pad_cons (pd_var 8) pad_nil))) pd_non)))) (pssd_one (psd_ret pd_bl)) pssd_nil)))) (pssd_cons (psd_set 13 nd (pd_call D_instead (hr.mono (by decide)) wl T.g_instead (pad_cons (pd_var 4) (pad_cons (pd_var 8) pad_nil))))
    (pssd_cons (psd_if (PWD.pt (pwd_or (ptd_not (ptd_val (pd_callB call_isiG T.n_isinstance (pad_cons (pd_var 13) (pad_cons (pd_gty T.n_list (by decide +kernel)) pad_nil))))) (pwd_or1 (ptd_cmp (op_neG hr.units) (pd_lc [("_law_at", 16)] rfl nd (pid_list (pd_var 13)) (fun _ _ _ _ _ => (pgd_name 16 nd)) (fun _ _ _ _ _ => (ptsd_one (ptd_cmp (op_notInG hr.units65) (pd_var 16) (pd_var 5)))) (fun _ _ _ _ _ => (pd_var 16))) (pd_lst pad_nil))))) (pssd_one (psd_ret pd_bl)) pssd_nil)
    (pssd_one (psd_if (PWD.pt (pwd_or (ptd_not (ptd_val (pd_call D__law_leads (hr.mono (by decide)) wl T.g__law_leads (pad_cons (pd_var 3) (pad_cons (pd_var 13) (pad_cons (pd_var 9) (pad_cons (pd_var 10) pad_nil))))))) (pwd_or1 (ptd_cmp op_isnotG (pd_call D_side (hr.mono (by decide)) wl T.g_side (pad_cons (pd_var 4) (pad_cons (pd_var 8) pad_nil))) pd_non)))) (pssd_one (psd_ret pd_bl)) pssd_nil)))))
    (pssd_cons (psd_set 14 nd (pd_callTy call_listG T.n_list (pad_cons (pd_var 13) pad_nil)))
    (pssd_cons (psd_expr (pd_bm0 PySem.F.slot_list_clear PySem.F.type_list_clear m_clear (pd_var 13)))
    (pssd_one (psd_if (ptd_cmp (op_notInG hr.units65) (pd_var 14) (pd_lst (pad_cons (pd_call D_side (hr.mono (by decide)) wl T.g_side (pad_cons (pd_var 4) (pad_cons (pd_var 8) pad_nil))) (pad_cons (pd_call D_instead (hr.mono (by decide)) wl T.g_instead (pad_cons (pd_var 4) (pad_cons (pd_var 8) pad_nil))) pad_nil)))) (pssd_one (psd_ret pd_bl)) pssd_nil)))))))
    (pssd_cons (psd_set 15 nd (pd_ix (hu_of hr) (pd_lst (pad_cons (pd_callB call_lenG T.n_len (pad_cons (pd_var 3) pad_nil)) (pad_cons (pd_neg pd_int) (pad_cons (pd_op op_addD (pd_callB call_lenG T.n_len (pad_cons (pd_var 3) pad_nil)) (pd_call D__law_next (hr.mono (by decide)) wl T.g__law_next (pad_cons (pd_var 1) (pad_cons (pd_op op_powD pd_int pd_int) pad_nil)))) pad_nil)))) (pd_call D__law_next (hr.mono (by decide)) wl T.g__law_next (pad_cons (pd_var 1) (pad_cons pd_int pad_nil)))))
    (pssd_one (psd_ret (pd_and (pd_lref (k := 4) T.F__law_refused sc__law_refused (hr.mono (by decide)) wl T.g__law_refused (pad_cons (pd_lam (L := lamT_law_0) TB rfl lamok_law_0.free rfl rfl) pad_nil) (fun pins σ H s ρ cdv E Ed I rm hr wl hp => have nd := sc__law_refused.nd; (pssd_cons (psd_try 1 wl nd T.g_WebError T.mt_WebError (fun pn xe => (px_lamOut (k := 3) hL I rm (hr.mono (by decide)) pn xe (.inl rfl))) (fun pn xe hp => pssd_nil) (fun a oe C d pn hz hf => (pssd_one (psd_ret (pd_callH DH__law_is (roomH_su (hr.mono (by decide))) (hotA_suite hz hf) T.g__law_is (pad_cons (pd_var 1) (pad_cons pd_str pad_nil)))))))
    (pssd_one (psd_ret pd_bl))))) (pd_one (pd_lref (k := 4) T.F__law_refused sc__law_refused (hr.mono (by decide)) wl T.g__law_refused (pad_cons (pd_lamD (L := lamT_law_1) TB rfl lamok_law_1.free rfl rfl rfl) pad_nil) (fun pins σ H s ρ cdv E Ed I rm hr wl hp => have nd := sc__law_refused.nd; (pssd_cons (psd_try 1 wl nd T.g_WebError T.mt_WebError (fun pn xe => (px_lamOut (k := 3) hL I rm (hr.mono (by decide)) pn xe (.inl rfl))) (fun pn xe hp => pssd_nil) (fun a oe C d pn hz hf => (pssd_one (psd_ret (pd_callH DH__law_is (roomH_su (hr.mono (by decide))) (hotA_suite hz hf) T.g__law_is (pad_cons (pd_var 1) (pad_cons pd_str pad_nil)))))))
    (pssd_one (psd_ret pd_bl)))))))))))))))), fun ds Hd Qd h => rd_law (lmP_law K s.heap.objs.size) (ca K) Ed ds Hd Qd h⟩
theorem okl (T : Tx K mg cs) (TB : TabB base mg (He.cT K ("law", none)).1 (He.cT K ("law", none)).2) {fd : FuncData} (F : Fun K "law" "law" s_law (He.ga K "law") fd) : FnOk P w K mg base (L2N.CX P w) 11 (He.ga K "law") fd ["_law_script"] (SpL K [((He.cT K ("law", none)).2, lamQ_law)] (sp_law (He.cT K ("law", none)).2 lamQ_law (ca K))) := by
  have DH__law_is := okh__law_is (P := P) (w := w) (base := base) T 
  have D_Web_fits := ok_Web_fits (P := P) (w := w) (base := base) T 
  have D_led_to := ok_led_to (P := P) (w := w) (base := base) T 
  have D_Web_init := ok_Web_init (P := P) (w := w) (base := base) T D_Web_fits D_led_to
  have D__law_dice := ok__law_dice (P := P) (w := w) (base := base) T 
  have D__law_leads := ok__law_leads (P := P) (w := w) (base := base) T 
  have D__law_like := ok__law_like (P := P) (w := w) (base := base) T 
  have D__law_next := ok__law_next (P := P) (w := w) (base := base) T 
  have D__law_reach := ok__law_reach (P := P) (w := w) (base := base) T 
  have D__law_tree := ok__law_tree (P := P) (w := w) (base := base) T 
  have D__law_web := ok__law_web (P := P) (w := w) (base := base) T D__law_next
  have D_Web_roads := ok_Web_roads (P := P) (w := w) (base := base) T 
  have D_need_road := ok_need_road (P := P) (w := w) (base := base) T D_Web_roads
  have D_tree := ok_tree (P := P) (w := w) (base := base) T D_Web_roads D_led_to
  have D_instead := ok_instead (P := P) (w := w) (base := base) T D_Web_roads D_need_road D_tree
  have D_side := ok_side (P := P) (w := w) (base := base) T D_Web_roads D_led_to D_need_road D_tree
  exact fn_law T TB D_Web_init D__law_dice D__law_leads D__law_like D__law_next D__law_reach D__law_tree D__law_web D_instead D_side D_tree DH__law_is F
end
def fnl : List He.DefD := [⟨("Web", some "fits"), "fits", "Web.fits", defArgs (inClass (top 13) 1), defBody (inClass (top 13) 1), defScope (inClass (top 13) 1), [], []⟩,
  ⟨("led_to", none), "led_to", "led_to", defArgs (top 12), defBody (top 12), defScope (top 12), [], []⟩,
  ⟨("Web", some "__init__"), "__init__", "Web.__init__", defArgs (inClass (top 13) 0), defBody (inClass (top 13) 0), defScope (inClass (top 13) 0), [], []⟩,
  ⟨("_law_dice", none), "_law_dice", "_law_dice", defArgs (top 19), defBody (top 19), defScope (top 19), [], []⟩,
  ⟨("_law_leads", none), "_law_leads", "_law_leads", defArgs (top 27), defBody (top 27), defScope (top 27), [], []⟩,
  ⟨("_law_like", none), "_law_like", "_law_like", defArgs (top 21), defBody (top 21), defScope (top 21), [], []⟩,
  ⟨("_law_next", none), "_law_next", "_law_next", defArgs (top 20), defBody (top 20), defScope (top 20), [], []⟩,
  ⟨("_law_reach", none), "_law_reach", "_law_reach", defArgs (top 26), defBody (top 26), defScope (top 26), [], []⟩,
  ⟨("_law_refused", none), "_law_refused", "_law_refused", defArgs (top 25), defBody (top 25), defScope (top 25), [], []⟩,
  ⟨("_law_tree", none), "_law_tree", "_law_tree", defArgs (top 23), defBody (top 23), defScope (top 23), [], []⟩,
  ⟨("_law_web", none), "_law_web", "_law_web", defArgs (top 22), defBody (top 22), defScope (top 22), [], []⟩,
  ⟨("Web", some "roads"), "roads", "Web.roads", defArgs (inClass (top 13) 3), defBody (inClass (top 13) 3), defScope (inClass (top 13) 3), [], []⟩,
  ⟨("need_road", none), "need_road", "need_road", defArgs (top 15), defBody (top 15), defScope (top 15), [], []⟩,
  ⟨("tree", none), "tree", "tree", defArgs (top 14), defBody (top 14), defScope (top 14), [], []⟩,
  ⟨("instead", none), "instead", "instead", defArgs (top 16), defBody (top 16), defScope (top 16), [], []⟩,
  ⟨("side", none), "side", "side", defArgs (top 17), defBody (top 17), defScope (top 17), [], []⟩,
  ⟨("law", none), "law", "law", defArgs (top 28), defBody (top 28), defScope (top 28), [], []⟩,
  ⟨("_law_is", none), "_law_is", "_law_is", defArgs (top 24), defBody (top 24), defScope (top 24), [], []⟩]
def fal : List He.Fa := ([.free "len", .free "range", .free "sorted", .free "enumerate", .free "isinstance", .free "tuple", .free "list", .free "int", .free "str", .free "dict", .free "min", .free "set", .free "bool", .free "ValueError", .int "MOST_HANDS" 8, .int "MOST_ROADS" 20, .int "MOST_COST" 99, .glo "led_to", .glo "_law_dice", .glo "_law_leads"] : List He.Fa) ++ ([.glo "_law_like", .glo "_law_next", .glo "_law_reach", .glo "_law_refused", .glo "_law_tree", .glo "_law_web", .glo "need_road", .glo "tree", .glo "instead", .glo "side", .glo "law", .glo "_law_is", .glo "Web", .glo "WebError", .glo "BadWeb", .glo "NoHand", .glo "NoRoad", .glo "NoLetter", .glo "BadText", .exc "NoRoad"] : List He.Fa) ++ ([.noat "BadWeb" "why", .noat "BadWeb" "number", .noat "BadText" "row", .exm "BadWeb" "WebError" true, .exm "NoHand" "WebError" true, .exm "NoRoad" "WebError" true, .exm "NoLetter" "WebError" true, .exm "BadText" "WebError" true, .mkr "Web", .meth "Web" "fits", .meth "Web" "roads", .cls "Web", .noat "Web" "many", .noat "Web" "ways"] : List He.Fa)
def exL (K : PySem.W.Frag) : List Bool := [L2.xfB K (He.ga K "BadWeb"), L2.xfB K (He.ga K "BadText"), isTabB K (ca K)]
def exK (K : PySem.W.Frag) : Bool := (exL K).all id
theorem ex_at {K : PySem.W.Frag} (h : exK K = true) (i : Nat) {b : Bool} (e : (exL K)[i]? = some b) : b = true := List.all_eq_true.mp h b (List.mem_of_getElem? e)
abbrev R : PySem.W.OpenRow := PySem.W.OpenLaw.row PySem.Challenge.rw_lettertree_k02_least_trees
def tfl : List He.Defn := [("law", none)]
abbrev hk : PySem.W.Hook := hookL 5 fal fnl exK tfl
def ob (s : PySem.W.SharedT) : AlL := obsLG 5 fal fnl exK tfl (HandSHeadRun.getT s)
theorem ob_eq (s : PySem.W.SharedT) : ob s = hk.obs s.abs := obsLG_eq (HandSHeadRun.getT_eq s)
def loose : List Str := (["_wall", "__name__", "WebError", "BadWeb", "NoHand", "NoRoad", "NoLetter", "BadText", "MOST_HANDS", "MOST_ROADS", "MOST_COST", "led_to", "Web", "tree", "need_road", "instead", "side", "_law_dice", "_law_next", "_law_like"] : List Str) ++ (["_law_web", "_law_tree", "_law_is", "_law_refused", "_law_reach", "_law_leads"] : List Str)
set_option maxHeartbeats 0 in
theorem run (w : World) : HandSHeadRun.RunEq R (PySem.W.view R.prog [28]) hk ob 100000 loose w := by
  intro os
  kernel_rfl
theorem mkG {K : PySem.W.Frag} (c : He.SaysD fal fnl K) : Gm.Ok ⟨K, csOf K⟩ := by
  refine ⟨fun C ord h => ?_⟩
  have h : csOf K C = some ord := h
  unfold csOf at h
  by_cases z : C = He.ga K "Web"
  · rw [if_pos z] at h
    have e := Option.some.inj h
    subst e
    rw [z]
    refine ⟨He.cls_ok (c.fact 51 rfl), by decide, by decide, fun f hf => ?_⟩
    simp only [List.mem_cons, List.not_mem_nil, or_false] at hf
    rcases hf with rfl | rfl
    · exact He.noat_ok (c.fact 52 rfl)
    · exact He.noat_ok (c.fact 53 rfl)
  rw [if_neg z] at h
  clear z
  cases h
theorem mkTx {K : PySem.W.Frag} {h : Heap} {mg : Str → Option Value} (X : K.In h) (G : h.Ns mainGlobals mg) (c : He.SaysD fal fnl K) (cx : exK K = true) : Tx K mg (csOf K) where
  e := rfl
  G := mkG c
  n_len := He.free_ok X G (c.fact 0 rfl)
  n_range := He.free_ok X G (c.fact 1 rfl)
  n_sorted := He.free_ok X G (c.fact 2 rfl)
  n_enumerate := He.free_ok X G (c.fact 3 rfl)
  n_isinstance := He.free_ok X G (c.fact 4 rfl)
  n_tuple := He.free_ok X G (c.fact 5 rfl)
  n_list := He.free_ok X G (c.fact 6 rfl)
  n_int := He.free_ok X G (c.fact 7 rfl)
  n_str := He.free_ok X G (c.fact 8 rfl)
  n_dict := He.free_ok X G (c.fact 9 rfl)
  n_min := He.free_ok X G (c.fact 10 rfl)
  n_set := He.free_ok X G (c.fact 11 rfl)
  n_bool := He.free_ok X G (c.fact 12 rfl)
  n_ValueError := He.free_ok X G (c.fact 13 rfl)
  c_MOST_HANDS := He.int_ok X G (c.fact 14 rfl)
  c_MOST_ROADS := He.int_ok X G (c.fact 15 rfl)
  c_MOST_COST := He.int_ok X G (c.fact 16 rfl)
  g_led_to := He.glo_ok X G (c.fact 17 rfl)
  g__law_dice := He.glo_ok X G (c.fact 18 rfl)
  g__law_leads := He.glo_ok X G (c.fact 19 rfl)
  g__law_like := He.glo_ok X G (c.fact 20 rfl)
  g__law_next := He.glo_ok X G (c.fact 21 rfl)
  g__law_reach := He.glo_ok X G (c.fact 22 rfl)
  g__law_refused := He.glo_ok X G (c.fact 23 rfl)
  g__law_tree := He.glo_ok X G (c.fact 24 rfl)
  g__law_web := He.glo_ok X G (c.fact 25 rfl)
  g_need_road := He.glo_ok X G (c.fact 26 rfl)
  g_tree := He.glo_ok X G (c.fact 27 rfl)
  g_instead := He.glo_ok X G (c.fact 28 rfl)
  g_side := He.glo_ok X G (c.fact 29 rfl)
  g_law := He.glo_ok X G (c.fact 30 rfl)
  g__law_is := He.glo_ok X G (c.fact 31 rfl)
  g_Web := He.glo_ok X G (c.fact 32 rfl)
  g_WebError := He.glo_ok X G (c.fact 33 rfl)
  g_BadWeb := He.glo_ok X G (c.fact 34 rfl)
  g_NoHand := He.glo_ok X G (c.fact 35 rfl)
  g_NoRoad := He.glo_ok X G (c.fact 36 rfl)
  g_NoLetter := He.glo_ok X G (c.fact 37 rfl)
  g_BadText := He.glo_ok X G (c.fact 38 rfl)
  x_NoRoad := ⟨He.exc_ok (c.fact 39 rfl)⟩
  xf_why := fun B hB => by rw [List.mem_singleton.mp hB]; exact ⟨L2.xfB_ok (ex_at cx 0 rfl), He.noat_ok (c.fact 40 rfl)⟩
  xf_number := fun B hB => by rw [List.mem_singleton.mp hB]; exact ⟨L2.xfB_ok (ex_at cx 0 rfl), He.noat_ok (c.fact 41 rfl)⟩
  xf_row := fun B hB => by rw [List.mem_singleton.mp hB]; exact ⟨L2.xfB_ok (ex_at cx 1 rfl), He.noat_ok (c.fact 42 rfl)⟩
  mt_WebError := by
    intro q hq
    simp only [List.mem_cons, List.not_mem_nil, or_false] at hq
    rcases hq with rfl | rfl | rfl | rfl | rfl
    · exact He.exm_ok (c.fact 43 rfl)
    · exact He.exm_ok (c.fact 44 rfl)
    · exact He.exm_ok (c.fact 45 rfl)
    · exact He.exm_ok (c.fact 46 rfl)
    · exact He.exm_ok (c.fact 47 rfl)
  is_tab := isTabB_ok (ex_at cx 2 rfl)
  h_Web := by unfold csOf; exact if_pos rfl
  m_Web := He.mkr_ok (c.fact 48 rfl)
  t_Web_fits := He.meth_ok (c.fact 49 rfl)
  F_Web_fits := fb_of (c.def_ 0 rfl) fun _ _ _ _ _ _ us hl => match us, hl with | [_, _], _ => rfl
  F_led_to := fb_of (c.def_ 1 rfl) fun _ _ _ _ _ _ us hl => match us, hl with | [_, _], _ => rfl
  F_Web_init := fb_of (c.def_ 2 rfl) fun _ _ _ _ _ _ us hl => match us, hl with | [_, _, _], _ => rfl
  F__law_dice := fb_of (c.def_ 3 rfl) fun _ _ _ _ _ _ us hl => match us, hl with | [_], _ => rfl
  F__law_leads := fb_of (c.def_ 4 rfl) fun _ _ _ _ _ _ us hl => match us, hl with | [_, _, _, _], _ => rfl
  F__law_like := fb_of (c.def_ 5 rfl) fun _ _ _ _ _ _ us hl => match us, hl with | [_, _], _ => rfl
  F__law_next := fb_of (c.def_ 6 rfl) fun _ _ _ _ _ _ us hl => match us, hl with | [_, _], _ => rfl
  F__law_reach := fb_of (c.def_ 7 rfl) fun _ _ _ _ _ _ us hl => match us, hl with | [_, _, _], _ => rfl
  F__law_refused := fb_of (c.def_ 8 rfl) fun _ _ _ _ _ _ us hl => match us, hl with | [_], _ => rfl
  F__law_tree := fb_of (c.def_ 9 rfl) fun _ _ _ _ _ _ us hl => match us, hl with | [_], _ => rfl
  F__law_web := fb_of (c.def_ 10 rfl) fun _ _ _ _ _ _ us hl => match us, hl with | [_, _], _ => rfl
  t_Web_roads := He.meth_ok (c.fact 50 rfl)
  F_Web_roads := fb_of (c.def_ 11 rfl) fun _ _ _ _ _ _ us hl => match us, hl with | [_], _ => rfl
  F_need_road := fb_of (c.def_ 12 rfl) fun _ _ _ _ _ _ us hl => match us, hl with | [_, _], _ => rfl
  F_tree := fb_of (c.def_ 13 rfl) fun _ _ _ _ _ _ us hl => match us, hl with | [_], _ => rfl
  F_instead := fb_of (c.def_ 14 rfl) fun _ _ _ _ _ _ us hl => match us, hl with | [_, _], _ => rfl
  F_side := fb_of (c.def_ 15 rfl) fun _ _ _ _ _ _ us hl => match us, hl with | [_, _], _ => rfl
  F_law := fb_of (c.def_ 16 rfl) fun _ _ _ _ _ _ us hl => match us, hl with | [_], _ => rfl
  F__law_is := fb_of (c.def_ 17 rfl) fun _ _ _ _ _ _ us hl => match us, hl with | [_, _], _ => rfl
theorem facts {P : Program} {w : World} {K : PySem.W.Frag} {h : Heap} {mg : Str → Option Value} {f : Addr} (X : K.In h) (G : h.Ns mainGlobals mg) (hfa : mg ("law" : Str) = some (.ref f)) (c : SaysL fal fnl exK tfl h K) :
    ∃ fd : FuncData, (∀ (s : Shared) (v : Value), BindsTo s fd ⟨[v], []⟩ [("_law_script", v)]) ∧ ∀ base : Heap, K.In base → base.Ns mainGlobals mg → (∀ p ∈ tfl, TabB base mg (He.cT K p).1 (He.cT K p).2) → FnOk P w K mg base (L2N.CX P w) 11 f fd ["_law_script"] (SpL K [((He.cT K ("law", none)).2, lamQ_law)] (sp_law (He.cT K ("law", none)).2 lamQ_law (ca K))) := by
  have T := mkTx X G c.e.d c.e.x
  have e := hfa.symm.trans T.g_law
  cases e
  obtain ⟨fd, F⟩ := c.e.d.def_ 16 rfl
  have b := FunD.bindsA (ps := ["_law_script"]) F fun _ _ _ _ _ _ us hl => match us, hl with | [_], _ => rfl
  refine ⟨fd, fun s v => b s [v] rfl, fun base _ _ tb => ?_⟩
  exact okl (cs := csOf K) T (tb _ (List.mem_singleton.mpr rfl)) (fun_of F)
end Lt
open PySem PySem.W PySem.Calls PyProof.Rows
theorem PySem.Challenge.cw_lettertree_k02_least_trees_holds : PySem.Challenge.rw_lettertree_k02_least_trees.Holds := by
  w_on; o_law
  refine HandSHeadRun.head_any (r := OpenLaw.row PySem.Challenge.rw_lettertree_k02_least_trees) (q := view (OpenLaw.row PySem.Challenge.rw_lettertree_k02_least_trees).prog [28]) (H := Lt.hk) (ob := Lt.ob) (M := 100000) (loose := Lt.loose) (d := HandSHeadRun.topDef (OpenLaw.row PySem.Challenge.rw_lettertree_k02_least_trees).prog 28) (kwd := []) Lt.ob_eq
    (by kernel_rfl) (fun s => by kernel_rfl) Lt.run (by kernel_rfl) (by kernel_rfl) (by kernel_rfl) (by rfl) (by first | assumption | decide +kernel) (by decide +kernel) ⟨rfl, rfl, rfl, rfl, rfl, by decide +kernel⟩ ?hw ?hc
  case hw => w_witness2
  case hc =>
    refine Lt.walk_ofL (l := PySem.Challenge.rw_lettertree_k02_least_trees) (n := 63) (k := 11) (x := "_law_script") rfl (by decide) (by kernel_rfl) ⟨rfl, by decide, by decide⟩ ?F
    intro w mg fa h Y G hmg0
    obtain ⟨K, KX, c⟩ := Y
    have hmg : mg ("law" : PySem.Str) = some (.ref fa) := by
      have e : (HandSHeadRun.topDef (OpenLaw.row PySem.Challenge.rw_lettertree_k02_least_trees).prog 28).name = ("law" : PySem.Str) := by kernel_rfl
      rw [← e]
      exact hmg0
    obtain ⟨fd, hb, hF⟩ := Lt.facts (P := (PySem.Challenge.rw_lettertree_k02_least_trees).prog) (w := w) KX G hmg c
    exact ⟨K, Lt.tfl, [((He.cT K ("law", none)).2, Lt.lamQ_law)], fd, Lt.sp_law (He.cT K ("law", none)).2 Lt.lamQ_law (Lt.ca K), KX, c.hd, c.out, c.empty, fun p hp => by rw [List.mem_singleton.mp hp]; exact ⟨_, List.mem_singleton.mpr rfl, rfl⟩, hb, fun ns => ⟨ns, rfl, by simp [Lt.tabH], fun _ => rfl⟩, hF⟩

end
