import PyProof.Rows.All
import Wide.All
import OpenK.AllK
import Wide.FinOn
import HandS.ForMost
import HandS.Lambda
import HandS.Wide
import HandS.TupAny
import KE.DataEq
import KE.DataCmp
import HandS.IsInst
import HandS.RaiseMore
import KE.SortData
import HandS.Style
import HandS.Iter
import HandS.DictTup
import HandS.Walk
import HandS.Text
import HandS.Dict
import HandS.Defaults
import HandS.ForExc
import HandS.ExcSuper
import KE.KExcSuper
import HandS.ExcValue
import KE.KExcIs
import HandS.ExcIs
import HandS.ExcField
import HandS.HeadWalk
import HandS.EndTab
import HandS.HeadHook4
import HandS.Head2
import Open.Row
import PySem.Challenge.RW_untoldplaces_k72_texts_of_works
set_option Elab.async false
set_option linter.all false
set_option maxRecDepth 100000
set_option autoImplicit false
set_option maxHeartbeats 4000000
/-! Data without a heap, and how a state of the abstract heap bears it. -/
namespace PV
open PySem L2

/-- a value as plain data; hnd is the one mutable object of the world -/
inductive D where
  | non | bl (b : Bool) | int (i : Int) | str (x : Str)
  | lst (xs : List D) | tup (xs : List D)
  | dK (ks : List Key) (vs : List D) | dT (ks : List (List Key)) (vs : List D)
  | hnd
  /-- a list of numbers that is only read -/
  | ro (ns : List Int)
  deriving Inhabited

/-- the frozen part of the heap, the world's addresses -/
structure G where
  F : Hp
  hm : Option (Addr × Addr × Addr)
  /-- the tables of code objects, with the names in them -/
  tb : List (Addr × Str)
def G.wa (g : G) (a : Addr) : Prop := ∃ x y z, g.hm = some (x, y, z) ∧ (a = x ∨ a = y)
def G.add (g : G) (p : Addr) (o : HO) : G := { g with F := upd g.F p o }

def Core : HO → Prop
  | .lst _ => True
  | .tup _ => True
  | .dK _ => True
  | .dT _ => True
  | _ => False

def isStrV : V → Bool | .str _ => true | _ => false
/-- a tuple of few texts: it may be a key -/
def wkey (xs : List V) : Bool := decide (xs.length ≤ 8) && xs.all isStrV
def WrT (K : PySem.W.Frag) (a : Addr) (xs : List V) : Prop := ∃ (o : Obj) (its : Array Value) (n : Nat), K.lookup a = some o ∧ o.cls = .type "tuple" ∧ o.data = .seq its n ∧ its.size ≤ sizeLine ∧ Vals xs its.toList
def TupR (K : PySem.W.Frag) (F : Hp) (a : Addr) (xs : List V) : Prop := F a = some (.tup xs) ∨ (wkey xs = false ∧ WrT K a xs)
theorem TupR.sqT {K : PySem.W.Frag} {F : Hp} {a : Addr} {xs : List V} (h : TupR K F a xs) : SqT K F a xs := by
  rcases h with h | ⟨_, h⟩
  · exact .inl (.inl h)
  · exact .inr h
theorem TupR.key {K : PySem.W.Frag} {F : Hp} {a : Addr} {xs : List V} (h : TupR K F a xs) (e : wkey xs = true) : F a = some (.tup xs) := by
  rcases h with h | ⟨h, _⟩
  · exact h
  · rw [e] at h; cases h

structure G.Le (g g' : G) : Prop where
  rd : ∀ a u, Core u → Rd g.F a u → Rd g'.F a u
  tp : ∀ a xs, g.F a = some (.tup xs) → g'.F a = some (.tup xs)
  ls : ∀ a xs, g.F a = some (.lst xs) → g'.F a = some (.lst xs)
  hm : ∀ t, g.hm = some t → g'.hm = some t
  dm : ∀ a o, g.F a = some o → ∃ o', g'.F a = some o'
  fz : ∀ a o u, g.F a = some (.frz o u) → g'.F a = some (.frz o u)
  tb : g'.tb = g.tb
theorem G.Le.refl (g : G) : g.Le g := ⟨fun _ _ _ h => h, fun _ _ h => h, fun _ _ h => h, fun _ h => h, fun _ o h => ⟨o, h⟩, fun _ _ _ h => h, rfl⟩
theorem G.Le.trans {a b c : G} (x : a.Le b) (y : b.Le c) : a.Le c := ⟨fun p u k h => y.rd p u k (x.rd p u k h), fun p u h => y.tp p u (x.tp p u h), fun p u h => y.ls p u (x.ls p u h), fun t h => y.hm t (x.hm t h), fun p o h => let ⟨o', h⟩ := x.dm p o h; y.dm p o' h, fun p o u h => y.fz p o u (x.fz p o u h), y.tb.trans x.tb⟩
theorem G.Le.add {g : G} {p : Addr} {o : HO} (h : g.F p = none) : g.Le (g.add p o) := by
  refine ⟨fun a u _ r => ?_, fun a u r => by show upd g.F p o a = _; rw [upd_ne (ne_of_none r h)]; exact r, fun a u r => by show upd g.F p o a = _; rw [upd_ne (ne_of_none r h)]; exact r, fun _ h => h, fun a o r => ⟨o, by show upd g.F p _ a = _; rw [upd_ne (ne_of_none r h)]; exact r⟩, fun a o u r => by show upd g.F p _ a = _; rw [upd_ne (ne_of_none r h)]; exact r, rfl⟩
  rcases r with r | ⟨ob, r⟩
  · exact .inl (by show upd g.F p o a = _; rw [upd_ne (ne_of_none r h)]; exact r)
  · exact .inr ⟨ob, by show upd g.F p o a = _; rw [upd_ne (ne_of_none r h)]; exact r⟩
theorem G.Le.wa {g g' : G} (x : g.Le g') {a : Addr} (h : g.wa a) : g'.wa a := by
  obtain ⟨p, q, r, e, h⟩ := h
  exact ⟨p, q, r, x.hm _ e, h⟩

section
variable (K : PySem.W.Frag) (g : G)
mutual
inductive Dn : V → D → Prop
  | non : Dn .non .non
  | bl (b : Bool) : Dn (.bl b) (.bl b)
  | int (i : Int) : Dn (.int i) (.int i)
  | str (x : Str) : Dn (.str x) (.str x)
  | lst {a : Addr} {xs : List V} {ds : List D} : g.F a = some (.lst xs) → DnAll xs ds → Dn (.ref a) (.lst ds)
  | ro {a : Addr} {ns : List Int} : SqL K g.F a (ns.map V.int) → Dn (.ref a) (.ro ns)
  | tup {a : Addr} {xs : List V} {ds : List D} : TupR K g.F a xs → DnAll xs ds → Dn (.ref a) (.tup ds)
  | dK {a : Addr} {kvs : List (Key × V)} {ks : List Key} {ds : List D} : Rd g.F a (.dK kvs) → ks = kvs.map (·.1) → DnAll (kvs.map (·.2)) ds → Dn (.ref a) (.dK ks ds)
  | dT {a : Addr} {kvs : List (List Key × V)} {ks : List (List Key)} {ds : List D} : Rd g.F a (.dT kvs) → ks = kvs.map (·.1) → DnAll (kvs.map (·.2)) ds → Dn (.ref a) (.dT ks ds)
  | hnd {a l c : Addr} : g.hm = some (a, l, c) → Dn (.ref a) .hnd
inductive DnAll : List V → List D → Prop
  | nil : DnAll [] []
  | cons {v : V} {vs : List V} {d : D} {ds : List D} : Dn v d → DnAll vs ds → DnAll (v :: vs) (d :: ds)
end
end

section
variable {K : PySem.W.Frag} {g g' : G}
theorem sqL_le (x : g.Le g') {a : Addr} {xs : List V} (h : SqL K g.F a xs) : SqL K g'.F a xs := by
  rcases h with h | h
  · exact .inl (x.rd _ _ trivial h)
  · exact .inr h
theorem tupR_le (x : g.Le g') {a : Addr} {xs : List V} (h : TupR K g.F a xs) : TupR K g'.F a xs := by
  rcases h with h | h
  · exact .inl (x.tp _ _ h)
  · exact .inr h
mutual
theorem Dn.mono (x : g.Le g') : ∀ {v : V} {d : D}, Dn K g v d → Dn K g' v d
  | _, _, .non => .non
  | _, _, .bl b => .bl b
  | _, _, .int i => .int i
  | _, _, .str z => .str z
  | _, _, .lst h r => .lst (x.ls _ _ h) (DnAll.mono x r)
  | _, _, .ro h => .ro (sqL_le x h)
  | _, _, .tup h r => .tup (tupR_le x h) (DnAll.mono x r)
  | _, _, .dK h e r => .dK (x.rd _ _ trivial h) e (DnAll.mono x r)
  | _, _, .dT h e r => .dT (x.rd _ _ trivial h) e (DnAll.mono x r)
  | _, _, .hnd h => .hnd (x.hm _ h)
theorem DnAll.mono (x : g.Le g') : ∀ {vs : List V} {ds : List D}, DnAll K g vs ds → DnAll K g' vs ds
  | _, _, .nil => .nil
  | _, _, .cons h r => .cons (Dn.mono x h) (DnAll.mono x r)
end
theorem DnAll.length : ∀ {vs : List V} {ds : List D}, DnAll K g vs ds → vs.length = ds.length
  | _, _, .nil => rfl
  | _, _, .cons _ r => by rw [List.length_cons, List.length_cons, DnAll.length r]
theorem DnAll.get : ∀ {vs : List V} {ds : List D} {i : Nat} {d : D}, DnAll K g vs ds → ds[i]? = some d → ∃ v, vs[i]? = some v ∧ Dn K g v d
  | _, _, _, _, .nil, e => by simp at e
  | _, _, 0, _, .cons h _, e => by simp at e; subst e; exact ⟨_, rfl, h⟩
  | _, _, i + 1, d, .cons _ r, e => by
    obtain ⟨v, h1, h2⟩ := DnAll.get (i := i) r (by simpa using e)
    exact ⟨v, by simpa using h1, h2⟩
theorem DnAll.getV : ∀ {vs : List V} {ds : List D} {i : Nat} {v : V}, DnAll K g vs ds → vs[i]? = some v → ∃ d, ds[i]? = some d ∧ Dn K g v d
  | _, _, _, _, .nil, e => by simp at e
  | _, _, 0, _, .cons h _, e => by simp at e; subst e; exact ⟨_, rfl, h⟩
  | _, _, i + 1, d, .cons _ r, e => by
    obtain ⟨v, h1, h2⟩ := DnAll.getV (i := i) r (by simpa using e)
    exact ⟨v, by simpa using h1, h2⟩
theorem DnAll.append : ∀ {vs ws : List V} {ds es : List D}, DnAll K g vs ds → DnAll K g ws es → DnAll K g (vs ++ ws) (ds ++ es)
  | _, _, _, _, .nil, s => s
  | _, _, _, _, .cons h r, s => .cons h (DnAll.append r s)
theorem DnAll.take : ∀ {vs : List V} {ds : List D} (n : Nat), DnAll K g vs ds → DnAll K g (vs.take n) (ds.take n)
  | _, _, 0, _ => .nil
  | _, _, _ + 1, .nil => .nil
  | _, _, n + 1, .cons h r => .cons h (DnAll.take n r)
theorem DnAll.drop : ∀ {vs : List V} {ds : List D} (n : Nat), DnAll K g vs ds → DnAll K g (vs.drop n) (ds.drop n)
  | _, _, 0, r => r
  | _, _, _ + 1, .nil => .nil
  | _, _, n + 1, .cons _ r => DnAll.drop n r
theorem DnAll.set : ∀ {vs : List V} {ds : List D} (i : Nat) {v : V} {d : D}, DnAll K g vs ds → Dn K g v d → DnAll K g (vs.set i v) (ds.set i d)
  | _, _, _, _, _, .nil, _ => .nil
  | _, _, 0, _, _, .cons _ r, h => .cons h r
  | _, _, i + 1, _, _, .cons q r, h => .cons q (DnAll.set i r h)
theorem DnAll.erase : ∀ {vs : List V} {ds : List D} (i : Nat), DnAll K g vs ds → DnAll K g (vs.eraseIdx i) (ds.eraseIdx i)
  | _, _, _, .nil => .nil
  | _, _, 0, .cons _ r => r
  | _, _, i + 1, .cons q r => .cons q (DnAll.erase i r)
theorem DnAll.reverse {vs : List V} {ds : List D} (h : DnAll K g vs ds) : DnAll K g vs.reverse ds.reverse := by
  induction vs generalizing ds with
  | nil => cases h; exact .nil
  | cons v vs ih =>
    cases h with
    | cons h r =>
      rw [List.reverse_cons, List.reverse_cons]
      exact (ih r).append (.cons h .nil)
theorem DnAll.ints : ∀ {vs : List V} {ns : List Int}, DnAll K g vs (ns.map D.int) → vs = ns.map V.int
  | _, [], .nil => rfl
  | _, n :: ns, .cons h r => by cases h; rw [DnAll.ints (ns := ns) r]; rfl
theorem DnAll.of_ints : ∀ (ns : List Int), DnAll K g (ns.map V.int) (ns.map D.int)
  | [] => .nil
  | n :: ns => .cons (.int n) (DnAll.of_ints ns)
theorem DnAll.strs : ∀ {vs : List V} {ns : List Str}, DnAll K g vs (ns.map D.str) → vs = ns.map V.str
  | _, [], .nil => rfl
  | _, n :: ns, .cons h r => by cases h; rw [DnAll.strs (ns := ns) r]; rfl
theorem DnAll.of_strs : ∀ (ns : List Str), DnAll K g (ns.map V.str) (ns.map D.str)
  | [] => .nil
  | n :: ns => .cons (.str n) (DnAll.of_strs ns)
theorem DnAll.of_kV : ∀ (ks : List Key), DnAll K g (ks.map kV) (ks.map fun | .inl i => D.int i | .inr x => D.str x)
  | [] => .nil
  | .inl i :: ks => .cons (.int i) (DnAll.of_kV ks)
  | .inr x :: ks => .cons (.str x) (DnAll.of_kV ks)
end

/-! ### the state -/
inductive Sl where
  | no | fz (d : D) | ow (d : D)
  deriving Inhabited
/-- where the draws come from -/
structure Dr where
  large : List Int
  cells : List Int
  rest : Int
  turn : Int
  deriving Inhabited
abbrev W := Option Dr
structure S where
  env : List Sl
  w : W
  fu : Nat
  deriving Inhabited
/-- a def's entry -/
structure C where
  H0 : Hp
  g0 : G

/-- what a mutable object holds -/
inductive HoD (K : PySem.W.Frag) (g : G) : HO → D → Prop
  | lst {vs : List V} {ds : List D} : DnAll K g vs ds → HoD K g (.lst vs) (.lst ds)
  | dK {kvs : List (Key × V)} {ks : List Key} {ds : List D} : ks = kvs.map (·.1) → DnAll K g (kvs.map (·.2)) ds → HoD K g (.dK kvs) (.dK ks ds)
  | dT {kvs : List (List Key × V)} {ks : List (List Key)} {ds : List D} : ks = kvs.map (·.1) → DnAll K g (kvs.map (·.2)) ds → HoD K g (.dT kvs) (.dT ks ds)
theorem HoD.mono {K : PySem.W.Frag} {g g' : G} (x : g.Le g') {o : HO} {d : D} (h : HoD K g o d) : HoD K g' o d := by
  cases h with
  | lst r => exact .lst (r.mono x)
  | dK e r => exact .dK e (r.mono x)
  | dT e r => exact .dT e (r.mono x)
theorem HoD.core {K : PySem.W.Frag} {g : G} {o : HO} {d : D} (h : HoD K g o d) : Core o := by cases h <;> trivial
theorem HoD.mut {K : PySem.W.Frag} {g : G} {o : HO} {d : D} (h : HoD K g o d) : Mut (some o) := by cases h <;> trivial
theorem HoD.dn {K : PySem.W.Frag} {g : G} {o : HO} {d : D} {p : Addr} (h : HoD K g o d) (e : g.F p = some o) : Dn K g (.ref p) d := by
  cases h with
  | lst r => exact .lst e r
  | dK q r => exact .dK (.inl e) q r
  | dT q r => exact .dT (.inl e) q r

def drKeys : List Key := [.inr "large", .inr "cells", .inr "rest", .inr "turn"]
def drO (dr : Dr) (l c : Addr) : HO := .dK [(.inr "large", .ref l), (.inr "cells", .ref c), (.inr "rest", .int dr.rest), (.inr "turn", .int dr.turn)]
/-- the world's objects -/
def WRel (g : G) (H : Hp) : W → Prop
  | none => g.hm = none
  | some dr => ∃ a l c, g.hm = some (a, l, c) ∧ H a = some (drO dr l c) ∧ H l = some (.lst (dr.large.map V.int)) ∧ g.F c = some (.lst (dr.cells.map V.int))
theorem WRel.there {g : G} {H : Hp} {w : W} (h : WRel g H w) {a : Addr} (x : g.wa a) : ∃ o, H a = some o := by
  obtain ⟨p, q, r, e, x⟩ := x
  cases w with
  | none => rw [show g.hm = none from h] at e; cases e
  | some dr =>
    obtain ⟨a', l, c, e', h1, h2, _⟩ := h
    rw [e] at e'; cases e'
    rcases x with rfl | rfl
    · exact ⟨_, h1⟩
    · exact ⟨_, h2⟩
theorem WRel.le {g g' : G} {H : Hp} {w : W} (h : WRel g H w) (x : g.Le g') (e : g'.hm = g.hm) : WRel g' H w := by
  cases w with
  | none => exact e.trans h
  | some dr =>
    obtain ⟨a, l, c, e1, h1, h2, h3⟩ := h
    exact ⟨a, l, c, e.trans e1, h1, h2, x.ls _ _ h3⟩

/-! ### the tables of code objects, as the written part tells them -/
/-- the defs that make lambdas -/
def lamNames : List Str := ["law"]
def codeOf : Option Obj → Option Addr
  | some ⟨_, _, .func fd, _⟩ => (match fd.code with | .ref c => some c | _ => none)
  | _ => none
def lamCode (K : PySem.W.Frag) (y : Str) : Option Addr := match PySem.W.nsIn K mainGlobals y with
  | some (some (.ref f)) => codeOf (K.lookup f)
  | _ => none
def refOf : Option Value → Option Addr
  | some (.ref P) => some P
  | _ => none
def fieldsOf : Option Obj → Option (Array Value)
  | some ⟨_, _, .fields vs, _⟩ => some vs
  | _ => none
def lamTab (K : PySem.W.Frag) (y : Str) : Option Addr := (lamCode K y).bind fun c => (fieldsOf (K.lookup c)).bind fun vs => refOf vs[11]?
def lamQ (y : Str) : Str := (y ++ ".<locals>.") ++ "<lambda>"
def tbOf (K : PySem.W.Frag) : List (Addr × Str) := lamNames.filterMap fun y => (lamTab K y).map fun P => (P, lamQ y)
def Tb (K : PySem.W.Frag) (T : List (Addr × Str)) (H : Hp) : Prop := LamX.Tabs T H ∧ T = tbOf K

/-- all but the slots -/
structure Fin (K : PySem.W.Frag) (c : C) (g : G) (H : Hp) (w : W) : Prop where
  fh : ∀ a o, g.F a = some o → H a = some o
  kp : ∀ a o, c.H0 a = some o → (∀ ps, o ≠ .tbl ps) → c.g0.F a = none → ¬ g.wa a → H a = some o
  le : c.g0.Le g
  nf : ∀ a o, g.F a = some o → (∃ o', c.g0.F a = some o') ∨ c.H0 a = none ∨ ∃ xs, o = .tup xs
  wr : WRel g H w
  wf : ∀ a, g.wa a → g.F a = none
  wn : c.g0.hm = none → ∀ a, g.wa a → c.H0 a = none
  kt : ∀ a ps, c.H0 a = some (.tbl ps) → ∃ q, (a, q) ∈ g.tb
  tt : Tb K g.tb H
  th : ∀ a ps, H a = some (.tbl ps) → ∃ q, (a, q) ∈ g.tb
  nt : ∀ a ps, g.F a ≠ some (.tbl ps)

theorem core_ntbl {o : HO} (h : Core o) : ∀ ps, o ≠ .tbl ps := fun ps e => by subst e; exact h
theorem _root_.LamX.Tabs.core {T : List (Addr × Str)} {H : Hp} {p : Addr} {u o : HO} (t : LamX.Tabs T H) (h : H p = some u) (cu : Core u) : LamX.Tabs T (upd H p o) := fun q hq => by
  obtain ⟨ps, h1, h2, h3⟩ := t q hq
  refine ⟨ps, ?_, h2, fun pos cv hc => ?_⟩
  · rw [upd_ne (fun z => by rw [z, h] at h1; cases h1; exact cu)]; exact h1
  · obtain ⟨c, e1, e2⟩ := h3 pos cv hc
    refine ⟨c, e1, ?_⟩
    rw [upd_ne (fun z => by rw [z, h] at e2; cases e2; exact cu)]; exact e2
theorem _root_.LamX.Tabs.new {T : List (Addr × Str)} {H : Hp} {p : Addr} {o : HO} (t : LamX.Tabs T H) (h : H p = none) : LamX.Tabs T (upd H p o) := t.ext fun b u e => by rw [upd_ne (ne_of_none e h)]; exact e
theorem Tb.core {K : PySem.W.Frag} {T : List (Addr × Str)} {H : Hp} {p : Addr} {u o : HO} (t : Tb K T H) (h : H p = some u) (cu : Core u) : Tb K T (upd H p o) := ⟨t.1.core h cu, t.2⟩
theorem Tb.new {K : PySem.W.Frag} {T : List (Addr × Str)} {H : Hp} {p : Addr} {o : HO} (t : Tb K T H) (h : H p = none) : Tb K T (upd H p o) := ⟨t.1.new h, t.2⟩
def ownAt (st : S) (σ : L2.St) (i : Nat) (p : Addr) : Prop := (∃ d, st.env[i]? = some (.ow d)) ∧ σ[i]? = some (some (.ref p))
def SlR (K : PySem.W.Frag) (c : C) (g : G) (H : Hp) (x : Option (Option V)) : Sl → Prop
  | .no => True
  | .fz d => ∃ v, x = some (some v) ∧ Dn K g v d
  | .ow d => ∃ p o, x = some (some (.ref p)) ∧ H p = some o ∧ HoD K g o d ∧ g.F p = none ∧ c.H0 p = none ∧ ¬ g.wa p

structure Rel (K : PySem.W.Frag) (c : C) (g : G) (σ : L2.St) (H : Hp) (st : S) : Prop where
  toFin : Fin K c g H st.w
  sl : ∀ (i : Nat) (s : Sl), st.env[i]? = some s → SlR K c g H σ[i]? s
  len : σ.length = st.env.length
  dj : ∀ (i j : Nat) (p : Addr), ownAt st σ i p → ownAt st σ j p → i = j

section
variable {K : PySem.W.Frag} {c : C} {g g' : G} {σ : L2.St} {H H' : Hp} {st : S} {w w' : W}
theorem Fin.sub (f : Fin K c g H w) {a : Addr} (h : H a = none) : g.F a = none := by
  cases q : g.F a with
  | none => rfl
  | some o => rw [f.fh a o q] at h; cases h
theorem Fin.nwa (f : Fin K c g H w) {a : Addr} (h : H a = none) : ¬ g.wa a := fun x => by
  obtain ⟨o, e⟩ := f.wr.there x
  rw [e] at h; cases h
theorem Fin.old (f : Fin K c g H w) {a : Addr} (h : H a = none) : c.H0 a = none := by
  cases q : c.H0 a with
  | none => rfl
  | some o =>
    cases z : c.g0.F a with
    | none =>
      by_cases y : ∃ ps, o = .tbl ps
      · obtain ⟨ps, rfl⟩ := y
        obtain ⟨qq, hq⟩ := f.kt a ps q
        obtain ⟨ps', h1, _⟩ := f.tt.1 _ hq
        rw [h] at h1; cases h1
      · rw [f.kp a o q (fun ps e => y ⟨ps, e⟩) z (f.nwa h)] at h; cases h
    | some u =>
      obtain ⟨u', z'⟩ := f.le.dm a u z
      rw [f.fh a u' z'] at h; cases h
theorem Fin.rd (f : Fin K c g H w) {a : Addr} {u : HO} (h : Rd g.F a u) : Rd H a u := by
  rcases h with h | ⟨o, h⟩
  · exact .inl (f.fh _ _ h)
  · exact .inr ⟨o, f.fh _ _ h⟩
theorem Fin.sqL (f : Fin K c g H w) {a : Addr} {xs : List V} (h : SqL K g.F a xs) : SqL K H a xs := by
  rcases h with h | h
  · exact .inl (f.rd h)
  · exact .inr h
theorem Fin.sqT (f : Fin K c g H w) {a : Addr} {xs : List V} (h : SqT K g.F a xs) : SqT K H a xs := by
  rcases h with h | h
  · exact .inl (f.rd h)
  · exact .inr h
/-- a new object -/
theorem Fin.new (f : Fin K c g H w) {p : Addr} {o : HO} (h : H p = none) (no : ∀ ps, o ≠ .tbl ps := by exact fun _ z => nomatch z) : Fin K c g (upd H p o) w where
  fh := fun a u e => by rw [upd_ne (ne_of_none (f.fh a u e) h)]; exact f.fh a u e
  kp := fun a u e t m n => by rw [upd_ne (ne_of_none (f.kp a u e t m n) h)]; exact f.kp a u e t m n
  le := f.le
  nf := f.nf
  wr := by
    have q := f.wr
    cases w with
    | none => exact q
    | some dr =>
      obtain ⟨a, l, c', e, h1, h2, h3⟩ := q
      exact ⟨a, l, c', e, by rw [upd_ne (ne_of_none h1 h)]; exact h1, by rw [upd_ne (ne_of_none h2 h)]; exact h2, h3⟩
  wf := f.wf
  wn := f.wn
  kt := f.kt
  tt := f.tt.new h
  th := fun a ps e => by
    by_cases q : a = p
    · subst q; rw [upd_same] at e; cases e; exact absurd rfl (no ps)
    · rw [upd_ne q] at e; exact f.th a ps e
  nt := f.nt
/-- an object of our own is changed -/
theorem Fin.upd (f : Fin K c g H w) {p : Addr} {o u0 : HO} (h0 : H p = some u0) (c0 : Core u0) (co : Core o) (hF : g.F p = none) (hH : c.H0 p = none) (hw : ¬ g.wa p) : Fin K c g (upd H p o) w where
  fh := fun a u e => by rw [upd_ne (ne_of_none e hF)]; exact f.fh a u e
  kp := fun a u e t m n => by rw [upd_ne (ne_of_none e hH)]; exact f.kp a u e t m n
  le := f.le
  nf := f.nf
  wr := by
    have q := f.wr
    cases w with
    | none => exact q
    | some dr =>
      obtain ⟨a, l, c', e, h1, h2, h3⟩ := q
      have na : a ≠ p := fun z => hw ⟨a, l, c', e, .inl z.symm⟩
      have nl : l ≠ p := fun z => hw ⟨a, l, c', e, .inr z.symm⟩
      exact ⟨a, l, c', e, by rw [upd_ne na]; exact h1, by rw [upd_ne nl]; exact h2, h3⟩
  wf := f.wf
  wn := f.wn
  kt := f.kt
  tt := f.tt.core h0 c0
  th := fun a ps e => by
    by_cases q : a = p
    · subst q; rw [upd_same] at e; cases e; exact absurd rfl (core_ntbl co ps)
    · rw [upd_ne q] at e; exact f.th a ps e
  nt := f.nt
/-- an object of our own is frozen -/
theorem Fin.add (f : Fin K c g H w) {p : Addr} {o : HO} (hp : H p = some o) (no : ∀ ps, o ≠ .tbl ps) (hF : g.F p = none) (hH : c.H0 p = none) (hw : ¬ g.wa p) : Fin K c (g.add p o) H w where
  fh := fun a u e => by
    by_cases q : a = p
    · subst q
      have e : L2.upd g.F a o a = some u := e
      rw [upd_same] at e; cases e; exact hp
    · have e : L2.upd g.F p o a = some u := e
      rw [upd_ne q] at e; exact f.fh a u e
  kp := f.kp
  le := f.le.trans (.add hF)
  nf := fun a u e => by
    by_cases q : a = p
    · subst q; exact .inr (.inl hH)
    · have e : L2.upd g.F p o a = some u := e
      rw [upd_ne q] at e; exact f.nf a u e
  wr := f.wr.le (.add hF) rfl
  wf := fun a x => by
    have x : g.wa a := x
    have q : a ≠ p := fun z => hw (z ▸ x)
    show L2.upd g.F p o a = none
    rw [upd_ne q]; exact f.wf a x
  wn := f.wn
  kt := f.kt
  tt := f.tt
  th := f.th
  nt := fun a ps e => by
    by_cases q : a = p
    · subst q
      have e : L2.upd g.F a o a = some (.tbl ps) := e
      rw [upd_same] at e; cases e; exact no ps rfl
    · have e : L2.upd g.F p o a = some (.tbl ps) := e
      rw [upd_ne q] at e; exact f.nt a ps e
/-- a call's end behind the caller's state -/
theorem Fin.trans (f : Fin K c g H w) (f' : Fin K ⟨H, g⟩ g' H' w') : Fin K c g' H' w' where
  fh := f'.fh
  kp := fun a o e t m n => by
    have z := f.kp a o e t m fun x => n (f'.le.wa x)
    cases q : g.F a with
    | none => exact f'.kp a o z t q n
    | some u =>
      have y := f.fh a u q
      rw [z] at y; cases y
      rcases f.nf a o q with ⟨o', y⟩ | y | ⟨xs, y⟩
      · rw [m] at y; cases y
      · rw [e] at y; cases y
      · subst y
        exact f'.fh a _ (f'.le.tp a xs q)
  le := f.le.trans f'.le
  nf := fun a o e => by
    rcases f'.nf a o e with ⟨o', q⟩ | q | q
    · rcases f.nf a o' q with z | z | ⟨xs, z⟩
      · exact .inl z
      · exact .inr (.inl z)
      · subst z
        have := f'.le.tp a xs q
        rw [e] at this; cases this
        exact .inr (.inr ⟨xs, rfl⟩)
    · exact .inr (.inl (f.old q))
    · exact .inr (.inr q)
  wr := f'.wr
  wf := f'.wf
  wn := fun z a x => by
    cases q : g.hm with
    | none => exact f.old (f'.wn q a x)
    | some t =>
      obtain ⟨p, l, c', e, x⟩ := x
      have := f'.le.hm t q
      rw [e] at this; cases this
      exact f.wn z a ⟨p, l, c', q, x⟩
  kt := fun a ps e => by rw [f'.le.tb]; exact f.kt a ps e
  tt := f'.tt
  th := f'.th
  nt := f'.nt
/-- the state at a def's entry -/
structure Ok0 (K : PySem.W.Frag) (g : G) (H : Hp) (w : W) : Prop where
  fh : ∀ a o, g.F a = some o → H a = some o
  wr : WRel g H w
  wf : ∀ a, g.wa a → g.F a = none
  tt : Tb K g.tb H
  th : ∀ a ps, H a = some (.tbl ps) → ∃ q, (a, q) ∈ g.tb
  nt : ∀ a ps, g.F a ≠ some (.tbl ps)
theorem Fin.ok0 (f : Fin K c g H w) : Ok0 K g H w := ⟨f.fh, f.wr, f.wf, f.tt, f.th, f.nt⟩
theorem Fin.start (o : Ok0 K g H w) : Fin K ⟨H, g⟩ g H w :=
  ⟨o.fh, fun _ _ e _ _ _ => e, .refl g, fun a o e => .inl ⟨o, e⟩, o.wr, o.wf, fun z a x => (by
    obtain ⟨p, l, c', e, x⟩ := x
    have z : g.hm = none := z
    rw [z] at e; cases e), o.th, o.tt, o.th, o.nt⟩

theorem SlR.mono (x : g.Le g') {H H' : Hp} {v : Option (Option V)} {s : Sl} (h : SlR K c g H v s)
    (k : ∀ p o d, v = some (some (.ref p)) → s = .ow d → H p = some o → HoD K g o d → g.F p = none → c.H0 p = none → ¬ g.wa p → H' p = some o ∧ g'.F p = none ∧ ¬ g'.wa p) : SlR K c g' H' v s := by
  cases s with
  | no => trivial
  | fz d => obtain ⟨v', e, h⟩ := h; exact ⟨v', e, h.mono x⟩
  | ow d =>
    obtain ⟨p, o, e, h1, h2, h3, h4, h5⟩ := h
    obtain ⟨k1, k2, k3⟩ := k p o d e rfl h1 h2 h3 h4 h5
    exact ⟨p, o, e, k1, h2.mono x, k2, h4, k3⟩

theorem Rel.new (r : Rel K c g σ H st) {p : Addr} {o : HO} (h : H p = none) (no : ∀ ps, o ≠ .tbl ps := by exact fun _ z => nomatch z) : Rel K c g σ (upd H p o) st :=
  ⟨r.toFin.new h no, fun i s e => (r.sl i s e).mono (.refl g) fun q u d e1 e2 e3 _ e5 _ e7 => ⟨by rw [upd_ne (ne_of_none e3 h)]; exact e3, e5, e7⟩, r.len, r.dj⟩
theorem Rel.add (r : Rel K c g σ H st) {p : Addr} {o : HO} (hp : H p = some o) (no : ∀ ps, o ≠ .tbl ps) (hF : g.F p = none) (hH : c.H0 p = none) (hw : ¬ g.wa p) (ho : ∀ i, ¬ ownAt st σ i p) : Rel K c (g.add p o) σ H st :=
  ⟨r.toFin.add hp no hF hH hw, fun i s e => (r.sl i s e).mono (.add hF) fun q u d e1 e2 e3 _ e5 _ e7 => ⟨e3, by
    have n : q ≠ p := fun z => ho i ⟨⟨d, by rw [e, e2]⟩, by rw [e1, z]⟩
    show L2.upd g.F p o q = none
    rw [upd_ne n]; exact e5, e7⟩, r.len, r.dj⟩
/-- a slot is forgotten -/
theorem ownAt_set {st : S} {σ : L2.St} {i j : Nat} {p : Addr} {s : Sl} (h : ownAt { st with env := st.env.set i s } σ j p) (hs : ∀ d, s ≠ .ow d) : ownAt st σ j p := by
  obtain ⟨⟨d, h1⟩, h2⟩ := h
  refine ⟨⟨d, ?_⟩, h2⟩
  by_cases e : i = j
  · subst e
    have h1 : (st.env.set i s)[i]? = some (.ow d) := h1
    by_cases hl : i < st.env.length
    · rw [List.getElem?_set_self hl] at h1; cases h1; exact absurd rfl (hs d)
    · rw [List.getElem?_eq_none (by rw [List.length_set]; omega)] at h1; cases h1
  · have h1 : (st.env.set i s)[j]? = some (.ow d) := h1
    rw [List.getElem?_set_ne e] at h1; exact h1
theorem get_set_cases {α : Type} {l : List α} {i j : Nat} {x y : α} (h : (l.set i x)[j]? = some y) : (i = j ∧ y = x) ∨ (i ≠ j ∧ l[j]? = some y) := by
  by_cases e : i = j
  · subst e
    by_cases hl : i < l.length
    · rw [List.getElem?_set_self hl] at h; cases h; exact .inl ⟨rfl, rfl⟩
    · rw [List.getElem?_eq_none (by rw [List.length_set]; omega)] at h; cases h
  · rw [List.getElem?_set_ne e] at h; exact .inr ⟨e, h⟩
theorem Rel.slot (r : Rel K c g σ H st) {i : Nat} {s : Sl} (hs : ∀ d, s ≠ .ow d) (h : SlR K c g H σ[i]? s) : Rel K c g σ H { st with env := st.env.set i s } :=
  ⟨r.toFin, fun j t e => by
    rcases get_set_cases e with ⟨rfl, rfl⟩ | ⟨_, e⟩
    · exact h
    · exact r.sl j t e, by rw [r.len]; exact (List.length_set ..).symm, fun i' j p a b => r.dj i' j p (ownAt_set a hs) (ownAt_set b hs)⟩
/-- an owned object is frozen where it stands -/
theorem Rel.freeze (r : Rel K c g σ H st) {i : Nat} {d : D} (e : st.env[i]? = some (.ow d)) : ∃ p g', σ[i]? = some (some (.ref p)) ∧ g.Le g' ∧ Rel K c g' σ H { st with env := st.env.set i (.fz d) } ∧ Dn K g' (.ref p) d := by
  obtain ⟨p, o, e1, h1, h2, h3, h4, h5⟩ := r.sl i _ e
  have r1 : Rel K c g σ H { st with env := st.env.set i .no } := r.slot (fun _ z => nomatch z) trivial
  have no : ∀ j, ¬ ownAt { st with env := st.env.set i .no } σ j p := fun j z => by
    have z' := ownAt_set z (fun _ q => nomatch q)
    have q : i = j := r.dj i j p ⟨⟨d, e⟩, e1⟩ z'
    subst q
    obtain ⟨⟨d', z1⟩, _⟩ := z
    have z1 : (st.env.set i .no)[i]? = some (.ow d') := z1
    rcases get_set_cases z1 with ⟨_, q⟩ | ⟨q, _⟩
    · cases q
    · exact q rfl
  have r2 := r1.add h1 (core_ntbl h2.core) h3 h4 h5 no
  have dn : Dn K (g.add p o) (.ref p) d := (h2.mono (.add h3)).dn (by show L2.upd g.F p o p = _; exact upd_same)
  refine ⟨p, g.add p o, e1, .add h3, ?_, dn⟩
  have r3 := r2.slot (i := i) (s := .fz d) (fun _ z => nomatch z) ⟨.ref p, e1, dn⟩
  simpa using r3
theorem SlR.at_ow {v : Option (Option V)} {p : Addr} {d : D} (h : SlR K c g H v (.ow d)) (e : v = some (some (.ref p))) : ∃ o, H p = some o ∧ HoD K g o d ∧ g.F p = none ∧ c.H0 p = none ∧ ¬ g.wa p := by
  obtain ⟨q, o, e1, h1, h2, h3, h4, h5⟩ := h
  rw [e] at e1; cases e1
  exact ⟨o, h1, h2, h3, h4, h5⟩
/-- an owned object is changed -/
theorem Rel.mutate (r : Rel K c g σ H st) {i : Nat} {d d' : D} {p : Addr} {o' : HO} (e : st.env[i]? = some (.ow d)) (ep : σ[i]? = some (some (.ref p))) (h' : HoD K g o' d') :
    Rel K c g σ (upd H p o') { st with env := st.env.set i (.ow d') } := by
  obtain ⟨o, h1, h2, h3, h4, h5⟩ := (r.sl i _ e).at_ow ep
  have own : ∀ {j q}, ownAt { st with env := st.env.set i (.ow d') } σ j q → ownAt st σ j q := fun {j q} z => by
    obtain ⟨⟨x, z1⟩, z2⟩ := z
    rcases get_set_cases (show (st.env.set i (.ow d'))[j]? = some (.ow x) from z1) with ⟨rfl, _⟩ | ⟨_, z1⟩
    · exact ⟨⟨d, e⟩, z2⟩
    · exact ⟨⟨x, z1⟩, z2⟩
  refine ⟨r.toFin.upd h1 h2.core h'.core h3 h4 h5, fun j t q => ?_, by rw [r.len]; exact (List.length_set ..).symm, fun i' j q a b => r.dj i' j q (own a) (own b)⟩
  rcases get_set_cases (show (st.env.set i (.ow d'))[j]? = some t from q) with ⟨rfl, rfl⟩ | ⟨n, q⟩
  · exact ⟨p, o', ep, upd_same, h', h3, h4, h5⟩
  · refine (r.sl j t q).mono (.refl g) fun b u x e1 e2 e3 _ e5 _ e7 => ⟨?_, e5, e7⟩
    have nb : b ≠ p := fun z => n (r.dj i j p ⟨⟨d, e⟩, ep⟩ ⟨⟨x, by rw [q, e2]⟩, by rw [e1, z]⟩)
    rw [upd_ne nb]; exact e3
/-- a tuple that stands in the heap is taken note of -/
theorem Rel.addT (r : Rel K c g σ H st) {p : Addr} {xs : List V} (hp : H p = some (.tup xs)) : ∃ g', g.Le g' ∧ Rel K c g' σ H st ∧ g'.F p = some (.tup xs) := by
  cases hF : g.F p with
  | some o =>
    have q := r.toFin.fh p o hF
    rw [hp] at q; cases q
    exact ⟨g, .refl g, r, hF⟩
  | none =>
    have hw : ¬ g.wa p := fun x => by
      obtain ⟨a, l, c', e, x⟩ := x
      have w := r.toFin.wr
      cases hst : st.w with
      | none => rw [hst] at w; rw [show g.hm = none from w] at e; cases e
      | some dr =>
        rw [hst] at w
        obtain ⟨a', l', c2, e', h1, h2, _⟩ := w
        rw [e] at e'; cases e'
        rcases x with rfl | rfl
        · rw [hp] at h1; cases h1
        · rw [hp] at h2; cases h2
    have f := r.toFin
    refine ⟨g.add p (.tup xs), .add hF, ⟨⟨fun a u e => ?_, f.kp, f.le.trans (.add hF), fun a u e => ?_, f.wr.le (.add hF) rfl, fun a x => ?_, f.wn, f.kt, f.tt, f.th, fun a ps e => ?_⟩, fun i s e => (r.sl i s e).mono (.add hF) fun q u d e1 e2 e3 e4 e5 _ e7 => ⟨e3, ?_, e7⟩, r.len, r.dj⟩, by show L2.upd g.F p _ p = _; exact upd_same⟩
    · by_cases q : a = p
      · subst q
        have e : L2.upd g.F a (.tup xs) a = some u := e
        rw [upd_same] at e; cases e; exact hp
      · have e : L2.upd g.F p (.tup xs) a = some u := e
        rw [upd_ne q] at e; exact f.fh a u e
    · by_cases q : a = p
      · subst q
        have e : L2.upd g.F a (.tup xs) a = some u := e
        rw [upd_same] at e; cases e; exact .inr (.inr ⟨xs, rfl⟩)
      · have e : L2.upd g.F p (.tup xs) a = some u := e
        rw [upd_ne q] at e; exact f.nf a u e
    · have x : g.wa a := x
      have q : a ≠ p := fun z => hw (z ▸ x)
      show L2.upd g.F p (.tup xs) a = none
      rw [upd_ne q]; exact f.wf a x
    · by_cases q : a = p
      · subst q
        have e : L2.upd g.F a (.tup xs) a = some (.tbl ps) := e
        rw [upd_same] at e; cases e
      · have e : L2.upd g.F p (.tup xs) a = some (.tbl ps) := e
        rw [upd_ne q] at e; exact f.nt a ps e
    · have n : q ≠ p := fun z => by
        subst z
        rw [hp] at e3; cases e3; cases e4
      show L2.upd g.F p (.tup xs) q = none
      rw [upd_ne n]; exact e5
/-- a call has come back -/
theorem Rel.call (r : Rel K c g σ H st) (f : Fin K ⟨H, g⟩ g' H' w') : Rel K c g' σ H' { st with w := w' } :=
  ⟨r.toFin.trans f, fun i s e => (r.sl i s e).mono f.le fun p o d e1 e2 e3 e4 e5 e6 e7 => by
    have nw : ¬ g'.wa p := fun x => by
      -- an address of the world behind the call: it was one, or is new
      have z := f.wf p x
      rcases Classical.em (g.wa p) with y | y
      · exact e7 y
      · obtain ⟨a, l, c', e, x⟩ := x
        cases hg : g.hm with
        | none =>
          have z2 : H p = none := f.wn hg p ⟨a, l, c', e, x⟩
          rw [e3] at z2; cases z2
        | some t =>
          have := f.le.hm t hg
          rw [e] at this; cases this
          exact y ⟨a, l, c', hg, x⟩
    have F' : g'.F p = none := by
      cases q : g'.F p with
      | none => rfl
      | some o' =>
        rcases f.nf p o' q with ⟨o2, z⟩ | z | ⟨xs, z⟩
        · have z : g.F p = some o2 := z
          have e5 : g.F p = none := e5
          rw [e5] at z; cases z
        · have z : H p = none := z
          rw [e3] at z; cases z
        · have y := f.fh p o' q
          rw [f.kp p o e3 (core_ntbl e4.core) e5 nw] at y; cases y
          subst z
          cases e4
    exact ⟨f.kp p o e3 (core_ntbl e4.core) e5 nw, F', nw⟩, r.len, r.dj⟩
/-- a dict that is only read from now on, as it stands -/
theorem Rel.lock (r : Rel K c g σ H st) {d : Addr} {u : HO} (od : Obj) (h : g.F d = some u) (mu : Mut (some u)) (hl : ∀ xs, u ≠ .lst xs) (cu : Core u) :
    g.Le (g.add d (.frz od u)) ∧ Rel K c (g.add d (.frz od u)) σ (upd H d (.frz od u)) st := by
  have hH := r.toFin.fh d u h
  have nt : ∀ xs, u ≠ .tup xs := fun xs e => by subst e; exact mu
  have nz : ∀ o u', u ≠ .frz o u' := fun o u' e => by subst e; exact mu
  have le : g.Le (g.add d (.frz od u)) := by
    refine ⟨fun a u' _ q => ?_, fun a xs q => ?_, fun a xs q => ?_, fun _ e => e, fun a o q => ?_, fun a o u' q => ?_, rfl⟩
    · by_cases e : a = d
      · subst e
        have : u' = u := by
          rcases q with q | ⟨o, q⟩
          · rw [h] at q; exact (Option.some.inj q).symm
          · rw [h] at q; exact absurd (Option.some.inj q) (nz o u')
        subst this
        exact .inr ⟨od, by show L2.upd g.F a _ a = _; exact upd_same⟩
      · rcases q with q | ⟨o, q⟩
        · exact .inl (by show L2.upd g.F d _ a = _; rw [upd_ne e]; exact q)
        · exact .inr ⟨o, by show L2.upd g.F d _ a = _; rw [upd_ne e]; exact q⟩
    · have e : a ≠ d := fun z => by subst z; rw [h] at q; exact nt xs (Option.some.inj q)
      show L2.upd g.F d _ a = _; rw [upd_ne e]; exact q
    · have e : a ≠ d := fun z => by subst z; rw [h] at q; exact hl xs (Option.some.inj q)
      show L2.upd g.F d _ a = _; rw [upd_ne e]; exact q
    · by_cases e : a = d
      · exact ⟨_, by subst e; show L2.upd g.F a _ a = _; exact upd_same⟩
      · exact ⟨o, by show L2.upd g.F d _ a = _; rw [upd_ne e]; exact q⟩
    · have e : a ≠ d := fun z => by subst z; rw [h] at q; exact nz o u' (Option.some.inj q)
      show L2.upd g.F d _ a = _; rw [upd_ne e]; exact q
  have f := r.toFin
  have nw : ¬ g.wa d := fun x => by rw [f.wf d x] at h; cases h
  refine ⟨le, ⟨fun a o e => ?_, fun a o e t m n => ?_, f.le.trans le, fun a o e => ?_, ?_, fun a x => ?_, f.wn, f.kt, ?_, fun a ps e => ?_, fun a ps e => ?_⟩, fun i s e => (r.sl i s e).mono le fun q o x e1 e2 e3 e4 e5 e6 e7 => ?_, r.len, r.dj⟩
  · by_cases z : a = d
    · subst z
      have e : L2.upd g.F a (.frz od u) a = some o := e
      rw [upd_same] at e; cases e; exact upd_same
    · have e : L2.upd g.F d (.frz od u) a = some o := e
      rw [upd_ne z] at e; rw [upd_ne z]; exact f.fh a o e
  · have z : a ≠ d := fun z => by
      subst z
      rcases f.nf a u h with ⟨o', y⟩ | y | ⟨xs, y⟩
      · rw [m] at y; cases y
      · rw [e] at y; cases y
      · exact nt xs y
    rw [upd_ne z]; exact f.kp a o e t m n
  · by_cases z : a = d
    · subst z
      rcases f.nf a u h with y | y | ⟨xs, y⟩
      · exact .inl y
      · exact .inr (.inl y)
      · exact absurd y (nt xs)
    · have e : L2.upd g.F d (.frz od u) a = some o := e
      rw [upd_ne z] at e; exact f.nf a o e
  · have q := f.wr
    cases hw : st.w with
    | none => rw [hw] at q; exact q
    | some dr =>
      rw [hw] at q
      obtain ⟨a, l, c', e, h1, h2, h3⟩ := q
      have na : a ≠ d := fun z => nw ⟨a, l, c', e, .inl z.symm⟩
      have nl : l ≠ d := fun z => nw ⟨a, l, c', e, .inr z.symm⟩
      exact ⟨a, l, c', e, by rw [upd_ne na]; exact h1, by rw [upd_ne nl]; exact h2, le.ls _ _ h3⟩
  · have x : g.wa a := x
    have z : a ≠ d := fun z => nw (z ▸ x)
    show L2.upd g.F d (.frz od u) a = none
    rw [upd_ne z]; exact f.wf a x
  · exact f.tt.core hH cu
  · by_cases z : a = d
    · subst z; rw [upd_same] at e; cases e
    · rw [upd_ne z] at e; exact f.th a ps e
  · by_cases z : a = d
    · subst z
      have e : L2.upd g.F a (.frz od u) a = some (.tbl ps) := e
      rw [upd_same] at e; cases e
    · have e : L2.upd g.F d (.frz od u) a = some (.tbl ps) := e
      rw [upd_ne z] at e; exact f.nt a ps e
  · have z : q ≠ d := fun z => by subst z; rw [h] at e5; cases e5
    exact ⟨by rw [upd_ne z]; exact e3, by show L2.upd g.F d (.frz od u) q = none; rw [upd_ne z]; exact e5, e7⟩
end
end PV
set_option maxHeartbeats 4000000
/-! What a run gives, and the readings made of it. -/
namespace PV
open PySem L2

structure Exn where
  cls : Str
  at' : Option Int
inductive R (α : Type) where
  | ok (a : α) (st : S)
  | ex (e : Exn) (w : W)
  | bad
def R.bind {α β : Type} (r : R α) (k : α → S → R β) : R β :=
  match r with
  | .ok a st => k a st
  | .ex e w => .ex e w
  | .bad => .bad
@[simp] theorem R.bind_ok {α β : Type} (a : α) (st : S) (k : α → S → R β) : (R.ok a st).bind k = k a st := rfl
@[simp] theorem R.bind_ex {α β : Type} (e : Exn) (w : W) (k : α → S → R β) : (R.ex e w : R α).bind k = .ex e w := rfl
@[simp] theorem R.bind_bad {α β : Type} (k : α → S → R β) : (R.bad : R α).bind k = .bad := rfl
theorem R.bind_assoc {α β γ : Type} (r : R α) (k : α → S → R β) (j : β → S → R γ) : (r.bind k).bind j = r.bind fun a s => (k a s).bind j := by cases r <;> rfl

/-- a value: whether it is a new mutable object, its data -/
abbrev Vl := Bool × D
abbrev DE := S → R Vl
abbrev DT := S → R Bool
abbrev DA := S → R (List D)
/-- of a partial function of data: the answer, else nothing is said -/
def ofO {α : Type} (o : Option α) (st : S) : R α := match o with | some a => .ok a st | none => .bad
@[simp] theorem ofO_some {α : Type} (a : α) (st : S) : ofO (some a) st = .ok a st := rfl
@[simp] theorem ofO_none {α : Type} (st : S) : ofO (none : Option α) st = .bad := rfl

/-- what an exception is, as value and dict; the context's wish -/
structure XC where
  xr : Exn → Value → Option Addr → Hp → Prop
  E : XK

section
variable (K : PySem.W.Frag) (x : XC)
def VlR (c : C) (g : G) (H : Hp) (σ : L2.St) (st : S) (v : V) : Vl → Prop
  | (false, d) => Dn K g v d
  | (true, d) => ∃ p o, v = .ref p ∧ H p = some o ∧ HoD K g o d ∧ g.F p = none ∧ c.H0 p = none ∧ ¬ g.wa p ∧ ∀ i, ¬ ownAt st σ i p
def XP (c : C) (g : G) (e : Exn) (w : W) : Prop := ∀ cls dx g' H', g.Le g' → Fin K c g' H' w → x.xr e cls dx H' → x.E cls dx H'
def Post {α β : Type} (c : C) (g : G) (σ : L2.St) (A : G → Hp → S → α → β → Prop) (Q : β → Hp → Prop) : R α → Prop
  | .ok a st => ∀ b g' H', g.Le g' → Rel K c g' σ H' st → A g' H' st a b → Q b H'
  | .ex e w => XP K x c g e w
  | .bad => False
def tS (f : DE) : TE := fun σ H Q => ∃ c g st, Rel K c g σ H st ∧ Post K x c g σ (fun g' H' st' a v => VlR K c g' H' σ st' v a) Q (f st)
def tT (f : DT) : TT := fun σ H Q => ∃ c g st, Rel K c g σ H st ∧ Post K x c g σ (fun _ _ _ a b => a = b) Q (f st)
def tA (f : DA) : TA := fun σ H Q => ∃ c g st, Rel K c g σ H st ∧ Post K x c g σ (fun g' _ _ ds vs => DnAll K g' vs ds) Q (f st)
end

section
variable {K : PySem.W.Frag} {x : XC} {c : C} {g g' : G} {σ : L2.St} {H : Hp} {st : S}
theorem XP.mono {e : Exn} {w : W} (h : XP K x c g e w) (l : g.Le g') : XP K x c g' e w := fun cls dx g2 H2 l2 f r => h cls dx g2 H2 (l.trans l2) f r
theorem Post.mono {α β : Type} {A : G → Hp → S → α → β → Prop} {Q : β → Hp → Prop} {r : R α} (h : Post K x c g σ A Q r) (l : g.Le g') : Post K x c g' σ A Q r := by
  cases r with
  | ok a st => exact fun b g2 H2 l2 r k => h b g2 H2 (l.trans l2) r k
  | ex e w => exact XP.mono h l
  | bad => exact h
theorem Post.bind {α β α' β' : Type} {A : G → Hp → S → α → β → Prop} {Q : β → Hp → Prop} {A' : G → Hp → S → α' → β' → Prop} {Q' : β' → Hp → Prop} {r : R α'} {k : α' → S → R α}
    (h : Post K x c g σ A Q (r.bind k)) (step : ∀ a st' b g' H', g.Le g' → Rel K c g' σ H' st' → A' g' H' st' a b → Post K x c g' σ A Q (k a st') → Q' b H') : Post K x c g σ A' Q' r := by
  cases r with
  | ok a st => exact fun b g' H' l r q => step a st b g' H' l r q (Post.mono h l)
  | ex e w => exact h
  | bad => exact h
theorem Post.imp {α β : Type} {A : G → Hp → S → α → β → Prop} {Q Q' : β → Hp → Prop} {r : R α} (h : Post K x c g σ A Q r) (k : ∀ b H', Q b H' → Q' b H') : Post K x c g σ A Q' r := by
  cases r with
  | ok a st => exact fun b g' H' l r q => k b H' (h b g' H' l r q)
  | ex e w => exact h
  | bad => exact h
/-- a value is held: frozen if it is new -/
theorem VlR.fz {v : V} {a : Vl} (r : Rel K c g σ H st) (h : VlR K c g H σ st v a) : ∃ g', g.Le g' ∧ Rel K c g' σ H st ∧ Dn K g' v a.2 := by
  obtain ⟨b, d⟩ := a
  cases b with
  | false => exact ⟨g, .refl g, r, h⟩
  | true =>
    obtain ⟨p, o, rfl, h1, h2, h3, h4, h5, h6⟩ := h
    exact ⟨g.add p o, .add h3, r.add h1 (core_ntbl h2.core) h3 h4 h5 h6, (h2.mono (.add h3)).dn (by show L2.upd g.F p o p = _; exact upd_same)⟩
/-- a new mutable object as a value -/
theorem VlR.new {p : Addr} {o : HO} {d : D} (r : Rel K c g σ H st) (hp : H p = none) (h : HoD K g o d) : VlR K c g (upd H p o) σ st (.ref p) (true, d) :=
  ⟨p, o, rfl, upd_same, h, r.toFin.sub hp, r.toFin.old hp, r.toFin.nwa hp, fun i z => by
    obtain ⟨⟨d', z1⟩, z2⟩ := z
    obtain ⟨o', h1, _⟩ := (r.sl i _ z1).at_ow z2
    rw [hp] at h1; cases h1⟩
/-- a new tuple as a value -/
theorem new_tup {p : Addr} {xs : List V} {ds : List D} (r : Rel K c g σ H st) (hp : H p = none) (h : DnAll K g xs ds) :
    ∃ g', g.Le g' ∧ Rel K c g' σ (upd H p (.tup xs)) st ∧ Dn K g' (.ref p) (.tup ds) := by
  have hF := r.toFin.sub hp
  refine ⟨g.add p (.tup xs), .add hF, (r.new hp).add upd_same (fun _ z => nomatch z) hF (r.toFin.old hp) (r.toFin.nwa hp) (fun i z => ?_), .tup (.inl (by show L2.upd g.F p _ p = _; exact upd_same)) (h.mono (.add hF))⟩
  obtain ⟨⟨d', z1⟩, z2⟩ := z
  obtain ⟨o', h1, _⟩ := (r.sl i _ z1).at_ow z2
  rw [hp] at h1; cases h1
end

section
variable {X : Cx} {x : XC} {e a b : Expr} {pos : Pos}
theorem _root_.L2.PE.imp {t t' : TE} (h : PE X e t) (k : ∀ σ H Q, t' σ H Q → t σ H Q) : PE X e t' := ⟨fun pins s σ H Q I hw => h.run pins s σ H Q I (k σ H Q hw)⟩
theorem _root_.L2.PT.imp {t t' : TT} (h : PT X e t) (k : ∀ σ H Q, t' σ H Q → t σ H Q) : PT X e t' := ⟨fun pins s σ H Q I hw => h.run pins s σ H Q I (k σ H Q hw)⟩
theorem _root_.L2.PW.imp {t t' : TT} (h : PW X e t) (k : ∀ σ H Q, t' σ H Q → t σ H Q) : PW X e t' := ⟨fun wh pins s σ H Q I hw => h.run wh pins s σ H Q I (k σ H Q hw)⟩
theorem _root_.L2.PA.imp {es : List Expr} {t t' : TA} (h : PA X es t) (k : ∀ σ H Q, t' σ H Q → t σ H Q) : PA X es t' := ⟨fun pos pins s σ H Q I hw => h.run pos pins s σ H Q I (k σ H Q hw)⟩
theorem _root_.L2.PS.imp {st : Stmt} {t t' : TS} (h : PS X st t) (k : ∀ D σ H, t' D σ H → t D σ H) : PS X st t' := ⟨fun pins s σ H D I hw => h.run pins s σ H D I (k D σ H hw)⟩
theorem _root_.L2.PSs.imp {st : List Stmt} {t t' : TS} (h : PSs X st t) (k : ∀ D σ H, t' D σ H → t D σ H) : PSs X st t' := ⟨fun pins s σ H D I hw => h.run pins s σ H D I (k D σ H hw)⟩

/-! ### constants and names -/
def cE (d : D) : DE := fun st => .ok (false, d) st
theorem tC_of {v : V} {d : D} (h : ∀ g, Dn X.K g v d) : ∀ (σ : L2.St) H Q, tS X.K x (cE d) σ H Q → tC v σ H Q := fun σ H Q ⟨c, g, st, r, q⟩ => q v g H (.refl g) r (h g)
theorem sE_int {i : Int} {j : Nat} : PE X (.Constant (.int i) j pos) (tS X.K x (cE (.int i))) := pe_int.imp (tC_of fun _ => .int i)
theorem sE_bl {i : Bool} {j : Nat} : PE X (.Constant (.bool i) j pos) (tS X.K x (cE (.bl i))) := pe_bl.imp (tC_of fun _ => .bl i)
theorem sE_non {j : Nat} : PE X (.Constant .none j pos) (tS X.K x (cE .non)) := pe_non.imp (tC_of fun _ => .non)
theorem sE_str {i : Str} {j : Nat} : PE X (.Constant (.str i) j pos) (tS X.K x (cE (.str i))) := pe_str.imp (tC_of fun _ => .str i)

/-- a local name's value; a new object there is frozen from now on -/
def nE (i : Nat) : DE := fun st => match st.env[i]? with
  | some (.fz d) => .ok (false, d) st
  | some (.ow d) => .ok (false, d) { st with env := st.env.set i (.fz d) }
  | _ => .bad
theorem sE_name {i : Nat} {y : Str} (hN : X.N[i]? = some y) (hv : Vis X.env.scope y) (hd : (y == ("__debug__" : Str)) = false) (hcd : (y == ("__classdict__" : Str)) = false) : PE X (.Name y pos) (tS X.K x (nE i)) :=
  (pe_var hN hv hd hcd).imp fun σ H Q ⟨c, g, st, r, q⟩ => by
    unfold nE at q
    cases e : st.env[i]? with
    | none => rw [e] at q; exact q.elim
    | some s =>
      rw [e] at q
      cases s with
      | no => exact q.elim
      | fz d =>
        obtain ⟨v, h1, h2⟩ := r.sl i _ e
        exact ⟨v, h1, q v g H (.refl g) r h2⟩
      | ow d =>
        obtain ⟨p, g', h1, l, r', h2⟩ := r.freeze e
        exact ⟨.ref p, h1, q (.ref p) g' H l r' h2⟩
/-- .. moved out of the name -/
def mE (i : Nat) : DE := fun st => match st.env[i]? with
  | some (.fz d) => .ok (false, d) st
  | some (.ow d) => .ok (true, d) { st with env := st.env.set i .no }
  | _ => .bad
theorem sE_move {i : Nat} {y : Str} (hN : X.N[i]? = some y) (hv : Vis X.env.scope y) (hd : (y == ("__debug__" : Str)) = false) (hcd : (y == ("__classdict__" : Str)) = false) : PE X (.Name y pos) (tS X.K x (mE i)) :=
  (pe_var hN hv hd hcd).imp fun σ H Q ⟨c, g, st, r, q⟩ => by
    unfold mE at q
    cases e : st.env[i]? with
    | none => rw [e] at q; exact q.elim
    | some s =>
      rw [e] at q
      cases s with
      | no => exact q.elim
      | fz d =>
        obtain ⟨v, h1, h2⟩ := r.sl i _ e
        exact ⟨v, h1, q v g H (.refl g) r h2⟩
      | ow d =>
        obtain ⟨p, o, e1, h1, h2, h3, h4, h5⟩ := r.sl i _ e
        refine ⟨.ref p, e1, q (.ref p) g H (.refl g) (r.slot (fun _ z => nomatch z) trivial) ⟨p, o, rfl, h1, h2, h3, h4, h5, fun j z => ?_⟩⟩
        have z' := ownAt_set z (fun _ q => nomatch q)
        have w : i = j := r.dj i j p ⟨⟨d, e⟩, e1⟩ z'
        subst w
        obtain ⟨⟨d', z1⟩, _⟩ := z
        rcases get_set_cases (show (st.env.set i .no)[i]? = some (.ow d') from z1) with ⟨_, w⟩ | ⟨w, _⟩
        · cases w
        · exact w rfl
/-- a constant of the module -/
theorem sE_glob {y : Str} {u : Value} {v : V} {d : D} (hg : Gl X y) (hm : X.mg y = some u) (rv : RelV v u) (hd : (y == ("__debug__" : Str)) = false) (h : ∀ g, Dn X.K g v d) : PE X (.Name y pos) (tS X.K x (cE d)) := (pe_glob hg hm rv hd).imp (tC_of h)

/-! ### two parts -/
def bE (k : D → D → Option Vl) (f h : DE) : DE := fun st => (f st).bind fun a st => (h st).bind fun b st => ofO (k a.2 b.2) st
/-- an operation by its reading: what it gives of data -/
def OpD (K : PySem.W.Frag) (r : R2) (k : D → D → Option Vl) : Prop := ∀ (c : C) (g : G) (σ : L2.St) (H : Hp) (st : S) (v u : V) (d e : D) (a : Vl) (Q : VK), Rel K c g σ H st → Dn K g v d → Dn K g u e → k d e = some a →
  (∀ z g' H', g.Le g' → Rel K c g' σ H' st → VlR K c g' H' σ st z a → Q z H') → r v u H Q
theorem tOp_of {r : R2} {k : D → D → Option Vl} {f h : DE} (o : OpD X.K r k) : ∀ (σ : L2.St) H Q, tS X.K x (bE k f h) σ H Q → tOp r (tS X.K x f) (tS X.K x h) σ H Q := fun σ H Q ⟨c, g, st, rl, q⟩ => by
  unfold bE at q
  refine ⟨c, g, st, rl, q.bind fun a st1 v g1 H1 l1 r1 h1 q1 => ?_⟩
  obtain ⟨g1', l1', r1', d1⟩ := h1.fz r1
  refine ⟨c, g1', st1, r1', (q1.mono l1').bind fun b st2 u g2 H2 l2 r2 h2 q2 => ?_⟩
  obtain ⟨g2', l2', r2', d2⟩ := h2.fz r2
  have q3 := q2.mono l2'
  cases e : k a.2 b.2 with
  | none => rw [e] at q3; exact q3.elim
  | some z =>
    rw [e] at q3
    exact o c g2' σ H2 st2 v u a.2 b.2 z Q r2' (d1.mono (l2.trans l2')) d2 e fun z' g' H' l r hz => q3 z' g' H' l r hz
theorem sE_bin {op : Operator} {r : R2} {k : D → D → Option Vl} {f h : DE} (ho : OpR X (binaryOp op) r) (o : OpD X.K r k) (ha : PE X a (tS X.K x f)) (hb : PE X b (tS X.K x h)) : PE X (.BinOp a op b pos) (tS X.K x (bE k f h)) := (pe_op ho ha hb).imp (tOp_of o)
theorem OpD.or {K : PySem.W.Frag} {r r' : R2} {k k' : D → D → Option Vl} (o : OpD K r k) (o' : OpD K r' k') : OpD K (fun x y H Q => r x y H Q ∨ r' x y H Q) (fun d e => (k d e).orElse fun _ => k' d e) :=
  fun c g σ H st v u d e a Q rl hv hu he hq => by
    have he : (k d e).orElse (fun _ => k' d e) = some a := he
    cases z : k d e with
    | some y =>
      rw [z] at he
      have : y = a := by simpa using he
      subst this
      exact .inl (o c g σ H st v u d e y Q rl hv hu z hq)
    | none =>
      rw [z] at he
      exact .inr (o' c g σ H st v u d e a Q rl hv hu (by simpa using he) hq)
end
end PV
set_option maxHeartbeats 4000000
/-! Operators on data. -/
namespace PV
open PySem L2

mutual
def D.py : D → PyData
  | .non => .none
  | .bl b => .bool b
  | .int i => .int i
  | .str x => .str x
  | .lst xs => .list (D.pyAll xs)
  | .tup xs => .tuple (D.pyAll xs)
  | .dK _ _ => .dict []
  | .dT _ _ => .dict []
  | .hnd => .dict []
  | .ro _ => .dict []
def D.pyAll : List D → List PyData
  | [] => []
  | x :: xs => D.py x :: D.pyAll xs
end
theorem D.pyAll_map : ∀ xs : List D, D.pyAll xs = xs.map D.py
  | [] => rfl
  | x :: xs => by rw [D.pyAll, D.pyAll_map xs, List.map_cons]
/-- no dict within, at most so deep -/
def D.pl : Nat → D → Bool
  | _, .non => true
  | _, .bl _ => true
  | _, .int _ => true
  | _, .str _ => true
  | n + 1, .lst xs => xs.all (D.pl n)
  | n + 1, .tup xs => xs.all (D.pl n)
  | _, _ => false

theorem plainAll_iff : ∀ xs : List PyData, PyData.plainAll xs = xs.all PyData.plain
  | [] => rfl
  | x :: xs => by rw [PyData.plainAll, plainAll_iff xs, List.all_cons]
theorem depthAll_le {n : Nat} : ∀ xs : List PyData, (∀ x ∈ xs, x.depth ≤ n) → PyData.depthAll xs ≤ n
  | [], _ => Nat.zero_le _
  | x :: xs, h => by
    rw [PyData.depthAll]
    exact Nat.max_le.mpr ⟨h x (List.mem_cons_self ..), depthAll_le xs fun y hy => h y (List.mem_cons_of_mem _ hy)⟩
theorem pl_ok : ∀ (n : Nat) (d : D), d.pl n = true → d.py.plain = true ∧ d.py.depth ≤ n := by
  intro n
  induction n with
  | zero =>
    intro d h
    cases d <;> first | exact ⟨rfl, Nat.le_refl _⟩ | (simp [D.pl] at h)
  | succ n ih =>
    intro d h
    have seq : ∀ xs : List D, xs.all (D.pl n) = true → PyData.plainAll (D.pyAll xs) = true ∧ PyData.depthAll (D.pyAll xs) ≤ n := fun xs q => by
      rw [List.all_eq_true] at q
      rw [D.pyAll_map, plainAll_iff]
      refine ⟨List.all_eq_true.mpr fun y hy => ?_, depthAll_le _ fun y hy => ?_⟩
      · obtain ⟨z, hz, rfl⟩ := List.mem_map.mp hy
        exact (ih z (q z hz)).1
      · obtain ⟨z, hz, rfl⟩ := List.mem_map.mp hy
        exact (ih z (q z hz)).2
    cases d with
    | lst xs =>
      obtain ⟨a, b⟩ := seq xs (by simpa [D.pl] using h)
      exact ⟨by rw [D.py, PyData.plain]; exact a, by rw [D.py, PyData.depth]; omega⟩
    | tup xs =>
      obtain ⟨a, b⟩ := seq xs (by simpa [D.pl] using h)
      exact ⟨by rw [D.py, PyData.plain]; exact a, by rw [D.py, PyData.depth]; omega⟩
    | non => exact ⟨rfl, Nat.zero_le _⟩
    | bl _ => exact ⟨rfl, Nat.zero_le _⟩
    | int _ => exact ⟨rfl, Nat.zero_le _⟩
    | str _ => exact ⟨rfl, Nat.zero_le _⟩
    | dK _ _ => simp [D.pl] at h
    | dT _ _ => simp [D.pl] at h
    | hnd => simp [D.pl] at h
    | ro _ => simp [D.pl] at h

section
variable {K : PySem.W.Frag} {c : C} {g : G} {H : Hp} {w : W}
mutual
theorem Dn.dp (f : Fin K c g H w) : ∀ (n : Nat) (d : D) (v : V), d.pl n = true → Dn K g v d → Dp K H v d.py
  | _, .non, _, _, h => by cases h; exact .non
  | _, .bl _, _, _, h => by cases h; exact .bl _
  | _, .int _, _, _, h => by cases h; exact .int _
  | _, .str _, _, _, h => by cases h; exact .str _
  | n + 1, .lst xs, _, p, h => by
    cases h with
    | lst e r => exact .lst (.inl (.inl (f.fh _ _ e))) (DnAll.dp f n xs _ (by simpa [D.pl] using p) r)
  | n + 1, .tup xs, _, p, h => by
    cases h with
    | tup e r => exact .tup (f.sqT e.sqT) (DnAll.dp f n xs _ (by simpa [D.pl] using p) r)
  | 0, .lst _, _, p, _ => by simp [D.pl] at p
  | 0, .tup _, _, p, _ => by simp [D.pl] at p
  | _, .dK _ _, _, p, _ => by simp [D.pl] at p
  | _, .dT _ _, _, p, _ => by simp [D.pl] at p
  | _, .hnd, _, p, _ => by simp [D.pl] at p
  | _, .ro _, _, p, _ => by simp [D.pl] at p
theorem DnAll.dp (f : Fin K c g H w) : ∀ (n : Nat) (ds : List D) (vs : List V), (∀ x ∈ ds, D.pl n x = true) → DnAll K g vs ds → DpAll K H vs (D.pyAll ds)
  | _, [], _, _, h => by cases h; exact .nil
  | n, d :: ds, _, p, h => by
    cases h with
    | cons a r => exact .cons (Dn.dp f n d _ (p d (List.mem_cons_self ..)) a) (DnAll.dp f n ds _ (fun x hx => p x (List.mem_cons_of_mem _ hx)) r)
end
end

/-- how deep data may be that are compared, sorted, told -/
abbrev deep : Nat := 16

/-! ### == and the rest of two data -/
/-- two data, looked at -/
def rDD (K : PySem.W.Frag) (k : PyData → PyData → Bool) (ok : PyData → PyData → Prop) : R2 := fun x y H Q => ∃ d e, Dp K H x d ∧ Dp K H y e ∧ d.plain = true ∧ e.plain = true ∧ d.depth ≤ deep ∧ ok d e ∧ Q (.bl (k d e)) H
section
variable {X : Cx}
theorem opr_data {op : Value → Value → Sem Value} {k : PyData → PyData → Bool} {ok : PyData → PyData → Prop} (hu : X.A.units + 64 < cLine)
    (rule : ∀ (s : Shared) (a b : Value) (da db : PyData) (as bs : List Addr) (Q : Value → Shared → Prop), Reads s.heap a da as → Reads s.heap b db bs → da.plain = true → db.plain = true → ok da db → X.A.units + min da.depth db.depth < cLine → Q (.bool (k da db)) s → wpAny (model X.prog X.w) X.A (op a b) Q X.xe s) :
    OpR X op (rDD X.K k ok) := by
  intro pins s σ H x y v u Q I rx ry h
  obtain ⟨d, e, hd, he, pd, pe, dd, o, q⟩ := h
  obtain ⟨as, r1⟩ := Dp.reads I d x v hd rx
  obtain ⟨bs, r2⟩ := Dp.reads I e y u he ry
  refine rule s v u d e as bs _ r1 r2 pd pe o ?_ ⟨.bl _, H, I, rfl, q⟩
  have : min d.depth e.depth ≤ d.depth := Nat.min_le_left _ _
  have : deep = 16 := rfl
  omega
def dd (k : PyData → PyData → Bool) (ok : PyData → PyData → Bool) (d e : D) : Option Vl := if d.pl deep && e.pl deep && ok d.py e.py then some (false, .bl (k d.py e.py)) else none
theorem opD_data {k : PyData → PyData → Bool} {ok : PyData → PyData → Bool} {K : PySem.W.Frag} : OpD K (rDD K k fun d e => ok d e = true) (dd k ok) := fun c g σ H st v u d e a Q r hv hu he q => by
  unfold dd at he
  split at he
  · rename_i h
    simp only [Bool.and_eq_true] at h
    obtain ⟨⟨h1, h2⟩, h3⟩ := h
    cases he
    obtain ⟨p1, q1⟩ := pl_ok _ _ h1
    obtain ⟨p2, q2⟩ := pl_ok _ _ h2
    exact ⟨_, _, hv.dp r.toFin _ _ _ h1, hu.dp r.toFin _ _ _ h2, p1, p2, q1, h3, q _ g H (.refl g) r (.bl _)⟩
  · cases he
theorem op_eqP (hu : X.A.units + 64 < cLine) : OpR X (compareOp .Eq) (rDD X.K PyData.eqv fun d e => (fun _ _ => true) d e = true) := opr_data hu fun _ _ _ _ _ _ _ _ r1 r2 p1 p2 _ h q => SeqAt.eq_plain r1 r2 p1 p2 h q
theorem op_neP (hu : X.A.units + 64 < cLine) : OpR X (compareOp .NotEq) (rDD X.K (fun d e => !PyData.eqv d e) fun d e => (fun _ _ => true) d e = true) := opr_data hu fun _ _ _ _ _ _ _ _ r1 r2 p1 p2 _ h q => SeqAt.ne_plain r1 r2 p1 p2 h q
/-- comparable, no None -/
def cmpOk (d e : PyData) : Bool := PySem.W.alike d e && (match d with | .none => false | _ => true)
theorem cmpOk_ne {d e : PyData} (h : cmpOk d e = true) : PySem.W.alike d e = true ∧ d ≠ .none := by
  unfold cmpOk at h
  rw [Bool.and_eq_true] at h
  refine ⟨h.1, fun z => ?_⟩
  subst z
  exact absurd h.2 (by simp)
theorem op_ltP (hu : X.A.units + 64 < cLine) : OpR X (compareOp .Lt) (rDD X.K PySem.W.dataLt fun d e => cmpOk d e = true) := opr_data hu fun _ _ _ _ _ _ _ _ r1 r2 p1 p2 o h q => PySem.W.lt_data r1 r2 (cmpOk_ne o).1 (cmpOk_ne o).2 h q
theorem op_gtP (hu : X.A.units + 64 < cLine) : OpR X (compareOp .Gt) (rDD X.K (fun d e => PySem.W.dataLt e d) fun d e => cmpOk d e = true) := opr_data hu fun _ _ _ _ _ _ _ _ r1 r2 p1 p2 o h q => PySem.W.gt_data r1 r2 (cmpOk_ne o).1 (cmpOk_ne o).2 h q
theorem op_leP (hu : X.A.units + 64 < cLine) : OpR X (compareOp .LtE) (rDD X.K (fun d e => !PySem.W.dataLt e d) fun d e => cmpOk d e = true) := opr_data hu fun _ _ _ _ _ _ _ _ r1 r2 p1 p2 o h q => PySem.W.le_data r1 r2 (cmpOk_ne o).1 (cmpOk_ne o).2 h q
theorem op_geP (hu : X.A.units + 64 < cLine) : OpR X (compareOp .GtE) (rDD X.K (fun d e => !PySem.W.dataLt d e) fun d e => cmpOk d e = true) := opr_data hu fun _ _ _ _ _ _ _ _ r1 r2 p1 p2 o h q => PySem.W.ge_data r1 r2 (cmpOk_ne o).1 (cmpOk_ne o).2 h q

/-! ### arithmetic -/
def k1 (f : Int → Int → Option Int) : D → D → Option Vl
  | .int i, .int j => (f i j).map fun z => (false, .int z)
  | _, _ => none
theorem opD_int {K : PySem.W.Frag} {P : Int → Int → Prop} {f : Int → Int → Option Int} {h : Int → Int → Int} (e : ∀ i j z, f i j = some z → P i j ∧ z = h i j) : OpD K (rI P fun i j => .int (h i j)) (k1 f) := fun c g σ H st v u d d' a Q r hv hu he q => by
  cases d <;> cases d' <;> simp only [k1, Option.map_eq_some_iff] at he <;> try (cases he)
  rename_i i j z hz
  obtain ⟨hz, rfl⟩ := hz
  obtain ⟨p, rfl⟩ := e _ _ _ hz
  cases hv
  cases hu
  exact ⟨_, _, rfl, rfl, p, q _ g H (.refl g) r (.int _)⟩
def fSub (i j : Int) : Option Int := some (i - j)
def fMul (i j : Int) : Option Int := if i.natAbs.log2 + j.natAbs.log2 < 1000000 then some (i * j) else none
def fDiv (i j : Int) : Option Int := if j ≠ 0 ∧ j.natAbs.log2 < 9000 then some (i.fdiv j) else none
def fMod (i j : Int) : Option Int := if j ≠ 0 then some (i.fmod j) else none
def fPow (i j : Int) : Option Int := if 0 ≤ j ∧ j ≤ 1000000 ∧ i.natAbs < 2 ^ 64 then some (i ^ j.toNat) else none
def CDivA (_ j : Int) : Prop := j ≠ 0 ∧ j.natAbs.log2 < 9000
theorem op_fdivA : OpR X (binaryOp .FloorDiv) (rI CDivA fun i j => .int (i.fdiv j)) := opI fun i j _ _ _ _ _ hc q => PyProof.Rows.floordiv_int hc.1 q (.inl (PyProof.noPylong_of_log2 hc.2))
theorem op_subA : OpR X (binaryOp .Sub) (rI (fun _ _ => True) fun i j => .int (i - j)) := opI fun _ _ _ _ _ _ _ _ q => PyProof.Rows.sub_int q
theorem op_addA : OpR X (binaryOp .Add) (rI (fun _ _ => True) fun i j => .int (i + j)) := opI fun _ _ _ _ _ _ _ _ q => PyProof.Rows.add_int q
theorem kSub {K : PySem.W.Frag} : OpD K (rI (fun _ _ => True) fun i j => .int (i - j)) (k1 fSub) := opD_int fun i j z h => ⟨trivial, by cases h; rfl⟩
theorem kAddI {K : PySem.W.Frag} : OpD K (rI (fun _ _ => True) fun i j => .int (i + j)) (k1 fun i j => some (i + j)) := opD_int fun i j z h => ⟨trivial, by cases h; rfl⟩
theorem kMul {K : PySem.W.Frag} : OpD K (rI CMulW fun i j => .int (i * j)) (k1 fMul) := opD_int fun i j z h => by
  unfold fMul at h; split at h <;> cases h; exact ⟨by assumption, rfl⟩
theorem kDiv {K : PySem.W.Frag} : OpD K (rI CDivA fun i j => .int (i.fdiv j)) (k1 fDiv) := opD_int fun i j z h => by
  unfold fDiv at h; split at h <;> cases h; exact ⟨by assumption, rfl⟩
theorem kMod {K : PySem.W.Frag} : OpD K (rI (fun _ j => j ≠ 0) fun i j => .int (i.fmod j)) (k1 fMod) := opD_int fun i j z h => by
  unfold fMod at h; split at h <;> cases h; exact ⟨by assumption, rfl⟩
theorem kPow {K : PySem.W.Frag} : OpD K (rI CPow fun i j => .int (i ^ j.toNat)) (k1 fPow) := opD_int fun i j z h => by
  unfold fPow at h; split at h <;> cases h; exact ⟨by assumption, rfl⟩

/-! ### + of lists, tuples, texts -/
def kCat : D → D → Option Vl
  | .lst xs, .lst ys => if xs.length + ys.length ≤ 16777216 then some (true, .lst (xs ++ ys)) else none
  | _, _ => none
theorem opD_cat {K : PySem.W.Frag} : OpD K rCat kCat := fun c g σ H st v u d d' a Q r hv hu he q => by
  cases d <;> cases d' <;> simp only [kCat] at he <;> try (cases he)
  split at he
  · rename_i hl
    cases he
    cases hv with
    | lst e1 r1 =>
      cases hu with
      | lst e2 r2 =>
        refine ⟨_, _, _, _, rfl, rfl, r.toFin.fh _ _ e1, r.toFin.fh _ _ e2, by rw [r1.length, r2.length, sizeLine_eq]; exact hl, fun p hp => ?_⟩
        exact q _ g _ (.refl g) (r.new hp) (VlR.new r hp (.lst (r1.append r2)))
  · cases he
def kCatT : D → D → Option Vl
  | .tup xs, .tup ys => if xs.length + ys.length ≤ 16777216 then some (false, .tup (xs ++ ys)) else none
  | _, _ => none
theorem opD_catT {K : PySem.W.Frag} : OpD K (rCatA K) kCatT := fun c g σ H st v u d d' a Q r hv hu he q => by
  cases d <;> cases d' <;> simp only [kCatT] at he <;> try (cases he)
  split at he
  · rename_i hl
    cases he
    cases hv with
    | tup e1 r1 =>
      cases hu with
      | tup e2 r2 =>
        refine ⟨_, _, _, _, rfl, rfl, r.toFin.sqT e1.sqT, r.toFin.sqT e2.sqT, by rw [r1.length, r2.length, sizeLine_eq]; exact hl, fun z => ?_, fun _ z => ?_, fun _ _ p hp => ?_⟩
        · subst z
          cases r1
          exact q _ g H (.refl g) r (.tup e2 r2)
        · subst z
          cases r2
          rw [List.append_nil] at q
          exact q _ g H (.refl g) r (.tup e1 r1)
        · obtain ⟨g', l, r', h⟩ := new_tup r hp (r1.append r2)
          exact q _ g' _ l r' h
  · cases he
def kCatS : D → D → Option Vl
  | .str x, .str y => if x.length + y.length ≤ 16777216 then some (false, .str (x ++ y)) else none
  | _, _ => none
theorem opD_catS {K : PySem.W.Frag} : OpD K (fun x y H Q => ∃ i j, x = .str i ∧ y = .str j ∧ i.length + j.length ≤ sizeLine ∧ Q (.str (i ++ j)) H) kCatS := fun c g σ H st v u d d' a Q r hv hu he q => by
  cases d <;> cases d' <;> simp only [kCatS] at he <;> try (cases he)
  split at he
  · rename_i hl
    cases he
    cases hv
    cases hu
    exact ⟨_, _, rfl, rfl, by rw [sizeLine_eq]; exact hl, q _ g H (.refl g) r (.str _)⟩
  · cases he
/-- a + b -/
def kAdd : D → D → Option Vl := fun d e => (k1 (fun i j => some (i + j)) d e).orElse fun _ => (kCat d e).orElse fun _ => (kCatT d e).orElse fun _ => kCatS d e
theorem sE_add {x : XC} {a b : Expr} {pos : Pos} {f h : DE} (ha : PE X a (tS X.K x f)) (hb : PE X b (tS X.K x h)) : PE X (.BinOp a .Add b pos) (tS X.K x (bE kAdd f h)) :=
  sE_bin (op_addA.or (op_cat.or (op_catA.or op_add_str))) (kAddI.or (opD_cat.or (opD_catT.or opD_catS))) ha hb
theorem sE_sub {x : XC} {a b : Expr} {pos : Pos} {f h : DE} (ha : PE X a (tS X.K x f)) (hb : PE X b (tS X.K x h)) : PE X (.BinOp a .Sub b pos) (tS X.K x (bE (k1 fSub) f h)) := sE_bin op_subA kSub ha hb
theorem sE_mul {x : XC} {a b : Expr} {pos : Pos} {f h : DE} (ha : PE X a (tS X.K x f)) (hb : PE X b (tS X.K x h)) : PE X (.BinOp a .Mult b pos) (tS X.K x (bE (k1 fMul) f h)) := sE_bin op_mulW kMul ha hb
theorem sE_div {x : XC} {a b : Expr} {pos : Pos} {f h : DE} (ha : PE X a (tS X.K x f)) (hb : PE X b (tS X.K x h)) : PE X (.BinOp a .FloorDiv b pos) (tS X.K x (bE (k1 fDiv) f h)) := sE_bin op_fdivA kDiv ha hb
theorem sE_mod {x : XC} {a b : Expr} {pos : Pos} {f h : DE} (ha : PE X a (tS X.K x f)) (hb : PE X b (tS X.K x h)) : PE X (.BinOp a .Mod b pos) (tS X.K x (bE (k1 fMod) f h)) := sE_bin op_modN kMod ha hb
theorem sE_pow {x : XC} {a b : Expr} {pos : Pos} {f h : DE} (ha : PE X a (tS X.K x f)) (hb : PE X b (tS X.K x h)) : PE X (.BinOp a .Pow b pos) (tS X.K x (bE (k1 fPow) f h)) := sE_bin op_pow kPow ha hb
end
end PV
set_option maxHeartbeats 4000000
/-! Operands that are names, comparisons, items, slices. -/
namespace PV
open PySem L2

/-- what may be read: frozen, or an object of our own -/
def Bn (K : PySem.W.Frag) (g : G) (H : Hp) (v : V) (d : D) : Prop := Dn K g v d ∨ ∃ p o, v = .ref p ∧ H p = some o ∧ HoD K g o d
def bor (i : Nat) (st : S) : Option D := match st.env[i]? with
  | some (.fz d) => some d
  | some (.ow d) => some d
  | _ => none
section
variable {K : PySem.W.Frag} {c : C} {g : G} {H : Hp} {σ : L2.St} {st : S}
theorem Rel.bor (r : Rel K c g σ H st) {i : Nat} {d : D} (h : bor i st = some d) : ∃ v, σ[i]? = some (some v) ∧ Bn K g H v d := by
  unfold PV.bor at h
  cases e : st.env[i]? with
  | none => rw [e] at h; cases h
  | some s =>
    rw [e] at h
    cases s with
    | no => cases h
    | fz d' => cases h; obtain ⟨v, h1, h2⟩ := r.sl i _ e; exact ⟨v, h1, .inl h2⟩
    | ow d' => cases h; obtain ⟨p, o, h1, h2, h3, _⟩ := r.sl i _ e; exact ⟨_, h1, .inr ⟨p, o, rfl, h2, h3⟩⟩
theorem Bn.dp {w : W} (f : Fin K c g H w) {n : Nat} {d : D} {v : V} (p : d.pl n = true) (h : Bn K g H v d) : Dp K H v d.py := by
  rcases h with h | ⟨q, o, rfl, ho, h⟩
  · exact h.dp f _ _ _ p
  · cases h with
    | lst r =>
      cases n with
      | zero => simp [D.pl] at p
      | succ n => exact .lst (.inl (.inl ho)) (DnAll.dp f n _ _ (by simpa [D.pl] using p) r)
    | dK _ _ => simp [D.pl] at p
    | dT _ _ => simp [D.pl] at p
theorem Bn.lst {v : V} {ds : List D} {w : W} (f : Fin K c g H w) (h : Bn K g H v (.lst ds)) : ∃ p vs, v = .ref p ∧ H p = some (.lst vs) ∧ DnAll K g vs ds := by
  rcases h with h | ⟨q, o, rfl, ho, h⟩
  · cases h with | lst e r => exact ⟨_, _, rfl, f.fh _ _ e, r⟩
  · cases h with | lst r => exact ⟨_, _, rfl, ho, r⟩
theorem Bn.tup {v : V} {ds : List D} {w : W} (f : Fin K c g H w) (h : Bn K g H v (.tup ds)) : ∃ p vs, v = .ref p ∧ SqT K H p vs ∧ DnAll K g vs ds := by
  rcases h with h | ⟨q, o, rfl, ho, h⟩
  · cases h with | tup e r => exact ⟨_, _, rfl, f.sqT e.sqT, r⟩
  · cases h
theorem Bn.dK {v : V} {ks : List Key} {ds : List D} {w : W} (f : Fin K c g H w) (h : Bn K g H v (.dK ks ds)) : ∃ p kvs, v = .ref p ∧ Rd H p (.dK kvs) ∧ ks = kvs.map (·.1) ∧ DnAll K g (kvs.map (·.2)) ds := by
  rcases h with h | ⟨q, o, rfl, ho, h⟩
  · cases h with | dK e q r => exact ⟨_, _, rfl, f.rd e, q, r⟩
  · cases h with | dK q r => exact ⟨_, _, rfl, .inl ho, q, r⟩
theorem Bn.dT {v : V} {ks : List (List Key)} {ds : List D} {w : W} (f : Fin K c g H w) (h : Bn K g H v (.dT ks ds)) : ∃ p kvs, v = .ref p ∧ Rd H p (.dT kvs) ∧ ks = kvs.map (·.1) ∧ DnAll K g (kvs.map (·.2)) ds := by
  rcases h with h | ⟨q, o, rfl, ho, h⟩
  · cases h with | dT e q r => exact ⟨_, _, rfl, f.rd e, q, r⟩
  · cases h with | dT q r => exact ⟨_, _, rfl, .inl ho, q, r⟩
theorem Bn.ro {v : V} {ns : List Int} {w : W} (f : Fin K c g H w) (h : Bn K g H v (.ro ns)) : ∃ p, v = .ref p ∧ SqL K H p (ns.map V.int) := by
  rcases h with h | ⟨q, o, rfl, ho, h⟩
  · cases h with | ro e => exact ⟨_, rfl, f.sqL e⟩
  · cases h
theorem Bn.int {v : V} {i : Int} (h : Bn K g H v (.int i)) : v = .int i := by
  rcases h with h | ⟨q, o, rfl, ho, h⟩
  · cases h; rfl
  · cases h
theorem Bn.str {v : V} {i : Str} (h : Bn K g H v (.str i)) : v = .str i := by
  rcases h with h | ⟨q, o, rfl, ho, h⟩
  · cases h; rfl
  · cases h
theorem Bn.bl {v : V} {i : Bool} (h : Bn K g H v (.bl i)) : v = .bl i := by
  rcases h with h | ⟨q, o, rfl, ho, h⟩
  · cases h; rfl
  · cases h
theorem Bn.non {v : V} (h : Bn K g H v .non) : v = .non := by
  rcases h with h | ⟨q, o, rfl, ho, h⟩
  · cases h; rfl
  · cases h
theorem Bn.none_iff {v : V} {d : D} (h : Bn K g H v d) : decide (v = .non) = (match d with | .non => true | _ => false) := by
  rcases h with h | ⟨q, o, rfl, ho, h⟩
  · cases h <;> rfl
  · cases h <;> rfl
end

/-- an operand: a name (read where it stands), or any expression -/
inductive Opn where
  | var (i : Nat)
  | ex (f : DE)
def tO (K : PySem.W.Frag) (x : XC) : Opn → TE
  | .var i => tVar i
  | .ex f => tS K x f
/-- the operand is evaluated; of a name it is seen that there is something -/
def Opn.go (o : Opn) (st : S) : R D := match o with
  | .var i => ofO (bor i st) st
  | .ex f => (f st).bind fun a st => .ok a.2 st
/-- what it is at last -/
def Opn.fin (o : Opn) (d : D) (st : S) : Option D := match o with
  | .var i => bor i st
  | .ex _ => some d
def oE2 (k : D → D → Option Vl) (a b : Opn) : DE := fun st => (a.go st).bind fun d st => (b.go st).bind fun e st => ofO ((a.fin d st).bind fun d => (b.fin e st).bind fun e => k d e) st
def oE1 (k : D → Option Vl) (a : Opn) : DE := fun st => (a.go st).bind fun d st => ofO ((a.fin d st).bind k) st

section
variable {K : PySem.W.Frag} {x : XC} {c : C} {g : G} {H : Hp} {σ : L2.St} {st : S}
/-- what is known of an operand that has been evaluated -/
def OpnR (K : PySem.W.Frag) (g : G) (σ : L2.St) (v : V) (d : D) : Opn → Prop
  | .var i => σ[i]? = some (some v)
  | .ex _ => Dn K g v d
theorem OpnR.mono {g g' : G} {v : V} {d : D} {o : Opn} (h : OpnR K g σ v d o) (l : g.Le g') : OpnR K g' σ v d o := by
  cases o with
  | var i => exact h
  | ex f => exact Dn.mono l h
theorem OpnR.fin {v : V} {d d' : D} {o : Opn} (h : OpnR K g σ v d o) (r : Rel K c g σ H st) (e : o.fin d st = some d') : Bn K g H v d' := by
  cases o with
  | var i =>
    obtain ⟨v', h1, h2⟩ := r.bor (show bor i st = some d' from e)
    have h : σ[i]? = some (some v) := h
    rw [h] at h1; cases h1
    exact h2
  | ex f =>
    have e : some d = some d' := e
    cases e
    exact .inl h
theorem tO_of {α : Type} {β : Type} {A : G → Hp → S → α → β → Prop} {Q : β → Hp → Prop} {o : Opn} {k : D → S → R α} {R0 : VK} (r : Rel K c g σ H st) (h : Post K x c g σ A Q ((o.go st).bind k))
    (step : ∀ v d st' g' H', g.Le g' → Rel K c g' σ H' st' → OpnR K g' σ v d o → Post K x c g' σ A Q (k d st') → R0 v H') : tO K x o σ H R0 := by
  cases o with
  | var i =>
    have h : Post K x c g σ A Q ((ofO (bor i st) st).bind k) := h
    cases e : bor i st with
    | none => rw [e] at h; exact h.elim
    | some d =>
      rw [e] at h
      obtain ⟨v, h1, h2⟩ := r.bor e
      exact ⟨v, h1, step v d st g H (.refl g) r h1 h⟩
  | ex f =>
    have h : Post K x c g σ A Q (((f st).bind fun a st => .ok a.2 st).bind k) := h
    rw [R.bind_assoc] at h
    refine ⟨c, g, st, r, h.bind fun a st1 v g1 H1 l1 r1 h1 q1 => ?_⟩
    obtain ⟨g1', l1', r1', d1⟩ := h1.fz r1
    exact step v a.2 st1 g1' H1 (l1.trans l1') r1' d1 (Post.mono q1 l1')
end

/-- an operation that only reads its operands -/
def OpB (K : PySem.W.Frag) (r : R2) (k : D → D → Option Vl) : Prop := ∀ (c : C) (g : G) (σ : L2.St) (H : Hp) (st : S) (v u : V) (d e : D) (a : Vl) (Q : VK), Rel K c g σ H st → Bn K g H v d → Bn K g H u e → k d e = some a →
  (∀ z g' H', g.Le g' → Rel K c g' σ H' st → VlR K c g' H' σ st z a → Q z H') → r v u H Q
theorem OpB.or {K : PySem.W.Frag} {r r' : R2} {k k' : D → D → Option Vl} (o : OpB K r k) (o' : OpB K r' k') : OpB K (fun x y H Q => r x y H Q ∨ r' x y H Q) (fun d e => (k d e).orElse fun _ => k' d e) :=
  fun c g σ H st v u d e a Q rl hv hu he hq => by
    have he : (k d e).orElse (fun _ => k' d e) = some a := he
    cases z : k d e with
    | some y =>
      rw [z] at he
      have : y = a := by simpa using he
      subst this
      exact .inl (o c g σ H st v u d e y Q rl hv hu z hq)
    | none =>
      rw [z] at he
      exact .inr (o' c g σ H st v u d e a Q rl hv hu (by simpa using he) hq)
section
variable {X : Cx} {x : XC} {e a b : Expr} {pos : Pos}
theorem tOpB_of {r : R2} {k : D → D → Option Vl} {oa ob : Opn} (o : OpB X.K r k) : ∀ (σ : L2.St) H Q, tS X.K x (oE2 k oa ob) σ H Q → tOp r (tO X.K x oa) (tO X.K x ob) σ H Q := fun σ H Q ⟨c, g, st, rl, q⟩ => by
  unfold oE2 at q
  refine tO_of rl q fun v d st1 g1 H1 l1 r1 h1 q1 => ?_
  refine tO_of r1 q1 fun u e st2 g2 H2 l2 r2 h2 q2 => ?_
  cases z1 : oa.fin d st2 with
  | none => rw [z1] at q2; exact q2.elim
  | some d' =>
    cases z2 : ob.fin e st2 with
    | none => rw [z1, z2] at q2; exact q2.elim
    | some e' =>
      rw [z1, z2] at q2
      have q2 : Post X.K x c g2 σ _ Q (ofO (k d' e') st2) := q2
      cases z3 : k d' e' with
      | none => rw [z3] at q2; exact q2.elim
      | some y =>
        rw [z3] at q2
        exact o c g2 σ H2 st2 v u d' e' y Q r2 ((h1.mono l2).fin r2 z1) (h2.fin r2 z2) z3 fun z' g' H' l r hz => q2 z' g' H' l r hz
theorem pE_two {t t' : TE} (h : PE X e t) (h' : PE X e t') : PE X e (fun σ H Q => t σ H Q ∨ t' σ H Q) := ⟨fun pins s σ H Q I hw => hw.elim (h.run pins s σ H Q I) (h'.run pins s σ H Q I)⟩
/-- two rules for one expression -/
theorem sE_or2 {k k' : D → D → Option Vl} {oa ob : Opn} (h : PE X e (tS X.K x (oE2 k oa ob))) (h' : PE X e (tS X.K x (oE2 k' oa ob))) : PE X e (tS X.K x (oE2 (fun d e => (k d e).orElse fun _ => k' d e) oa ob)) := by
  refine (pE_two h h').imp fun σ H Q ⟨c, g, st, r, q⟩ => ?_
  unfold oE2 at q
  cases z1 : oa.go st with
  | bad => rw [z1] at q; exact q.elim
  | ex ee w => rw [z1] at q; exact .inl ⟨c, g, st, r, by unfold oE2; rw [z1]; exact q⟩
  | ok d st1 =>
    rw [z1] at q
    cases z2 : ob.go st1 with
    | bad => rw [R.bind_ok, z2] at q; exact q.elim
    | ex ee w => rw [R.bind_ok, z2] at q; exact .inl ⟨c, g, st, r, by unfold oE2; rw [z1, R.bind_ok, z2]; exact q⟩
    | ok e2 st2 =>
      rw [R.bind_ok, z2, R.bind_ok] at q
      cases z3 : oa.fin d st2 with
      | none => rw [z3] at q; exact q.elim
      | some d' =>
        cases z4 : ob.fin e2 st2 with
        | none => rw [z3, z4] at q; exact q.elim
        | some e' =>
          rw [z3, z4] at q
          have q : Post X.K x c g σ _ Q (ofO ((k d' e').orElse fun _ => k' d' e') st2) := q
          cases z5 : k d' e' with
          | some y =>
            rw [z5] at q
            refine .inl ⟨c, g, st, r, ?_⟩
            unfold oE2
            rw [z1, R.bind_ok, z2, R.bind_ok, z3, z4]
            show Post X.K x c g σ _ Q (ofO (k d' e') st2)
            rw [z5]; exact q
          | none =>
            rw [z5] at q
            refine .inr ⟨c, g, st, r, ?_⟩
            unfold oE2
            rw [z1, R.bind_ok, z2, R.bind_ok, z3, z4]
            exact q

/-! ### comparisons -/
theorem opB_data {k : PyData → PyData → Bool} {ok : PyData → PyData → Bool} {K : PySem.W.Frag} : OpB K (rDD K k fun d e => ok d e = true) (dd k ok) := fun c g σ H st v u d e a Q r hv hu he q => by
  unfold dd at he
  split at he
  · rename_i h
    simp only [Bool.and_eq_true] at h
    obtain ⟨⟨h1, h2⟩, h3⟩ := h
    cases he
    obtain ⟨p1, q1⟩ := pl_ok _ _ h1
    obtain ⟨p2, q2⟩ := pl_ok _ _ h2
    exact ⟨_, _, hv.dp r.toFin h1, hu.dp r.toFin h2, p1, p2, q1, h3, q _ g H (.refl g) r (.bl _)⟩
  · cases he
theorem sE_cmp {op : CmpOp} {r : R2} {k : D → D → Option Vl} {oa ob : Opn} (ho : OpR X (compareOp op) r) (o : OpB X.K r k) (ha : PE X a (tO X.K x oa)) (hb : PE X b (tO X.K x ob)) (hm : behindInMarks op b = false) :
    PE X (.Compare a [op] [b] pos) (tS X.K x (oE2 k oa ob)) := (pe_cmpR ho ha hb hm).imp (tOpB_of o)
def kEq : D → D → Option Vl := dd PyData.eqv fun _ _ => true
def kNe : D → D → Option Vl := dd (fun d e => !PyData.eqv d e) fun _ _ => true
def kLt : D → D → Option Vl := dd PySem.W.dataLt cmpOk
def kGt : D → D → Option Vl := dd (fun d e => PySem.W.dataLt e d) cmpOk
def kLe : D → D → Option Vl := dd (fun d e => !PySem.W.dataLt e d) cmpOk
def kGe : D → D → Option Vl := dd (fun d e => !PySem.W.dataLt d e) cmpOk
/-- is None -/
def isNo : D → Bool | .non => true | _ => false
def kIs : D → D → Option Vl := fun d e => match e with | .non => some (false, .bl (isNo d)) | _ => none
def kIsNot : D → D → Option Vl := fun d e => match e with | .non => some (false, .bl (!isNo d)) | _ => none
theorem opB_is {K : PySem.W.Frag} : OpB K (fun x y H Q => y = .non ∧ Q (.bl (decide (x = .non))) H) kIs := fun c g σ H st v u d e a Q r hv hu he q => by
  cases e <;> simp only [kIs] at he <;> try (cases he)
  refine ⟨hu.non, ?_⟩
  rw [hv.none_iff]
  exact q _ g H (.refl g) r (by cases d <;> exact .bl _)
theorem opB_isnot {K : PySem.W.Frag} : OpB K (fun x y H Q => y = .non ∧ Q (.bl (!decide (x = .non))) H) kIsNot := fun c g σ H st v u d e a Q r hv hu he q => by
  cases e <;> simp only [kIsNot] at he <;> try (cases he)
  refine ⟨hu.non, ?_⟩
  rw [hv.none_iff]
  exact q _ g H (.refl g) r (by cases d <;> exact .bl _)

/-! ### in -/
/-- x in a list, a tuple -/
def rInP (K : PySem.W.Frag) (neg : Bool) : R2 := fun x y H Q => ∃ d ds, Dp K H x d ∧ (Dp K H y (.list ds) ∨ Dp K H y (.tuple ds)) ∧ d.plain = true ∧ PyData.plainAll ds = true ∧ d.depth ≤ deep ∧ Q (.bl (xor neg (ds.any fun z => PyData.eqv z d))) H
theorem op_inP (hu : X.A.units + 64 < cLine) : OpR X (compareOp .In) (rInP X.K false) := by
  intro pins s σ H x y v u Q I rx ry h
  obtain ⟨d, ds, hd, he, pd, pe, dp, q⟩ := h
  obtain ⟨as, r1⟩ := Dp.reads I d x v hd rx
  have hl : X.A.units + 1 + min (PyData.depthAll ds) d.depth < cLine := by
    have : min (PyData.depthAll ds) d.depth ≤ d.depth := Nat.min_le_right _ _
    have : deep = 16 := rfl
    omega
  rw [Bool.false_xor] at q
  rcases he with he | he
  · obtain ⟨bs, r2⟩ := Dp.reads I _ y u he ry
    exact SeqAt.in_list_data r2 r1 pe pd hl ⟨.bl _, H, I, rfl, q⟩
  · obtain ⟨bs, r2⟩ := Dp.reads I _ y u he ry
    exact SeqAt.in_tuple_data r2 r1 pe pd hl ⟨.bl _, H, I, rfl, q⟩
theorem op_notInP (hu : X.A.units + 64 < cLine) : OpR X (compareOp .NotIn) (rInP X.K true) := by
  intro pins s σ H x y v u Q I rx ry h
  obtain ⟨d, ds, hd, he, pd, pe, dp, q⟩ := h
  obtain ⟨as, r1⟩ := Dp.reads I d x v hd rx
  have hl : X.A.units + 1 + min (PyData.depthAll ds) d.depth < cLine := by
    have : min (PyData.depthAll ds) d.depth ≤ d.depth := Nat.min_le_right _ _
    have : deep = 16 := rfl
    omega
  rw [Bool.true_xor] at q
  rcases he with he | he
  · obtain ⟨bs, r2⟩ := Dp.reads I _ y u he ry
    exact SeqAt.notIn_list_data r2 r1 pe pd hl ⟨.bl _, H, I, rfl, q⟩
  · obtain ⟨bs, r2⟩ := Dp.reads I _ y u he ry
    exact SeqAt.notIn_tuple_data r2 r1 pe pd hl ⟨.bl _, H, I, rfl, q⟩
def inSeq (d : D) (ds : List D) : Option Bool := if d.pl deep && ds.all (D.pl deep) then some (ds.any fun z => PyData.eqv z.py d.py) else none
def kInP (neg : Bool) : D → D → Option Vl := fun d e => match e with
  | .lst ds => (inSeq d ds).map fun b => (false, .bl (xor neg b))
  | .tup ds => (inSeq d ds).map fun b => (false, .bl (xor neg b))
  | _ => none
theorem opB_inP {K : PySem.W.Frag} {neg : Bool} : OpB K (rInP K neg) (kInP neg) := fun c g σ H st v u d e a Q r hv hu he q => by
  have main : ∀ ds b, inSeq d ds = some b → (ds.all (D.pl deep) = true → Dp K H u (.list (D.pyAll ds)) ∨ Dp K H u (.tuple (D.pyAll ds))) → a = (false, .bl (xor neg b)) → rInP K neg v u H Q := fun ds b h hw ea => by
    unfold inSeq at h
    split at h
    · rename_i hc
      rw [Bool.and_eq_true] at hc
      cases h
      subst ea
      obtain ⟨p1, q1⟩ := pl_ok _ _ hc.1
      refine ⟨_, D.pyAll ds, hv.dp r.toFin hc.1, hw hc.2, p1, ?_, q1, ?_⟩
      · rw [D.pyAll_map, plainAll_iff]
        refine List.all_eq_true.mpr fun y hy => ?_
        obtain ⟨z, hz, rfl⟩ := List.mem_map.mp hy
        exact (pl_ok _ _ (List.all_eq_true.mp hc.2 z hz)).1
      · have e : (D.pyAll ds).any (fun z => PyData.eqv z d.py) = ds.any fun z => PyData.eqv z.py d.py := by rw [D.pyAll_map, List.any_map]; rfl
        rw [e]
        exact q _ g H (.refl g) r (.bl _)
    · cases h
  cases e <;> simp only [kInP] at he <;> try (cases he)
  · rename_i ds
    simp only [Option.map_eq_some_iff] at he
    obtain ⟨b, hb, rfl⟩ := he
    refine main ds b hb (fun hp => .inl ?_) rfl
    obtain ⟨p, vs, rfl, ho, ra⟩ := hu.lst r.toFin
    exact .lst (.inl (.inl ho)) (DnAll.dp r.toFin deep ds vs (List.all_eq_true.mp hp) ra)
  · rename_i ds
    simp only [Option.map_eq_some_iff] at he
    obtain ⟨b, hb, rfl⟩ := he
    refine main ds b hb (fun hp => .inr ?_) rfl
    obtain ⟨p, vs, rfl, ho, ra⟩ := hu.tup r.toFin
    exact .tup ho (DnAll.dp r.toFin deep ds vs (List.all_eq_true.mp hp) ra)
/-- one sign in a text -/
def kInS (neg : Bool) : D → D → Option Vl
  | .str x, .str z => match x.cps.toList with
    | [n] => some (false, .bl (xor neg (decide (n ∈ z.cps.toList))))
    | _ => none
  | _, _ => none
theorem kInS_some {neg : Bool} {d e : D} {a : Vl} (h : kInS neg d e = some a) : ∃ n z, d = .str ⟨#[n]⟩ ∧ e = .str z ∧ a = (false, .bl (xor neg (decide (n ∈ z.cps.toList)))) := by
  unfold kInS at h
  split at h
  · split at h
    · rename_i x z _ n e
      cases h
      refine ⟨n, _, ?_, rfl, rfl⟩
      obtain ⟨⟨l⟩⟩ := x
      have e : l = [n] := e
      subst e; rfl
    · cases h
  · cases h
theorem opB_inS {K : PySem.W.Frag} : OpB K (fun x y H Q => ∃ (c : Nat) (z : Str), x = .str ⟨#[c]⟩ ∧ y = .str z ∧ Q (.bl (decide (c ∈ z.cps.toList))) H) (kInS false) := fun c g σ H st v u d e a Q r hv hu he q => by
  obtain ⟨n, z, rfl, rfl, rfl⟩ := kInS_some he
  exact ⟨n, z, hv.str, hu.str, by rw [Bool.false_xor] at q; exact q _ g H (.refl g) r (.bl _)⟩
theorem opB_notInS {K : PySem.W.Frag} : OpB K (fun x y H Q => ∃ (c : Nat) (z : Str), x = .str ⟨#[c]⟩ ∧ y = .str z ∧ Q (.bl (!decide (c ∈ z.cps.toList))) H) (kInS true) := fun c g σ H st v u d e a Q r hv hu he q => by
  obtain ⟨n, z, rfl, rfl, rfl⟩ := kInS_some he
  exact ⟨n, z, hv.str, hu.str, by rw [Bool.true_xor] at q; exact q _ g H (.refl g) r (.bl _)⟩

/-! ### keys -/
def dkey : D → Option Key
  | .int i => some (.inl i)
  | .str x => some (.inr x)
  | _ => none
/-- a tuple of few texts -/
def skeys : List D → Option (List Key)
  | [] => some []
  | .str x :: r => (skeys r).map fun k => .inr x :: k
  | _ :: _ => none
def tkey : D → Option (List Key)
  | .tup ds => if ds.length ≤ 8 then skeys ds else none
  | _ => none
theorem skeys_vs {K : PySem.W.Frag} {g : G} : ∀ {ds : List D} {ks : List Key} {vs : List V}, skeys ds = some ks → DnAll K g vs ds → vs = ks.map kV ∧ vs.all isStrV = true
  | [], ks, _, h, .nil => by cases h; exact ⟨rfl, rfl⟩
  | .str x :: r, ks, _, h, .cons a b => by
    simp only [skeys, Option.map_eq_some_iff] at h
    obtain ⟨k, hk, rfl⟩ := h
    cases a
    obtain ⟨e1, e2⟩ := skeys_vs hk b
    subst e1
    exact ⟨rfl, by rw [List.all_cons, e2]; rfl⟩
  | .non :: _, _, _, h, _ => by simp [skeys] at h
  | .bl _ :: _, _, _, h, _ => by simp [skeys] at h
  | .int _ :: _, _, _, h, _ => by simp [skeys] at h
  | .lst _ :: _, _, _, h, _ => by simp [skeys] at h
  | .tup _ :: _, _, _, h, _ => by simp [skeys] at h
  | .dK _ _ :: _, _, _, h, _ => by simp [skeys] at h
  | .dT _ _ :: _, _, _, h, _ => by simp [skeys] at h
  | .hnd :: _, _, _, h, _ => by simp [skeys] at h
  | .ro _ :: _, _, _, h, _ => by simp [skeys] at h
theorem Bn.key {K : PySem.W.Frag} {g : G} {H : Hp} {v : V} {d : D} {k : Key} (h : Bn K g H v d) (e : dkey d = some k) : v = kV k := by
  cases d <;> simp only [dkey] at e <;> try (cases e)
  · exact h.int
  · exact h.str
theorem Bn.tkey {K : PySem.W.Frag} {c : C} {g : G} {H : Hp} {w : W} {v : V} {d : D} {k : List Key} (f : Fin K c g H w) (h : Bn K g H v d) (e : tkey d = some k) : ∃ b, v = .ref b ∧ H b = some (.tup (k.map kV)) ∧ g.F b = some (.tup (k.map kV)) := by
  cases d <;> simp only [PV.tkey] at e <;> try (cases e)
  rename_i ds
  split at e
  · rename_i hl
    rcases h with h | ⟨q, o, rfl, ho, h⟩
    · cases h with
      | tup ht r =>
        obtain ⟨e1, e2⟩ := skeys_vs e r
        have hk := ht.key (by unfold wkey; rw [e2, r.length, Bool.and_true]; exact decide_eq_true hl)
        subst e1
        exact ⟨_, rfl, f.fh _ _ hk, hk⟩
    · cases h
  · cases e
/-- what a dict holds at a key -/
def dlook {κ : Type} [DecidableEq κ] : List κ → List D → κ → Option D
  | k :: ks, d :: ds, x => if k = x then some d else dlook ks ds x
  | _, _, _ => none
theorem dlook_valV {κ : Type} [DecidableEq κ] {K : PySem.W.Frag} {g : G} : ∀ (kvs : List (κ × V)) (ds : List D) (k : κ), DnAll K g (kvs.map (·.2)) ds →
    (∀ d, dlook (kvs.map (·.1)) ds k = some d → ∃ v, valV kvs k = some v ∧ Dn K g v d) ∧ (dlook (kvs.map (·.1)) ds k = none → valV kvs k = none)
  | [], ds, k, h => by cases h; exact ⟨fun _ z => by simp [dlook] at z, fun _ => rfl⟩
  | (a, v) :: r, _, k, .cons h1 h2 => by
    rename_i d ds
    have ih := dlook_valV r ds k h2
    simp only [List.map_cons, dlook]
    by_cases e : a = k
    · rw [if_pos e]
      exact ⟨fun d' z => by cases z; exact ⟨v, by unfold valV; simp [List.find?, e], h1⟩, fun z => nomatch z⟩
    · rw [if_neg e]
      have ev : valV ((a, v) :: r) k = valV r k := by unfold valV; simp [List.find?, e]
      rw [ev]
      exact ih
/-- the item of a dict -/
def dget (d k : D) : Option (Option D) := match d with
  | .dK ks ds => (dkey k).map fun k => dlook ks ds k
  | .dT ks ds => (tkey k).map fun k => dlook ks ds k
  | _ => none
theorem dget_DGet {K : PySem.W.Frag} {c : C} {g : G} {H : Hp} {w : W} {v u : V} {d k : D} {o : Option D} (f : Fin K c g H w) (hv : Bn K g H v d) (hu : Bn K g H u k) (e : dget d k = some o) :
    ∃ a r, v = .ref a ∧ DGet H a u r ∧ ((∀ z, o = some z → ∃ y, r = some y ∧ Dn K g y z) ∧ (o = none → r = none)) := by
  cases d <;> simp only [dget] at e <;> try (cases e)
  · simp only [Option.map_eq_some_iff] at e
    obtain ⟨k', hk, rfl⟩ := e
    obtain ⟨p, kvs, rfl, hr, rfl, ra⟩ := hv.dK f
    exact ⟨p, valV kvs k', rfl, .inl ⟨kvs, k', hr, hu.key hk, rfl⟩, dlook_valV kvs _ k' ra⟩
  · simp only [Option.map_eq_some_iff] at e
    obtain ⟨k', hk, rfl⟩ := e
    obtain ⟨p, kvs, rfl, hr, rfl, ra⟩ := hv.dT f
    obtain ⟨b, rfl, hb, _⟩ := hu.tkey f hk
    exact ⟨p, valV kvs k', rfl, .inr ⟨kvs, k', b, hr, rfl, hb, rfl⟩, dlook_valV kvs _ k' ra⟩
def rDIn (neg : Bool) : R2 := fun y x H Q => ∃ a o, x = .ref a ∧ DGet H a y o ∧ Q (.bl (xor neg o.isSome)) H
def kInD (neg : Bool) : D → D → Option Vl := fun k d => (dget d k).map fun o => (false, .bl (xor neg o.isSome))
theorem opB_inD {K : PySem.W.Frag} {neg : Bool} : OpB K (rDIn neg) (kInD neg) := fun c g σ H st v u d e a Q r hv hu he q => by
  simp only [kInD, Option.map_eq_some_iff] at he
  obtain ⟨o, ho, rfl⟩ := he
  obtain ⟨p, r', rfl, hg, hz⟩ := dget_DGet r.toFin hu hv ho
  have eo : o.isSome = r'.isSome := by
    cases o with
    | none => rw [hz.2 rfl]; rfl
    | some z => obtain ⟨y, hy, _⟩ := hz.1 z rfl; rw [hy]; rfl
  rw [eo] at q
  exact ⟨p, r', rfl, hg, q _ g H (.refl g) r (.bl _)⟩
theorem op_inD' (hu : X.A.units + 1 < cLine) : OpR X (compareOp .In) (rDIn false) := by
  intro pins s σ H x y v u Q I rx ry h
  obtain ⟨a, o, rfl, hg, q⟩ := h
  cases ry
  rw [Bool.false_xor] at q
  exact d_in hu I hg rx fun s3 I3 => ⟨.bl o.isSome, H, I3, rfl, q⟩
theorem op_notInD' (hu : X.A.units + 1 < cLine) : OpR X (compareOp .NotIn) (rDIn true) := by
  intro pins s σ H x y v u Q I rx ry h
  obtain ⟨a, o, rfl, hg, q⟩ := h
  cases ry
  rw [Bool.true_xor] at q
  exact d_notIn hu I hg rx fun s3 I3 => ⟨.bl (!o.isSome), H, I3, rfl, q⟩
def kIn : D → D → Option Vl := fun d e => (kInP false d e).orElse fun _ => (kInS false d e).orElse fun _ => kInD false d e
def kNotIn : D → D → Option Vl := fun d e => (kInP true d e).orElse fun _ => (kInS true d e).orElse fun _ => kInD true d e

def kCmp : CmpOp → D → D → Option Vl
  | .Eq => kEq
  | .NotEq => kNe
  | .Lt => kLt
  | .LtE => kLe
  | .Gt => kGt
  | .GtE => kGe
  | .Is => kIs
  | .IsNot => kIsNot
  | .In => kIn
  | .NotIn => kNotIn
theorem cmp_rules {k : Nat} (hr : Room k X.A) (op : CmpOp) : ∃ r, OpR X (compareOp op) r ∧ OpB X.K r (kCmp op) := by
  have hu := hr.units
  have hu1 : X.A.units + 1 < cLine := by omega
  cases op with
  | Eq => exact ⟨_, op_eqP hu, opB_data⟩
  | NotEq => exact ⟨_, op_neP hu, opB_data⟩
  | Lt => exact ⟨_, op_ltP hu, opB_data⟩
  | LtE => exact ⟨_, op_leP hu, opB_data⟩
  | Gt => exact ⟨_, op_gtP hu, opB_data⟩
  | GtE => exact ⟨_, op_geP hu, opB_data⟩
  | Is => exact ⟨_, op_isN, opB_is⟩
  | IsNot => exact ⟨_, op_notN, opB_isnot⟩
  | In => exact ⟨_, (op_inP hu).or (op_in_sign.or (op_inD' hu1)), opB_inP.or (opB_inS.or opB_inD)⟩
  | NotIn => exact ⟨_, (op_notInP hu).or (op_notIn_sign.or (op_notInD' hu1)), opB_inP.or (opB_notInS.or opB_inD)⟩
theorem sE_compare {k : Nat} (hr : Room k X.A) {op : CmpOp} {oa ob : Opn} (ha : PE X a (tO X.K x oa)) (hb : PE X b (tO X.K x ob)) (hm : behindInMarks op b = false) : PE X (.Compare a [op] [b] pos) (tS X.K x (oE2 (kCmp op) oa ob)) := by
  obtain ⟨r, h1, h2⟩ := cmp_rules hr op
  exact sE_cmp h1 h2 ha hb hm

/-! ### items -/
theorem DnAll.ix {K : PySem.W.Frag} {g : G} {vs : List V} {ds : List D} {i : Int} {d : D} (h : DnAll K g vs ds) (e : atI ds i = some d) : ∃ v, atI vs i = some v ∧ Dn K g v d := by
  unfold atI at e ⊢
  rw [h.length]
  cases z : ixN ds.length i with
  | none => rw [z] at e; cases e
  | some j =>
    rw [z] at e
    exact h.get e
def kIxL : D → D → Option Vl
  | .lst ds, .int i => (atI ds i).map fun d => (false, d)
  | _, _ => none
def kIxT : D → D → Option Vl
  | .tup ds, .int i => (atI ds i).map fun d => (false, d)
  | _, _ => none
def kIxS : D → D → Option Vl
  | .str z, .int i => if 0 ≤ i ∧ i < 2 ^ 63 ∧ i < z.length then (z.cps[i.toNat]?).map fun n => (false, .str ⟨#[n]⟩) else none
  | _, _ => none
def kIxD : D → D → Option Vl := fun d k => (dget d k).bind fun o => o.map fun z => (false, z)
theorem opB_ixL {K : PySem.W.Frag} : OpB K (rIxL K) kIxL := fun c g σ H st v u d e a Q r hv hu he q => by
  cases d <;> cases e <;> simp only [kIxL, Option.map_eq_some_iff] at he <;> try (cases he)
  rename_i z hz
  obtain ⟨hz, rfl⟩ := hz
  obtain ⟨p, vs, rfl, ho, ra⟩ := hv.lst r.toFin
  obtain ⟨y, h1, h2⟩ := ra.ix hz
  exact ⟨p, vs, _, y, rfl, hu.int, .inl (.inl ho), h1, q _ g H (.refl g) r h2⟩
theorem opB_ixT {K : PySem.W.Frag} : OpB K (rIxT K) kIxT := fun c g σ H st v u d e a Q r hv hu he q => by
  cases d <;> cases e <;> simp only [kIxT, Option.map_eq_some_iff] at he <;> try (cases he)
  rename_i z hz
  obtain ⟨hz, rfl⟩ := hz
  obtain ⟨p, vs, rfl, ho, ra⟩ := hv.tup r.toFin
  obtain ⟨y, h1, h2⟩ := ra.ix hz
  exact ⟨p, vs, _, y, rfl, hu.int, ho, h1, q _ g H (.refl g) r h2⟩
theorem opB_ixS {K : PySem.W.Frag} : OpB K (fun x y H Q => ∃ z i c, x = .str z ∧ y = .int i ∧ 0 ≤ i ∧ i < 2 ^ 63 ∧ i < z.length ∧ z.cps[i.toNat]? = some c ∧ Q (.str ⟨#[c]⟩) H) kIxS := fun c g σ H st v u d e a Q r hv hu he q => by
  cases d <;> cases e <;> simp only [kIxS] at he <;> try (cases he)
  split at he
  · rename_i hc
    simp only [Option.map_eq_some_iff] at he
    obtain ⟨n, hn, rfl⟩ := he
    exact ⟨_, _, n, hv.str, hu.int, hc.1, hc.2.1, hc.2.2, hn, q _ g H (.refl g) r (.str _)⟩
  · cases he
def rDG : R2 := fun x y H Q => ∃ a v, x = .ref a ∧ DGet H a y (some v) ∧ Q v H
theorem opB_ixD {K : PySem.W.Frag} : OpB K rDG kIxD := fun c g σ H st v u d e a Q r hv hu he q => by
  simp only [kIxD, Option.bind_eq_some_iff, Option.map_eq_some_iff] at he
  obtain ⟨o, ho, z, rfl, rfl⟩ := he
  obtain ⟨p, r', rfl, hg, hq⟩ := dget_DGet r.toFin hv hu ho
  obtain ⟨y, rfl, hz⟩ := hq.1 _ rfl
  exact ⟨p, y, rfl, hg, q _ g H (.refl g) r hz⟩
def kIx : D → D → Option Vl := fun d e => (kIxL d e).orElse fun _ => (kIxT d e).orElse fun _ => (kIxS d e).orElse fun _ => kIxD d e
def isSl : Expr → Bool
  | .Slice _ _ _ _ => true
  | _ => false
theorem plainIx_of {b : Expr} (h : isSl b = false) : PlainIx b := fun o i => by cases b <;> first | rfl | cases h
theorem sE_item {k : Nat} (hr : Room k X.A) {oa ob : Opn} (ha : PE X a (tO X.K x oa)) (hb : PE X b (tO X.K x ob)) (hs : isSl b = false) : PE X (.Subscript a b pos) (tS X.K x (oE2 kIx oa ob)) := by
  have hu1 : X.A.units + 1 < cLine := by have := hr.units; omega
  have h := plainIx_of hs
  exact sE_or2 ((pe_ix ix_list ha hb h).imp (tOpB_of opB_ixL)) (sE_or2 ((pe_ix ix_tup ha hb h).imp (tOpB_of opB_ixT)) (sE_or2 ((pe_item_str ha hb h).imp (tOpB_of opB_ixS)) ((pe_dget hu1 ha hb h).imp (tOpB_of opB_ixD))))
end
end PV
set_option maxHeartbeats 4000000
/-! Slices, displays, tests, calls of built-ins. -/
namespace PV
open PySem L2

/-! ### argument lists, displays -/
def aNil : DA := fun st => .ok [] st
def aCons (f : DE) (h : DA) : DA := fun st => (f st).bind fun a st => (h st).bind fun ds st => .ok (a.2 :: ds) st
def isStar : Expr → Bool
  | .Starred _ _ => true
  | _ => false
theorem starEach_cons {e : Expr} {es : List Expr} {env : Env} (h : isStar e = false) : starEach (e :: es) env = (false, eval e env) :: starEach es env := by cases e <;> first | rfl | cases h
section
variable {X : Cx} {x : XC} {e a b : Expr} {es : List Expr} {pos : Pos}
theorem sA_nil : PA X [] (tA X.K x aNil) := pa_nil.imp fun σ H Q ⟨c, g, st, r, q⟩ => q [] g H (.refl g) r .nil
theorem sA_cons {f : DE} {h : DA} (he : PE X e (tS X.K x f)) (hr : PA X es (tA X.K x h)) (hs : isStar e = false) : PA X (e :: es) (tA X.K x (aCons f h)) :=
  (pa_cons he hr (starEach_cons hs)).imp fun σ H Q ⟨c, g, st, r, q⟩ => by
    unfold aCons at q
    refine ⟨c, g, st, r, q.bind fun a st1 v g1 H1 l1 r1 h1 q1 => ?_⟩
    obtain ⟨g1', l1', r1', d1⟩ := h1.fz r1
    refine ⟨c, g1', st1, r1', (q1.mono l1').bind fun ds st2 vs g2 H2 l2 r2 h2 q2 => ?_⟩
    exact q2 (v :: vs) g2 H2 (.refl g2) r2 (.cons (d1.mono l2) h2)
def tupE (h : DA) : DE := fun st => (h st).bind fun ds st => if ds.length ≤ 1000 then .ok (false, .tup ds) st else .bad
def lstE (h : DA) : DE := fun st => (h st).bind fun ds st => if ds.length ≤ 1000 then .ok (true, .lst ds) st else .bad
theorem le1000 {n : Nat} (h : n ≤ 1000) : n ≤ sizeLine := by rw [sizeLine_eq]; omega
theorem sE_tup {h : DA} {k : Nat} (ha : PA X es (tA X.K x h)) : PE X (.Tuple es k pos) (tS X.K x (tupE h)) :=
  (pe_tup ha).imp fun σ H Q ⟨c, g, st, r, q⟩ => by
    unfold tupE at q
    refine ⟨c, g, st, r, q.bind fun ds st1 vs g1 H1 l1 r1 h1 q1 => ?_⟩
    split at q1
    · rename_i hl
      refine ⟨by rw [h1.length]; exact le1000 hl, fun p hp => ?_⟩
      obtain ⟨g2, l2, r2, d2⟩ := new_tup r1 hp h1
      exact q1 _ g2 _ l2 r2 d2
    · exact q1.elim
theorem sE_lst {h : DA} (ha : PA X es (tA X.K x h)) : PE X (.List es pos) (tS X.K x (lstE h)) :=
  (pe_lst ha).imp fun σ H Q ⟨c, g, st, r, q⟩ => by
    unfold lstE at q
    refine ⟨c, g, st, r, q.bind fun ds st1 vs g1 H1 l1 r1 h1 q1 => ?_⟩
    split at q1
    · rename_i hl
      refine ⟨by rw [h1.length]; exact le1000 hl, fun p hp => ?_⟩
      exact q1 _ g1 _ (.refl g1) (r1.new hp) (.new r1 hp (.lst h1))
    · exact q1.elim

/-! ### tests -/
def bT (f : DE) : DT := fun st => (f st).bind fun a st => match a.2 with | .bl b => .ok b st | _ => .bad
def notT (t : DT) : DT := fun st => (t st).bind fun b st => .ok (!b) st
def andT (t u : DT) : DT := fun st => (t st).bind fun b st => if b = true then u st else .ok false st
def orT (t u : DT) : DT := fun st => (t st).bind fun b st => if b = true then .ok true st else u st
/-- a test as a value -/
def vT (t : DT) : DE := fun st => (t st).bind fun b st => .ok (false, .bl b) st
def ifE (t : DT) (f h : DE) : DE := fun st => (t st).bind fun b st => if b = true then f st else h st
/-- expressions that are tested by their value -/
def plainTest : Expr → Bool
  | .BoolOp _ _ _ => false
  | .UnaryOp .Not _ _ => false
  | .Compare _ _ _ _ => false
  | .IfExp _ _ _ _ => false
  | _ => true
theorem isTrue_of {e : Expr} {env : Env} (h : plainTest e = true) : ∀ whole, isTrue e env whole = (do let v ← whole; standAt e.pos; holding [v] (truthy v)) := fun whole => by
  cases e <;> first | rfl | (cases h) | (rename_i op _ _; cases op <;> first | rfl | cases h)
theorem Bl.of {K : PySem.W.Frag} {g : G} {v : V} {b : Bool} (h : Dn K g v (.bl b)) : v = .bl b := by cases h; rfl
theorem tTest_of {f : DE} : ∀ (σ : L2.St) H Q, tT X.K x (bT f) σ H Q → tTest (tS X.K x f) σ H Q := fun σ H Q ⟨c, g, st, r, q⟩ => by
  unfold bT at q
  refine ⟨c, g, st, r, q.bind fun a st1 v g1 H1 l1 r1 h1 q1 => ?_⟩
  obtain ⟨b, d⟩ := a
  cases d <;> try exact q1.elim
  rename_i k
  cases b with
  | false => exact ⟨k, Bl.of h1, q1 k g1 H1 (.refl g1) r1 rfl⟩
  | true => obtain ⟨p, o, _, _, h2, _⟩ := h1; cases h2
theorem sT_val {f : DE} (he : PE X e (tS X.K x f)) (h : plainTest e = true) : PT X e (tT X.K x (bT f)) := (pt_val he (isTrue_of h)).imp fun σ H Q q => tTest_of σ H Q q
theorem sT_cmp {k : Nat} (hr : Room k X.A) {op : CmpOp} {oa ob : Opn} (ha : PE X a (tO X.K x oa)) (hb : PE X b (tO X.K x ob)) (hm : behindInMarks op b = false) : PT X (.Compare a [op] [b] pos) (tT X.K x (bT (oE2 (kCmp op) oa ob))) := by
  obtain ⟨r, h1, h2⟩ := cmp_rules hr op
  refine (pt_cmpR h1 ha hb hm).imp fun σ H Q q => ?_
  obtain ⟨c, g, st, rl, q⟩ := tTest_of σ H Q q
  exact tOpB_of h2 σ H _ ⟨c, g, st, rl, q⟩
theorem sT_not {t : DT} (h : PT X a (tT X.K x t)) : PT X (.UnaryOp .Not a pos) (tT X.K x (notT t)) := (pt_not h).imp fun σ H Q ⟨c, g, st, r, q⟩ => by
  unfold notT at q
  exact ⟨c, g, st, r, q.bind fun b st1 b' g1 H1 l1 r1 h1 q1 => by have h1 : b = b' := h1; subst h1; exact q1 _ g1 H1 (.refl g1) r1 rfl⟩
theorem sW_and1 {op : BoolOp} {t : DT} (h : PT X a (tT X.K x t)) : PW X (.BoolOp op [a] pos) (tT X.K x t) := by
  cases op with
  | And => exact pw_and1 h
  | Or => exact pw_or1 h
theorem sW_and {rest : List Expr} {t u : DT} (ha : PT X a (tT X.K x t)) (hb : PW X (.BoolOp .And (b :: rest) pos) (tT X.K x u)) : PW X (.BoolOp .And (a :: b :: rest) pos) (tT X.K x (andT t u)) := (pw_and ha hb).imp fun σ H Q ⟨c, g, st, r, q⟩ => by
  unfold andT at q
  refine ⟨c, g, st, r, q.bind fun k st1 k' g1 H1 l1 r1 h1 q1 => ?_⟩
  have h1 : k = k' := h1
  subst h1
  cases k with
  | true =>
    rw [if_pos rfl] at q1
    show tT X.K x u σ H1 Q
    exact ⟨c, g1, st1, r1, q1⟩
  | false =>
    rw [if_neg Bool.false_ne_true] at q1
    show Q false H1
    exact q1 _ g1 H1 (.refl g1) r1 rfl
theorem sW_or {rest : List Expr} {t u : DT} (ha : PT X a (tT X.K x t)) (hb : PW X (.BoolOp .Or (b :: rest) pos) (tT X.K x u)) : PW X (.BoolOp .Or (a :: b :: rest) pos) (tT X.K x (orT t u)) := (pw_or ha hb).imp fun σ H Q ⟨c, g, st, r, q⟩ => by
  unfold orT at q
  refine ⟨c, g, st, r, q.bind fun k st1 k' g1 H1 l1 r1 h1 q1 => ?_⟩
  have h1 : k = k' := h1
  subst h1
  cases k with
  | true =>
    rw [if_pos rfl] at q1
    show Q true H1
    exact q1 _ g1 H1 (.refl g1) r1 rfl
  | false =>
    rw [if_neg Bool.false_ne_true] at q1
    show tT X.K x u σ H1 Q
    exact ⟨c, g1, st1, r1, q1⟩
/-- and, or, not as values -/
theorem tV_of {t : DT} : ∀ (σ : L2.St) H Q, tS X.K x (vT t) σ H Q → tT X.K x t σ H fun b H1 => Q (.bl b) H1 := fun σ H Q ⟨c, g, st, r, q⟩ => by
  unfold vT at q
  exact ⟨c, g, st, r, q.bind fun b st1 b' g1 H1 l1 r1 h1 q1 => by have h1 : b = b' := h1; subst h1; exact q1 _ g1 H1 (.refl g1) r1 (.bl _)⟩
def vB (t : DT) : DE := vT t
theorem sE_not {f : DE} (h : PE X a (tS X.K x f)) : PE X (.UnaryOp .Not a pos) (tS X.K x (vT (notT (bT f)))) := (pe_not h).imp fun σ H Q ⟨c, g, st, r, q⟩ => by
  unfold vT notT bT at q
  rw [R.bind_assoc, R.bind_assoc] at q
  refine ⟨c, g, st, r, q.bind fun a st1 v g1 H1 l1 r1 h1 q1 => ?_⟩
  obtain ⟨b, d⟩ := a
  cases d <;> try exact q1.elim
  rename_i k
  cases b with
  | false => exact ⟨k, Bl.of h1, q1 _ g1 H1 (.refl g1) r1 (.bl _)⟩
  | true => obtain ⟨p, o, _, _, h2, _⟩ := h1; cases h2
theorem sE_one {op : BoolOp} {f : DE} (h : PE X a (tS X.K x f)) : PE X (.BoolOp op [a] pos) (tS X.K x f) := pe_one h
/-- x and y, x or y as values, all but the last bools -/
def andE (f h : DE) : DE := fun st => (bT f st).bind fun b st => if b = true then h st else .ok (false, .bl false) st
def orE (f h : DE) : DE := fun st => (bT f st).bind fun b st => if b = true then .ok (false, .bl true) st else h st
theorem sE_and {rest : List Expr} {f h : DE} (ha : PE X a (tS X.K x f)) (hb : PE X (.BoolOp .And (b :: rest) pos) (tS X.K x h)) : PE X (.BoolOp .And (a :: b :: rest) pos) (tS X.K x (andE f h)) := (pe_and ha hb).imp fun σ H Q ⟨c, g, st, r, q⟩ => by
  unfold andE bT at q
  rw [R.bind_assoc] at q
  refine ⟨c, g, st, r, q.bind fun a st1 v g1 H1 l1 r1 h1 q1 => ?_⟩
  obtain ⟨b, d⟩ := a
  cases d <;> try exact q1.elim
  rename_i k
  cases b with
  | false =>
    refine ⟨k, Bl.of h1, ?_⟩
    cases k with
    | true => show tS X.K x h σ H1 Q; exact ⟨c, g1, st1, r1, q1⟩
    | false => show Q (.bl false) H1; exact q1 _ g1 H1 (.refl g1) r1 (.bl _)
  | true => obtain ⟨p, o, _, _, h2, _⟩ := h1; cases h2
theorem sE_or {rest : List Expr} {f h : DE} (ha : PE X a (tS X.K x f)) (hb : PE X (.BoolOp .Or (b :: rest) pos) (tS X.K x h)) : PE X (.BoolOp .Or (a :: b :: rest) pos) (tS X.K x (orE f h)) := (pe_or ha hb).imp fun σ H Q ⟨c, g, st, r, q⟩ => by
  unfold orE bT at q
  rw [R.bind_assoc] at q
  refine ⟨c, g, st, r, q.bind fun a st1 v g1 H1 l1 r1 h1 q1 => ?_⟩
  obtain ⟨b, d⟩ := a
  cases d <;> try exact q1.elim
  rename_i k
  cases b with
  | false =>
    refine ⟨k, Bl.of h1, ?_⟩
    cases k with
    | true => show Q (.bl true) H1; exact q1 _ g1 H1 (.refl g1) r1 (.bl _)
    | false => show tS X.K x h σ H1 Q; exact ⟨c, g1, st1, r1, q1⟩
  | true => obtain ⟨p, o, _, _, h2, _⟩ := h1; cases h2
theorem sE_if {t : DT} {f h : DE} {ec : Expr} (hc : PT X ec (tT X.K x t)) (ha : PE X a (tS X.K x f)) (hb : PE X b (tS X.K x h)) : PE X (.IfExp ec a b pos) (tS X.K x (ifE t f h)) := (pe_ifExp hc ha hb).imp fun σ H Q ⟨c, g, st, r, q⟩ => by
  unfold ifE at q
  refine ⟨c, g, st, r, q.bind fun k st1 k' g1 H1 l1 r1 h1 q1 => ?_⟩
  have h1 : k = k' := h1
  subst h1
  cases k with
  | true => rw [if_pos rfl] at q1; show tS X.K x f σ H1 Q; exact ⟨c, g1, st1, r1, q1⟩
  | false => rw [if_neg Bool.false_ne_true] at q1; show tS X.K x h σ H1 Q; exact ⟨c, g1, st1, r1, q1⟩
/-- a < b < c -/
def chE (p q : CmpOp) (f h j : DE) : DE := fun st => (f st).bind fun a st => (h st).bind fun b st => (ofO (kCmp p a.2 b.2) st).bind fun z st => match z.2 with
  | .bl true => (j st).bind fun d st => ofO (kCmp q b.2 d.2) st
  | .bl false => .ok (false, .bl false) st
  | _ => .bad
theorem chain_core {p q' : CmpOp} {r r' : R2} {f h j : DE} {σ : L2.St} {H : Hp} {Q : VK} (o : OpB X.K r (kCmp p)) (o' : OpB X.K r' (kCmp q')) (hk : ∀ d e a, kCmp p d e = some a → a.1 = false) (hw : tS X.K x (chE p q' f h j) σ H Q) :
    tChain r r' (tS X.K x f) (tS X.K x h) (tS X.K x j) σ H Q := by
  obtain ⟨c, g, st, rl, q⟩ := hw
  unfold chE at q
  refine ⟨c, g, st, rl, q.bind fun a st1 v g1 H1 l1 r1 h1 q1 => ?_⟩
  obtain ⟨g1', l1', r1', d1⟩ := h1.fz r1
  refine ⟨c, g1', st1, r1', (q1.mono l1').bind fun b st2 u g2 H2 l2 r2 h2 q2 => ?_⟩
  obtain ⟨g2', l2', r2', d2⟩ := h2.fz r2
  have q3 := q2.mono l2'
  cases e : kCmp p a.2 b.2 with
  | none => rw [e] at q3; exact q3.elim
  | some z =>
    rw [e] at q3
    refine o c g2' σ H2 st2 v u a.2 b.2 z _ r2' (.inl (d1.mono (l2.trans l2'))) (.inl d2) e fun z' g' H' l r3 hz => ?_
    have e1 := hk _ _ _ e
    obtain ⟨z1, z2⟩ := z
    have e1 : z1 = false := e1
    subst e1
    have q3 : Post X.K x c g2' σ _ Q (match z2 with | .bl true => (j st2).bind fun d st => ofO (kCmp q' b.2 d.2) st | .bl false => .ok (false, .bl false) st2 | _ => .bad) := q3
    cases z2 with
    | bl k =>
      refine ⟨k, Bl.of hz, ?_⟩
      clear e
      revert q3
      cases k with
      | true =>
       intro q3
       show tS X.K x j σ H' _
       refine ⟨c, g', st2, r3, (q3.mono l).bind fun d st4 y g4 H4 l4 r4 h4 q4 => ?_⟩
       obtain ⟨g4', l4', r4', d4⟩ := h4.fz r4
       have q5 := q4.mono l4'
       cases e2 : kCmp q' b.2 d.2 with
       | none => rw [e2] at q5; exact q5.elim
       | some y2 =>
        rw [e2] at q5
        exact o' c g4' σ H4 st4 u y b.2 d.2 y2 Q r4' (.inl (d2.mono (l.trans (l4.trans l4')))) (.inl d4) e2 fun w g6 H6 l6 r6 h6 => q5 w g6 H6 l6 r6 h6
      | false =>
       intro q3
       show Q (.bl false) H'
       exact q3 _ g' H' l r3 (.bl _)
    | _ => exact q3.elim
theorem dd_fst {k ok : PyData → PyData → Bool} {d e : D} {a : Vl} (h : dd k ok d e = some a) : a.1 = false := by
  unfold dd at h; split at h <;> cases h; rfl
def chOp : CmpOp → Bool
  | .Lt | .LtE | .Gt | .GtE => true
  | _ => false
theorem chOp_fst {p : CmpOp} (h : chOp p = true) : ∀ d e a, kCmp p d e = some a → a.1 = false := by
  cases p with
  | Lt => exact fun d e a h => dd_fst (k := PySem.W.dataLt) (ok := cmpOk) h
  | LtE => exact fun d e a h => dd_fst (k := fun d e => !PySem.W.dataLt e d) (ok := cmpOk) h
  | Gt => exact fun d e a h => dd_fst (k := fun d e => PySem.W.dataLt e d) (ok := cmpOk) h
  | GtE => exact fun d e a h => dd_fst (k := fun d e => !PySem.W.dataLt d e) (ok := cmpOk) h
  | _ => cases h
theorem sE_chain {k : Nat} (hr : Room k X.A) {p q : CmpOp} {ec : Expr} {f h j : DE} (ha : PE X a (tS X.K x f)) (hb : PE X b (tS X.K x h)) (hc : PE X ec (tS X.K x j)) (hp : chOp p = true) (hm : lastMarks [p, q] [b, ec] = false) :
    PE X (.Compare a [p, q] [b, ec] pos) (tS X.K x (chE p q f h j)) := by
  obtain ⟨r, h1, h2⟩ := cmp_rules hr p
  obtain ⟨r', h1', h2'⟩ := cmp_rules hr q
  exact (pe_chain h1 h1' ha hb hc hm).imp fun σ H Q hw => chain_core h2 h2' (chOp_fst hp) hw
theorem sT_chain {k : Nat} (hr : Room k X.A) {p q : CmpOp} {ec : Expr} {f h j : DE} (ha : PE X a (tS X.K x f)) (hb : PE X b (tS X.K x h)) (hc : PE X ec (tS X.K x j)) (hp : chOp p = true) (hm : lastMarks [p, q] [b, ec] = false) :
    PT X (.Compare a [p, q] [b, ec] pos) (tT X.K x (bT (chE p q f h j))) := by
  obtain ⟨r, h1, h2⟩ := cmp_rules hr p
  obtain ⟨r', h1', h2'⟩ := cmp_rules hr q
  refine (pt_chain h1 h1' ha hb hc hm).imp fun σ H Q hw => ?_
  obtain ⟨c, g, st, rl, q⟩ := tTest_of σ H Q hw
  exact chain_core h2 h2' (chOp_fst hp) ⟨c, g, st, rl, q⟩
end
end PV
set_option maxHeartbeats 4000000
/-! Slices, calls of built-ins with one argument, min, max, isinstance, sorted, repr. -/
namespace PV
open PySem L2

/-! ### slices -/
def cutA {α : Type} (xs : List α) (lo hi : Option Int) : List α := (xs.drop (HT.sIx xs.length 0 lo)).take (HT.sIx xs.length xs.length hi - HT.sIx xs.length 0 lo)
theorem DnAll.cut {K : PySem.W.Frag} {g : G} {vs : List V} {ds : List D} (h : DnAll K g vs ds) (lo hi : Option Int) : DnAll K g (cutV vs lo hi) (cutA ds lo hi) := by
  unfold cutV cutA
  rw [h.length]
  exact (h.drop _).take _
/-- a part of a slice -/
def optE (f : Option DE) (st : S) : R (Option Int) := match f with
  | none => .ok none st
  | some f => (f st).bind fun a st => match a.2 with | .int i => .ok (some i) st | _ => .bad
def kSl : D → Option Int → Option Int → Option Vl
  | .lst ds, lo, hi => some (true, .lst (cutA ds lo hi))
  | .tup ds, lo, hi => some (false, .tup (cutA ds lo hi))
  | .str z, lo, hi => if z.length ≤ 16777216 then some (false, .str (cutS z lo hi)) else none
  | _, _, _ => none
def slE (o : Opn) (lo hi : Option DE) : DE := fun st => (o.go st).bind fun d st => (optE lo st).bind fun l st => (optE hi st).bind fun h st => ofO ((o.fin d st).bind fun d => kSl d l h) st
section
variable {X : Cx} {x : XC} {e a b : Expr} {es : List Expr} {pos p2 : Pos}
/-- the written part: both left out, or there -/
inductive POf (X : Cx) (x : XC) : Option Expr → Option DE → Prop
  | none : POf X x none none
  | some {e : Expr} {f : DE} : PE X e (tS X.K x f) → POf X x (some e) (some f)
def optT (K : PySem.W.Frag) (x : XC) : Option DE → TO
  | none => tNoPart
  | some f => tPart (tS K x f)
theorem tO_opt {K : PySem.W.Frag} {c : C} {g : G} {σ : L2.St} {H : Hp} {st : S} {α β : Type} {A : G → Hp → S → α → β → Prop} {Q : β → Hp → Prop} {k : Option Int → S → R α} {R0 : Option Int → Hp → Prop} {f : Option DE}
    (r : Rel K c g σ H st) (h : Post K x c g σ A Q ((optE f st).bind k)) (step : ∀ o st' g' H', g.Le g' → Rel K c g' σ H' st' → Post K x c g' σ A Q (k o st') → R0 o H') :
    optT K x f σ H R0 := by
  cases f with
  | none => exact step none st g H (.refl g) r h
  | some f =>
    have h : Post K x c g σ A Q (((f st).bind fun a st => match a.2 with | .int i => .ok (some i) st | _ => .bad).bind k) := h
    rw [R.bind_assoc] at h
    refine ⟨c, g, st, r, h.bind fun a st1 v g1 H1 l1 r1 h1 q1 => ?_⟩
    obtain ⟨b, d⟩ := a
    cases d <;> try exact q1.elim
    rename_i i
    cases b with
    | false =>
      have hv : v = .int i := Bn.int (H := H) (.inl h1)
      subst hv
      exact ⟨i, rfl, step (some i) st1 g1 H1 l1 r1 q1⟩
    | true => obtain ⟨p, o, _, _, h2, _⟩ := h1; cases h2
def rSlice (K : PySem.W.Frag) : V → Option Int → Option Int → Hp → VK → Prop := fun v lo hi H Q => rSlL K v lo hi H Q ∨ rSlA K v lo hi H Q ∨ rSlS v lo hi H Q
theorem sE_slice {oa : Opn} {lo hi : Option Expr} {fl fh : Option DE} (ha : PE X a (tO X.K x oa)) (hl : POf X x lo fl) (hh : POf X x hi fh) : PE X (.Subscript a (.Slice lo hi none p2) pos) (tS X.K x (slE oa fl fh)) := by
  have hr : L2.SlR X (rSlice X.K) := sl_list.or (sl_tupA.or sl_str)
  have pl : PO X lo (optT X.K x fl) := by
    cases hl with
    | none => exact po_none
    | some h => exact po_some h
  have ph : PO X hi (optT X.K x fh) := by
    cases hh with
    | none => exact po_none
    | some h => exact po_some h
  refine (pe_slice hr ha pl ph).imp fun σ H Q ⟨c, g, st, r, q⟩ => ?_
  unfold slE at q
  refine tO_of r q fun v d st1 g1 H1 l1 r1 h1 q1 => ?_
  refine tO_opt r1 q1 fun o1 st2 g2 H2 l2 r2 q2 => ?_
  refine tO_opt r2 q2 fun o2 st3 g3 H3 l3 r3 q3 => ?_
  cases z1 : oa.fin d st3 with
  | none => rw [z1] at q3; exact q3.elim
  | some d' =>
    rw [z1] at q3
    have q3 : Post X.K x c g3 σ _ Q (ofO (kSl d' o1 o2) st3) := q3
    have hb := ((h1.mono l2).mono l3).fin r3 z1
    cases d' with
    | str z =>
      have q3 : Post X.K x c g3 σ _ Q (ofO (if z.length ≤ 16777216 then some (false, D.str (cutS z o1 o2)) else none) st3) := q3
      split at q3
      · rename_i hz
        exact .inr (.inr ⟨z, hb.str, by rw [sizeLine_eq]; exact hz, q3 _ g3 H3 (.refl g3) r3 (.str _)⟩)
      · exact q3.elim
    | lst ds =>
      obtain ⟨p, vs, rfl, ho, ra⟩ := hb.lst r3.toFin
      exact .inl ⟨p, vs, rfl, .inl (.inl ho), fun n hn => q3 _ g3 _ (.refl g3) (r3.new hn) (.new r3 hn (.lst (ra.cut o1 o2)))⟩
    | tup ds =>
      have q3 : Post X.K x c g3 σ (fun g' H' st' a v => VlR X.K c g' H' σ st' v a) Q (.ok (false, .tup (cutA ds o1 o2)) st3) := q3
      have hd : ∃ p vs, v = .ref p ∧ TupR X.K g3.F p vs ∧ DnAll X.K g3 vs ds := by
        rcases hb with hb | ⟨q, o, rfl, ho, hb⟩
        · cases hb with | tup e r => exact ⟨_, _, rfl, e, r⟩
        · cases hb
      obtain ⟨p, vs, rfl, ho, ra⟩ := hd
      refine .inr (.inl ⟨p, vs, rfl, r3.toFin.sqT ho.sqT, fun hw => ?_, fun _ n hn => ?_⟩)
      · have e : cutA ds o1 o2 = ds := by
          unfold cutA
          rw [← ra.length, hw.1, hw.2, List.drop_zero, Nat.sub_zero, ra.length, List.take_length]
        rw [e] at q3
        exact q3 _ g3 H3 (.refl g3) r3 (.tup ho ra)
      · obtain ⟨g4, l4, r4, d4⟩ := new_tup r3 hn (ra.cut o1 o2)
        exact q3 _ g4 _ l4 r4 d4
    | _ => exact q3.elim

/-! ### calls of built-ins with one argument -/
def C1 (K : PySem.W.Frag) (r : List V → Hp → VK → Prop) (k : D → Option Vl) : Prop := ∀ (c : C) (g : G) (σ : L2.St) (H : Hp) (st : S) (v : V) (d : D) (a : Vl) (Q : VK), Rel K c g σ H st → Bn K g H v d → k d = some a →
  (∀ z g' H', g.Le g' → Rel K c g' σ H' st → VlR K c g' H' σ st z a → Q z H') → r [v] H Q
theorem C1.or {K : PySem.W.Frag} {r r' : List V → Hp → VK → Prop} {k k' : D → Option Vl} (o : C1 K r k) (o' : C1 K r' k') : C1 K (fun vs H Q => r vs H Q ∨ r' vs H Q) (fun d => (k d).orElse fun _ => k' d) :=
  fun c g σ H st v d a Q rl hv he hq => by
    have he : (k d).orElse (fun _ => k' d) = some a := he
    cases z : k d with
    | some y =>
      rw [z] at he
      have : y = a := by simpa using he
      subst this
      exact .inl (o c g σ H st v d y Q rl hv z hq)
    | none =>
      rw [z] at he
      exact .inr (o' c g σ H st v d a Q rl hv (by simpa using he) hq)
theorem callR_or {f : Value} {r r' : List V → Hp → VK → Prop} (h : CallR X f r) (h' : CallR X f r') : CallR X f (fun vs H Q => r vs H Q ∨ r' vs H Q) := by
  intro pins s σ H vs us Q I rv q
  rcases q with q | q
  · exact h pins s σ H vs us Q I rv q
  · exact h' pins s σ H vs us Q I rv q
theorem tC1_of {r : List V → Hp → VK → Prop} {k : D → Option Vl} {oa : Opn} (o : C1 X.K r k) : ∀ (σ : L2.St) H Q, tS X.K x (oE1 k oa) σ H Q → tCB r (tCons (tO X.K x oa) tNil) σ H Q := fun σ H Q ⟨c, g, st, rl, q⟩ => by
  unfold oE1 at q
  refine tO_of rl q fun v d st1 g1 H1 l1 r1 h1 q1 => ?_
  show r [v] H1 Q
  cases z0 : oa.fin d st1 with
  | none => rw [z0] at q1; exact q1.elim
  | some d' =>
    rw [z0] at q1
    have q1 : Post X.K x c g1 σ _ Q (ofO (k d') st1) := q1
    cases z : k d' with
    | none => rw [z] at q1; exact q1.elim
    | some y =>
      rw [z] at q1
      exact o c g1 σ H1 st1 v d' y Q r1 (h1.fin r1 z0) z fun z' g' H' l r hz => q1 z' g' H' l r hz
theorem no_star {es : List Expr} {env : Env} {pos : Pos} : (backTo pos (starEach [] env)).any (·.1) = false := rfl
/-- f(a), f a built-in function or type that the module leaves alone -/
theorem sE_call1 {y : Str} {f : Value} {p : Pos} {r : List V → Hp → VK → Prop} {k : D → Option Vl} {oa : Opn} (hc : CallR X f r) (o : C1 X.K r k) (hf : (∃ id, f = .builtin id) ∨ ∃ T, f = .type T) (hg : Gl X y) (hm : X.mg y = none) (hv : bootBuiltins y = some f)
    (hn : y ≠ "__name__") (hd : (y == ("__debug__" : Str)) = false) (hs : isStar a = false) (ha : PE X a (tO X.K x oa)) : PE X (.Call (.Name y p) [a] [] pos) (tS X.K x (oE1 k oa)) := by
  rcases hf with ⟨id, rfl⟩ | ⟨T, rfl⟩
  · exact (pe_callB hc hg hm hv (pa_cons ha pa_nil (starEach_cons hs)) hn hd (starEach_cons hs) rfl).imp (tC1_of o)
  · exact (pe_callTy hc hg hm hv (pa_cons ha pa_nil (starEach_cons hs)) hn hd (starEach_cons hs) rfl).imp (tC1_of o)

/-! len -/
def kLen : D → Option Vl
  | .lst ds => some (false, .int ds.length)
  | .tup ds => some (false, .int ds.length)
  | .ro ns => some (false, .int ns.length)
  | _ => none
theorem c1_len {K : PySem.W.Frag} : C1 K (fun xs H Q => ∃ p ys, xs = [.ref p] ∧ (SqL K H p ys ∨ SqT K H p ys) ∧ Q (.int ys.length) H) kLen := fun c g σ H st v d a Q r hv he q => by
  cases d <;> simp only [kLen] at he <;> try (cases he)
  · obtain ⟨p, vs, rfl, ho, ra⟩ := hv.lst r.toFin
    exact ⟨p, vs, rfl, .inl (.inl (.inl ho)), by rw [ra.length]; exact q _ g H (.refl g) r (.int _)⟩
  · obtain ⟨p, vs, rfl, ho, ra⟩ := hv.tup r.toFin
    exact ⟨p, vs, rfl, .inr ho, by rw [ra.length]; exact q _ g H (.refl g) r (.int _)⟩
  · obtain ⟨p, rfl, ho⟩ := hv.ro r.toFin
    exact ⟨p, _, rfl, .inl ho, by rw [List.length_map]; exact q _ g H (.refl g) r (.int _)⟩
/-- len of a text -/
def kLenS : D → Option Vl
  | .str z => if z.length ≤ 16777216 then some (false, .int z.length) else none
  | _ => none
theorem c1_lenS {K : PySem.W.Frag} : C1 K (fun xs H Q => ∃ x n, xs = [x] ∧ LenV K x H n ∧ Q (.int n) H) kLenS := fun c g σ H st v d a Q r hv he q => by
  cases d <;> simp only [kLenS] at he <;> try (cases he)
  split at he
  · rename_i z hz
    cases he
    exact ⟨v, z.length, rfl, by rw [hv.str]; exact ⟨by rw [sizeLine_eq]; exact hz, rfl⟩, q _ g H (.refl g) r (.int _)⟩
  · cases he
/-! list(xs), tuple(xs) -/
def kList : D → Option Vl
  | .lst ds => some (true, .lst ds)
  | .tup ds => some (true, .lst ds)
  | _ => none
theorem c1_list {K : PySem.W.Frag} : C1 K (fun xs H Q => ∃ p ys, xs = [.ref p] ∧ (SqL K H p ys ∨ SqT K H p ys) ∧ ∀ l, H l = none → Q (.ref l) (upd H l (.lst ys))) kList := fun c g σ H st v d a Q r hv he q => by
  cases d <;> simp only [kList] at he <;> try (cases he)
  · obtain ⟨p, vs, rfl, ho, ra⟩ := hv.lst r.toFin
    exact ⟨p, vs, rfl, .inl (.inl (.inl ho)), fun n hn => q _ g _ (.refl g) (r.new hn) (.new r hn (.lst ra))⟩
  · obtain ⟨p, vs, rfl, ho, ra⟩ := hv.tup r.toFin
    exact ⟨p, vs, rfl, .inr ho, fun n hn => q _ g _ (.refl g) (r.new hn) (.new r hn (.lst ra))⟩
def kTuple : D → Option Vl
  | .lst ds => some (false, .tup ds)
  | .tup ds => some (false, .tup ds)
  | _ => none
theorem c1_tuple {K : PySem.W.Frag} : C1 K (fun xs H Q => ∃ p ys, xs = [.ref p] ∧ ((SqL K H p ys ∧ ∀ l, H l = none → Q (.ref l) (upd H l (.tup ys))) ∨ (SqT K H p ys ∧ Q (.ref p) H))) kTuple := fun c g σ H st v d a Q r hv he q => by
  cases d <;> simp only [kTuple] at he <;> try (cases he)
  · obtain ⟨p, vs, rfl, ho, ra⟩ := hv.lst r.toFin
    refine ⟨p, vs, rfl, .inl ⟨.inl (.inl ho), fun n hn => ?_⟩⟩
    obtain ⟨g4, l4, r4, d4⟩ := new_tup r hn ra
    exact q _ g4 _ l4 r4 d4
  · rename_i ds
    have hd : ∃ p vs, v = .ref p ∧ TupR K g.F p vs ∧ DnAll K g vs ds := by
      rcases hv with hb | ⟨q, o, rfl, ho, hb⟩
      · cases hb with | tup e r => exact ⟨_, _, rfl, e, r⟩
      · cases hb
    obtain ⟨p, vs, rfl, ho, ra⟩ := hd
    exact ⟨p, vs, rfl, .inr ⟨r.toFin.sqT ho.sqT, q _ g H (.refl g) r (.tup ho ra)⟩⟩
/-! abs, int, str of a number -/
def kAbs : D → Option Vl
  | .int i => some (false, .int (if i < 0 then -i else i))
  | _ => none
theorem c1_abs {K : PySem.W.Frag} : C1 K (fun xs H Q => ∃ i, xs = [.int i] ∧ Q (.int (if i < 0 then -i else i)) H) kAbs := fun c g σ H st v d a Q r hv he q => by
  cases d <;> simp only [kAbs] at he <;> try (cases he)
  exact ⟨_, by rw [hv.int], q _ g H (.refl g) r (.int _)⟩
def kInt : D → Option Vl
  | .int i => some (false, .int i)
  | .str z => if z.length ≤ 640 then (PySem.intText? z).map fun n => (false, .int n) else none
  | _ => none
def rIntC : List V → Hp → VK → Prop := fun xs H Q => ((∃ i, xs = [.int i] ∧ Q (.int i) H) ∨ ∃ k, xs = [.bl k] ∧ Q (.int (if k then 1 else 0)) H) ∨ ∃ a n, xs = [.str a] ∧ PySem.intText? a = some n ∧ a.length ≤ 640 ∧ Q (.int n) H
theorem c1_int {K : PySem.W.Frag} : C1 K rIntC kInt := fun c g σ H st v d a Q r hv he q => by
  cases d <;> simp only [kInt] at he <;> try (cases he)
  · exact .inl (.inl ⟨_, by rw [hv.int], q _ g H (.refl g) r (.int _)⟩)
  · split at he
    · rename_i z hz
      simp only [Option.map_eq_some_iff] at he
      obtain ⟨n, hn, rfl⟩ := he
      exact .inr ⟨z, n, by rw [hv.str], hn, hz, q _ g H (.refl g) r (.int _)⟩
    · cases he
def kStr : D → Option Vl
  | .int i => if i.natAbs.log2 < 1920 then some (false, .str (toString i)) else none
  | _ => none
theorem c1_str {K : PySem.W.Frag} : C1 K (fun xs H Q => ∃ i, xs = [.int i] ∧ i.natAbs.log2 < 1920 ∧ Q (.str (toString i)) H) kStr := fun c g σ H st v d a Q r hv he q => by
  cases d <;> simp only [kStr] at he <;> try (cases he)
  split at he
  · rename_i hz
    cases he
    exact ⟨_, by rw [hv.int], hz, q _ g H (.refl g) r (.str _)⟩
  · cases he
/-! sum, all, any -/
def dints : List D → Option (List Int)
  | [] => some []
  | .int i :: r => (dints r).map fun l => i :: l
  | _ :: _ => none
theorem dints_map : ∀ {ds : List D} {ns : List Int}, dints ds = some ns → ds = ns.map D.int := by
  intro ds
  induction ds with
  | nil => intro ns h; cases h; rfl
  | cons d ds ih =>
    intro ns h
    cases d <;> simp only [dints] at h <;> try (cases h)
    simp only [Option.map_eq_some_iff] at h
    obtain ⟨l, hl, rfl⟩ := h
    rw [List.map_cons, ← ih hl]
def dbls : List D → Option (List Bool)
  | [] => some []
  | .bl i :: r => (dbls r).map fun l => i :: l
  | _ :: _ => none
theorem dbls_map : ∀ {ds : List D} {ns : List Bool}, dbls ds = some ns → ds = ns.map D.bl := by
  intro ds
  induction ds with
  | nil => intro ns h; cases h; rfl
  | cons d ds ih =>
    intro ns h
    cases d <;> simp only [dbls] at h <;> try (cases h)
    simp only [Option.map_eq_some_iff] at h
    obtain ⟨l, hl, rfl⟩ := h
    rw [List.map_cons, ← ih hl]
theorem DnAll.bls {K : PySem.W.Frag} {g : G} : ∀ {vs : List V} {ns : List Bool}, DnAll K g vs (ns.map D.bl) → vs = ns.map V.bl
  | _, [], .nil => rfl
  | _, n :: ns, .cons h r => by cases h; rw [DnAll.bls (ns := ns) r]; rfl
def kSum : D → Option Vl
  | .lst ds => (dints ds).map fun ns => (false, .int ns.sum)
  | _ => none
theorem c1_sum {K : PySem.W.Frag} : C1 K (rSum K) kSum := fun c g σ H st v d a Q r hv he q => by
  cases d <;> simp only [kSum] at he <;> try (cases he)
  simp only [Option.map_eq_some_iff] at he
  obtain ⟨ns, hn, rfl⟩ := he
  obtain ⟨p, vs, rfl, ho, ra⟩ := hv.lst r.toFin
  rw [dints_map hn] at ra
  have e := ra.ints
  subst e
  exact ⟨p, ns, rfl, .inl (.inl ho), q _ g H (.refl g) r (.int _)⟩
def kAll : D → Option Vl
  | .lst ds => (dbls ds).map fun ns => (false, .bl (ns.all id))
  | _ => none
def kAny : D → Option Vl
  | .lst ds => (dbls ds).map fun ns => (false, .bl (ns.any id))
  | _ => none
theorem c1_all {K : PySem.W.Frag} : C1 K (rAll K) kAll := fun c g σ H st v d a Q r hv he q => by
  cases d <;> simp only [kAll] at he <;> try (cases he)
  simp only [Option.map_eq_some_iff] at he
  obtain ⟨ns, hn, rfl⟩ := he
  obtain ⟨p, vs, rfl, ho, ra⟩ := hv.lst r.toFin
  rw [dbls_map hn] at ra
  have e := ra.bls
  subst e
  exact ⟨p, ns, rfl, .inl (.inl ho), q _ g H (.refl g) r (.bl _)⟩
theorem c1_any {K : PySem.W.Frag} : C1 K (rAny K) kAny := fun c g σ H st v d a Q r hv he q => by
  cases d <;> simp only [kAny] at he <;> try (cases he)
  simp only [Option.map_eq_some_iff] at he
  obtain ⟨ns, hn, rfl⟩ := he
  obtain ⟨p, vs, rfl, ho, ra⟩ := hv.lst r.toFin
  rw [dbls_map hn] at ra
  have e := ra.bls
  subst e
  exact ⟨p, ns, rfl, .inl (.inl ho), q _ g H (.refl g) r (.bl _)⟩
end
end PV
set_option maxHeartbeats 4000000
/-! min, max of two, isinstance, sorted, repr. -/
namespace PV
open PySem L2

section
variable {prog : Program} {w : World} {A : Around} {E : Value → Shared → Prop} {s : Shared}
theorem two_at {p q r : Value} {i : Nat} (h : (#[p, q] : Array Value)[i]? = some r) : (i = 0 ∧ r = p) ∨ (i = 1 ∧ r = q) := by
  match i, h with
  | 0, h => exact .inl ⟨rfl, by simpa using h.symm⟩
  | 1, h => exact .inr ⟨rfl, by simpa using h.symm⟩
  | i + 2, h => simp at h
/-- the walk over the pair that min and max make -/
theorem pair_walk {p q : Value} (hh : A.handled = none) {R : Value → Shared → Prop} (bt : Nat → Nat → Bool) {op : CmpOp} (hc : CmpOf prog w A.in1 op (fun i v => (#[p, q] : Array Value)[i]? = some v) bt)
    (h : ∀ v h' tk, (#[p, q] : Array Value)[argBest bt 1]? = some v → (∀ c o, s.heap.get? c = some o → h'.get? c = some o) → R v { s with heap := h', toks := tk }) :
    wpAny (model prog w) A.in1 (pyIter (.ref s.heap.objs.size)) (fun it s₂ => ∃ I fp wr n P St bt, it = .ref I ∧ Walks prog w A.in1 I fp wr n P St ∧ St 0 s₂.heap ∧ (∀ b ∈ fp, b < s₂.heap.objs.size) ∧ 0 < n ∧ CmpOf prog w A.in1 op P bt ∧
      ∀ v h' tk, P (argBest bt (n - 1)) v → (∀ b o, b ∉ wr → s₂.heap.get? b = some o → h'.get? b = some o) → R v { s₂ with heap := h', toks := tk }) E
      { s with heap := s.heap.push { cls := .type "tuple", data := .seq #[p, q] } } := by
  have hT : (s.heap.push { cls := .type "tuple", data := .seq #[p, q] }).IsTuple s.heap.objs.size #[p, q] := ⟨_, Heap.get?_push_size _ rfl, rfl, 0, rfl⟩
  have sz : (s.heap.push { cls := .type "tuple", data := .seq #[p, q] }).objs.size = s.heap.objs.size + 1 := Heap.size_push ..
  refine wpAny_pyIter_tuple hT ⟨_, [_, s.heap.objs.size], [_], _, _, _, bt, rfl, Walks.tuple (A := A.in1) hh _ s.heap.objs.size (by rw [sz]; exact Nat.ne_of_lt (Nat.lt_succ_self _)) #[p, q],
    ⟨⟨_, Heap.get?_push_size _ rfl, rfl, rfl⟩, hT.push _⟩, fun c hc' => ?_, by simp, hc, fun v h' tk hv hk => h v h' tk hv fun c o e => hk c o (fun z => ?_) (Heap.get?_push_of_some _ (Heap.get?_push_of_some _ e))⟩
  · have sz2 : ((s.heap.push { cls := .type "tuple", data := .seq #[p, q] }).push { cls := .type "tuple_iterator", data := .fields #[.ref s.heap.objs.size, .int 0 0] }).objs.size = s.heap.objs.size + 1 + 1 := by rw [Heap.size_push, sz]
    show c < ((s.heap.push _).push _).objs.size
    rw [Heap.size_push, sz]
    rcases List.mem_cons.mp hc' with z | z
    · rw [z, sz]; exact Nat.lt_succ_self _
    · have z : c = s.heap.objs.size := by simpa using z
      rw [z]; exact Nat.lt_succ_of_lt (Nat.lt_succ_self _)
  · have l := Heap.lt_size e
    rw [List.mem_singleton.mp z] at l
    have l : (s.heap.push { cls := .type "tuple", data := .seq #[p, q] }).objs.size < s.heap.objs.size := l
    rw [sz] at l
    exact absurd l (Nat.not_lt.mpr (Nat.le_succ _))
theorem cmp_strs_lt (x y : Str) (t u : Tok) : CmpOf prog w A.in1 .Lt (fun i v => (#[Value.str x t, .str y u] : Array Value)[i]? = some v) fun i j => decide ((if i = 0 then x else y).cps.toList < (if j = 0 then x else y).cps.toList) := by
  intro i j vi vj s Q E hi hj q
  rcases two_at hi with ⟨rfl, rfl⟩ | ⟨rfl, rfl⟩ <;> rcases two_at hj with ⟨rfl, rfl⟩ | ⟨rfl, rfl⟩ <;> exact (show wpAny _ _ (compareOp .Lt _ _) _ _ _ from PyProof.Rows.lt_str q)
theorem cmp_strs_gt (x y : Str) (t u : Tok) : CmpOf prog w A.in1 .Gt (fun i v => (#[Value.str x t, .str y u] : Array Value)[i]? = some v) fun i j => decide ((if j = 0 then x else y).cps.toList < (if i = 0 then x else y).cps.toList) := by
  intro i j vi vj s Q E hi hj q
  rcases two_at hi with ⟨rfl, rfl⟩ | ⟨rfl, rfl⟩ <;> rcases two_at hj with ⟨rfl, rfl⟩ | ⟨rfl, rfl⟩ <;> exact (show wpAny _ _ (compareOp .Gt _ _) _ _ _ from PySem.P.gt_str q)
end

section
variable {X : Cx} {x : XC} {e a b : Expr} {es : List Expr} {pos : Pos}
theorem call_min2S (hc : X.calm = true) : CallR X (.builtin "min") (fun xs H Q => ∃ i j, xs = [.str i, .str j] ∧ Q (.str (if decide (j.cps.toList < i.cps.toList) = true then j else i)) H) := by
  intro pins s σ H xs us Q I r h
  obtain ⟨i, j, rfl, q⟩ := h
  obtain ⟨u, w', rfl, ⟨t, rfl⟩, ⟨t', rfl⟩⟩ := vals2 r
  refine call_min_two (pair_walk (I.ok.hd hc) _ (cmp_strs_lt i j t t') fun v h' tk hv k => ⟨_, H, I.kept k, ?_, q⟩)
  simp only [argBest] at hv
  by_cases hj : j.cps.toList < i.cps.toList
  · simp [hj] at hv; subst hv; rw [if_pos (decide_eq_true hj)]; exact ⟨_, rfl⟩
  · simp [hj] at hv; subst hv; rw [if_neg (by simpa using hj)]; exact ⟨_, rfl⟩
theorem call_max2S (hc : X.calm = true) : CallR X (.builtin "max") (fun xs H Q => ∃ i j, xs = [.str i, .str j] ∧ Q (.str (if decide (i.cps.toList < j.cps.toList) = true then j else i)) H) := by
  intro pins s σ H xs us Q I r h
  obtain ⟨i, j, rfl, q⟩ := h
  obtain ⟨u, w', rfl, ⟨t, rfl⟩, ⟨t', rfl⟩⟩ := vals2 r
  refine call_max_two (pair_walk (I.ok.hd hc) _ (cmp_strs_gt i j t t') fun v h' tk hv k => ⟨_, H, I.kept k, ?_, q⟩)
  simp only [argBest] at hv
  by_cases hj : i.cps.toList < j.cps.toList
  · simp [hj] at hv; subst hv; rw [if_pos (decide_eq_true hj)]; exact ⟨_, rfl⟩
  · simp [hj] at hv; subst hv; rw [if_neg (by simpa using hj)]; exact ⟨_, rfl⟩

/-- two arguments -/
def C2 (K : PySem.W.Frag) (r : List V → Hp → VK → Prop) (k : D → D → Option Vl) : Prop := ∀ (c : C) (g : G) (σ : L2.St) (H : Hp) (st : S) (v u : V) (d e : D) (a : Vl) (Q : VK), Rel K c g σ H st → Dn K g v d → Dn K g u e → k d e = some a →
  (∀ z g' H', g.Le g' → Rel K c g' σ H' st → VlR K c g' H' σ st z a → Q z H') → r [v, u] H Q
theorem C2.or {K : PySem.W.Frag} {r r' : List V → Hp → VK → Prop} {k k' : D → D → Option Vl} (o : C2 K r k) (o' : C2 K r' k') : C2 K (fun vs H Q => r vs H Q ∨ r' vs H Q) (fun d e => (k d e).orElse fun _ => k' d e) :=
  fun c g σ H st v u d e a Q rl hv hu he hq => by
    have he : (k d e).orElse (fun _ => k' d e) = some a := he
    cases z : k d e with
    | some y =>
      rw [z] at he
      have : y = a := by simpa using he
      subst this
      exact .inl (o c g σ H st v u d e y Q rl hv hu z hq)
    | none =>
      rw [z] at he
      exact .inr (o' c g σ H st v u d e a Q rl hv hu (by simpa using he) hq)
theorem tC2_of {r : List V → Hp → VK → Prop} {k : D → D → Option Vl} {f h : DE} (o : C2 X.K r k) : ∀ (σ : L2.St) H Q, tS X.K x (bE k f h) σ H Q → tCB r (tCons (tS X.K x f) (tCons (tS X.K x h) tNil)) σ H Q := fun σ H Q ⟨c, g, st, rl, q⟩ => by
  unfold bE at q
  refine ⟨c, g, st, rl, q.bind fun a st1 v g1 H1 l1 r1 h1 q1 => ?_⟩
  obtain ⟨g1', l1', r1', d1⟩ := h1.fz r1
  refine ⟨c, g1', st1, r1', (q1.mono l1').bind fun b st2 u g2 H2 l2 r2 h2 q2 => ?_⟩
  obtain ⟨g2', l2', r2', d2⟩ := h2.fz r2
  have q3 := q2.mono l2'
  cases e : k a.2 b.2 with
  | none => rw [e] at q3; exact q3.elim
  | some z =>
    rw [e] at q3
    exact o c g2' σ H2 st2 v u a.2 b.2 z Q r2' (d1.mono (l2.trans l2')) d2 e fun z' g' H' l r hz => q3 z' g' H' l r hz
theorem sE_call2 {y id : Str} {f : String} {p : Pos} {r : List V → Hp → VK → Prop} {k : D → D → Option Vl} {fa fb : DE} (hc : CallR X (.builtin f) r) (o : C2 X.K r k) (hg : Gl X y) (hm : X.mg y = none) (hv : bootBuiltins y = some (.builtin f))
    (hn : y ≠ "__name__") (hd : (y == ("__debug__" : Str)) = false) (hs : isStar a = false) (hs' : isStar b = false) (ha : PE X a (tS X.K x fa)) (hb : PE X b (tS X.K x fb)) : PE X (.Call (.Name y p) [a, b] [] pos) (tS X.K x (bE k fa fb)) :=
  (pe_callB hc hg hm hv (pa_cons ha (pa_cons hb pa_nil (starEach_cons hs')) (starEach_cons hs)) hn hd (starEach_cons hs) (by rw [starEach_cons hs']; rfl)).imp (tC2_of o)
def kMin : D → D → Option Vl
  | .int i, .int j => some (false, .int (if j < i then j else i))
  | .str i, .str j => some (false, .str (if decide (j.cps.toList < i.cps.toList) = true then j else i))
  | _, _ => none
def kMax : D → D → Option Vl
  | .int i, .int j => some (false, .int (if j > i then j else i))
  | .str i, .str j => some (false, .str (if decide (i.cps.toList < j.cps.toList) = true then j else i))
  | _, _ => none
def rMin2 : List V → Hp → VK → Prop := fun xs H Q => (∃ i j, xs = [.int i, .int j] ∧ Q (.int (if j < i then j else i)) H) ∨ ∃ i j, xs = [.str i, .str j] ∧ Q (.str (if decide (j.cps.toList < i.cps.toList) = true then j else i)) H
def rMax2 : List V → Hp → VK → Prop := fun xs H Q => (∃ i j, xs = [.int i, .int j] ∧ Q (.int (if j > i then j else i)) H) ∨ ∃ i j, xs = [.str i, .str j] ∧ Q (.str (if decide (i.cps.toList < j.cps.toList) = true then j else i)) H
theorem c2_min {K : PySem.W.Frag} : C2 K rMin2 kMin := fun c g σ H st v u d e a Q r hv hu he q => by
  cases d <;> cases e <;> simp only [kMin] at he <;> try (cases he)
  · cases hv; cases hu; exact .inl ⟨_, _, rfl, q _ g H (.refl g) r (.int _)⟩
  · cases hv; cases hu; exact .inr ⟨_, _, rfl, q _ g H (.refl g) r (.str _)⟩
theorem c2_max {K : PySem.W.Frag} : C2 K rMax2 kMax := fun c g σ H st v u d e a Q r hv hu he q => by
  cases d <;> cases e <;> simp only [kMax] at he <;> try (cases he)
  · cases hv; cases hu; exact .inl ⟨_, _, rfl, q _ g H (.refl g) r (.int _)⟩
  · cases hv; cases hu; exact .inr ⟨_, _, rfl, q _ g H (.refl g) r (.str _)⟩

/-! ### isinstance -/
def tyD : D → Option String
  | .non => some "NoneType"
  | .bl _ => some "bool"
  | .int _ => some "int"
  | .str _ => some "str"
  | .lst _ => some "list"
  | .tup _ => some "tuple"
  | .dK _ _ => some "dict"
  | _ => none
/-- the six classes that are asked -/
def isaT (t T : String) : Option Bool := match T with
  | "str" => some (t == "str")
  | "int" => some (t == "int" || t == "bool")
  | "bool" => some (t == "bool")
  | "tuple" => some (t == "tuple")
  | "list" => some (t == "list")
  | "dict" => some (t == "dict")
  | _ => none
def kIsa (T : String) : D → Option Vl := fun d => (tyD d).bind fun t => (isaT t T).map fun b => (false, .bl b)
theorem Bn.ty {K : PySem.W.Frag} {c : C} {g : G} {H : Hp} {w : W} {v : V} {d : D} {t : String} (f : Fin K c g H w) (h : Bn K g H v d) (e : tyD d = some t) : TyX K H v (.type t) := by
  have rdK : ∀ {a : Addr} {kvs : List (Key × V)}, Rd H a (.dK kvs) → TyX K H (.ref a) (.type "dict") := fun h => by
    rcases h with h | ⟨o, h⟩
    · exact .base (.dK h)
    · exact .fDict h
  cases d <;> simp only [tyD] at e <;> cases e
  · rw [h.non]; exact .base .non
  · rw [h.bl]; exact .base (.bl _)
  · rw [h.int]; exact .base (.int _)
  · rw [h.str]; exact .base (.str _)
  · obtain ⟨p, vs, rfl, ho, _⟩ := h.lst f; exact .base (.lst ho)
  · obtain ⟨p, vs, rfl, ho, _⟩ := h.tup f
    rcases ho with (ho | ⟨o, ho⟩) | ⟨o, its, n, hk, hc, _⟩
    · exact .base (.tup ho)
    · exact .fTuple ho
    · exact .kTuple hk hc
  · obtain ⟨p, vs, rfl, ho, _⟩ := h.dK f; exact rdK ho
theorem kit_isa {K : PySem.W.Frag} {t T : String} {b : Bool} (ht : t = "NoneType" ∨ t = "bool" ∨ t = "int" ∨ t = "str" ∨ t = "list" ∨ t = "tuple" ∨ t = "dict") (h : isaT t T = some b) : PySem.W.kitOne K (.type t) (.type T) = some b := by
  refine kit_ty ?_
  unfold isaT at h
  split at h <;> cases h <;> rcases ht with rfl | rfl | rfl | rfl | rfl | rfl | rfl <;> decide +kernel
theorem tyD_is {d : D} {t : String} (h : tyD d = some t) : t = "NoneType" ∨ t = "bool" ∨ t = "int" ∨ t = "str" ∨ t = "list" ∨ t = "tuple" ∨ t = "dict" := by
  cases d <;> simp only [tyD] at h <;> cases h <;> simp
/-- isinstance(a, T) -/
theorem sE_isa {T : String} {y : Str} {p p' : Pos} {oa : Opn} (hg : Gl X "isinstance") (hm : X.mg "isinstance" = none) (hgT : Gl X y) (hmT : X.mg y = none) (hv : bootBuiltins y = some (.type T)) (hn : y ≠ "__name__") (hd : (y == ("__debug__" : Str)) = false)
    (hs : isStar a = false) (ha : PE X a (tO X.K x oa)) : PE X (.Call (.Name "isinstance" p) [a, .Name y p'] [] pos) (tS X.K x (oE1 (kIsa T) oa)) := by
  have hb : PE X (.Name y p') (tC (.ty T)) := pe_bltn hgT hmT hv rfl hn hd
  refine (pe_callB call_isi hg hm (by decide +kernel) (pa_cons ha (pa_cons hb pa_nil rfl) (starEach_cons hs)) (by decide) (by decide) (starEach_cons hs) rfl).imp fun σ H Q ⟨c, g, st, rl, q⟩ => ?_
  unfold oE1 at q
  refine tO_of rl q fun v d st1 g1 H1 l1 r1 h1 q1 => ?_
  cases z0 : oa.fin d st1 with
  | none => rw [z0] at q1; exact q1.elim
  | some d' =>
    rw [z0] at q1
    have q1 : Post X.K x c g1 σ _ Q (ofO (kIsa T d') st1) := q1
    cases z : kIsa T d' with
    | none => rw [z] at q1; exact q1.elim
    | some y =>
      rw [z] at q1
      simp only [kIsa, Option.bind_eq_some_iff, Option.map_eq_some_iff] at z
      obtain ⟨t, ht, b, hb, rfl⟩ := z
      exact ⟨v, .ty T, _, _, b, rfl, .ty T, (h1.fin r1 z0).ty r1.toFin ht, kit_isa (tyD_is ht) hb, q1 _ g1 H1 (.refl g1) r1 (.bl _)⟩

/-! ### sorted -/
def leD (d e : D) : Bool := !PySem.W.dataLt e.py d.py
def sortD (ds : List D) : List D := ds.mergeSort leD
/-- all of one kind -/
def alikeD : List D → Bool
  | [] => true
  | d :: ds => ds.all (fun e => PySem.W.alike d.py e.py && PySem.W.alike e.py d.py) && alikeD ds
def selfD (ds : List D) : Bool := ds.all fun d => PySem.W.alike d.py d.py
theorem alikeD_all : ∀ {ds : List D}, alikeD ds = true → selfD ds = true → ∀ d ∈ ds, ∀ e ∈ ds, PySem.W.alike d.py e.py = true
  | [], _, _, d, hd, _, _ => nomatch hd
  | a :: ds, h, hs, d, hd, e, he => by
    simp only [alikeD, Bool.and_eq_true, List.all_eq_true] at h
    simp only [selfD, List.all_eq_true] at hs
    rcases List.mem_cons.mp hd with zd | zd
    · rcases List.mem_cons.mp he with ze | ze
      · rw [zd, ze]; exact hs _ (List.mem_cons_self ..)
      · rw [zd]; exact (h.1 e ze).1
    · rcases List.mem_cons.mp he with ze | ze
      · rw [ze]; exact (h.1 d zd).2
      · exact alikeD_all h.2 (by simp only [selfD, List.all_eq_true]; exact fun y hy => hs y (List.mem_cons_of_mem _ hy)) d zd e ze
def isTupC : D → Bool
  | .tup (_ :: _) => true
  | _ => false
def isLeafC : D → Bool
  | .bl _ => true
  | .int _ => true
  | .str _ => true
  | .lst _ => true
  | _ => false
def sortOk (ds : List D) : Bool := ds.all (D.pl deep) && alikeD ds && selfD ds && (ds.all isTupC || ds.all isLeafC) && decide (ds.length ≤ 16777216)
def kSorted : D → Option Vl
  | .lst ds => if sortOk ds then some (true, .lst (sortD ds)) else none
  | _ => none
/-- items with their data -/
abbrev VD := V × D
theorem each_zip {K : PySem.W.Frag} {g : G} : ∀ {vs : List V} {ds : List D} {its : List Value}, DnAll K g vs ds → Vals vs its → PySem.W.EachIs (fun u (b : VD) => RelV b.1 u ∧ Dn K g b.1 b.2) its (vs.zip ds)
  | _, _, _, .nil, .nil => .nil
  | _, _, _, .cons a r, .cons b t => .cons ⟨b, a⟩ (each_zip r t)
theorem each_out {K : PySem.W.Frag} {g : G} : ∀ {its : List Value} {bs : List VD}, PySem.W.EachIs (fun u (b : VD) => RelV b.1 u ∧ Dn K g b.1 b.2) its bs → Vals (bs.map (·.1)) its ∧ DnAll K g (bs.map (·.1)) (bs.map (·.2))
  | _, _, .nil => ⟨.nil, .nil⟩
  | _, _, .cons h r => let ⟨a, b⟩ := each_out r; ⟨.cons h.1 a, .cons h.2 b⟩
def rSortD (K : PySem.W.Frag) : List V → Hp → VK → Prop := fun vs H Q => ∃ (p : Addr) (xs : List V) (ds : List D) (g : G), vs = [.ref p] ∧ H p = some (.lst xs) ∧ DnAll K g xs ds ∧ (∀ d ∈ ds, ∀ v, Dn K g v d → Dp K H v d.py) ∧ sortOk ds = true ∧
  ∀ l ys, H l = none → DnAll K g ys (sortD ds) → Q (.ref l) (upd H l (.lst ys))
theorem callR_sorted (hu : X.A.units + 64 < cLine) : CallR X (.builtin "sorted") (rSortD X.K) := by
  intro pins s σ H vs us Q I r h
  obtain ⟨p, xs, ds, g, rfl, hp, ra, rd, ok, q⟩ := h
  obtain ⟨its, rv, hl, _⟩ := I.list (.inl (.inl hp))
  obtain ⟨u, rfl, ru⟩ := vals1 r
  cases ru
  simp only [sortOk, Bool.and_eq_true, Bool.or_eq_true] at ok
  obtain ⟨⟨⟨⟨o1, o2⟩, o3⟩, o4⟩, o5⟩ := ok
  have o5 := of_decide_eq_true o5
  rw [List.all_eq_true] at o1
  have len : (xs.zip ds).length = ds.length := by rw [List.length_zip, ra.length, Nat.min_self]
  have mem : ∀ b ∈ xs.zip ds, b.2 ∈ ds := fun b hb => (List.of_mem_zip hb).2
  have e := each_zip ra rv
  have er : PySem.W.EachIs (fun u (b : VD) => ∃ as, Reads s.heap u b.2.py as) its (xs.zip ds) := by
    have hz : ∀ {its : List Value} {bs : List VD}, PySem.W.EachIs (fun u (b : VD) => RelV b.1 u ∧ Dn X.K g b.1 b.2) its bs → (∀ b ∈ bs, b.2 ∈ ds) → PySem.W.EachIs (fun u (b : VD) => ∃ as, Reads s.heap u b.2.py as) its bs := by
      intro its bs h
      induction h with
      | nil => exact fun _ => .nil
      | cons h _ ih => exact fun m => .cons (Dp.reads I _ _ _ (rd _ (m _ (List.mem_cons_self ..)) _ h.2) h.1) (ih fun b hb => m b (List.mem_cons_of_mem _ hb))
    exact hz e mem
  have hal : PySem.W.AllAlike ((xs.zip ds).map fun b => b.2.py) := fun d hd d' hd' => by
    obtain ⟨b, hb, rfl⟩ := List.mem_map.mp hd
    obtain ⟨b', hb', rfl⟩ := List.mem_map.mp hd'
    exact alikeD_all o2 o3 _ (mem b hb) _ (mem b' hb')
  have hk : PySem.W.Sortable ((xs.zip ds).map fun b => b.2.py) := by
    rcases o4 with o4 | o4
    · refine .inl fun d hd => ?_
      obtain ⟨b, hb, rfl⟩ := List.mem_map.mp hd
      have z := List.all_eq_true.mp o4 _ (mem b hb)
      revert z
      cases b.2 with
      | tup l =>
        cases l with
        | nil => intro z; cases z
        | cons y l => intro _; exact ⟨y.py, D.pyAll l, by rw [D.py, D.pyAll]⟩
      | _ => intro z; cases z
    · refine .inr fun d hd => ?_
      obtain ⟨b, hb, rfl⟩ := List.mem_map.mp hd
      have z := List.all_eq_true.mp o4 _ (mem b hb)
      revert z
      cases b.2 <;> intro z <;> first | (cases z; done) | (refine ⟨?_, fun xs => ?_⟩ <;> simp [D.py])
  refine PySem.W.sorted_data (R := fun u (b : VD) => RelV b.1 u ∧ Dn X.K g b.1 b.2) (enc := fun b => b.2.py) hl.isList e er hal hk (by rw [len, sizeLine_eq]; exact o5) (fun b hb => ?_) fun out hlen ho => ?_
  · have := (pl_ok _ _ (o1 _ (mem b hb))).2
    have : deep = 16 := rfl
    omega
  · obtain ⟨ep, he⟩ := PyProof.Rows.sortedAll_at s.heap its (List.toArray out)
    obtain ⟨v1, v2⟩ := each_out ho
    have em : ((xs.zip ds).mergeSort (PySem.W.dataLe false fun b : VD => b.2.py)).map (·.2) = sortD ds := by
      unfold sortD
      have z : (xs.zip ds).map (·.2) = ds := by rw [List.map_snd_zip]; rw [ra.length]; exact Nat.le_refl _
      conv => rhs; rw [← z]
      exact List.map_mergeSort fun a _ b _ => by rw [PySem.W.dataLe_eq]; rfl
    rw [em] at v2
    have lz : (((xs.zip ds).mergeSort (PySem.W.dataLe false fun b : VD => b.2.py)).map (·.1)).length ≤ sizeLine := by
      rw [List.length_map, List.length_mergeSort, len, sizeLine_eq]; exact o5
    exact ⟨.ref _, _, I.laid (o := .lst (((xs.zip ds).mergeSort (PySem.W.dataLe false fun b : VD => b.2.py)).map (·.1))) (t' := s.toks) (fun _ _ => PyProof.Rows.sortedAll_old) (Nat.le_succ _) ⟨lz, out, ep, v1, he⟩, rfl, q _ _ (I.hok.fresh (Nat.le_succ _)) v2⟩
theorem c1_sorted {K : PySem.W.Frag} : C1 K (rSortD K) kSorted := fun c g σ H st v d a Q r hv he q => by
  cases d <;> simp only [kSorted] at he <;> try (cases he)
  split at he
  · rename_i ds ok
    cases he
    obtain ⟨p, vs, rfl, ho, ra⟩ := hv.lst r.toFin
    refine ⟨p, vs, ds, g, rfl, ho, ra, fun d hd v h => h.dp r.toFin deep _ _ ?_, ok, fun l ys hl hy => q _ g _ (.refl g) (r.new hl) (.new r hl (.lst hy))⟩
    simp only [sortOk, Bool.and_eq_true] at ok
    exact List.all_eq_true.mp ok.1.1.1.1 d hd
  · cases he

/-! ### repr -/
def isSeqD : D → Bool
  | .lst _ => true
  | .tup _ => true
  | _ => false
def kRepr : D → Option Vl := fun d => if (d.pl deep && d.py.showable && decide (d.py.shown.length ≤ 16777216) && isSeqD d) = true then some (false, .str d.py.shown) else none
def rReprD (K : PySem.W.Frag) : List V → Hp → VK → Prop := fun vs H Q => ∃ p d, vs = [.ref p] ∧ Dp K H (.ref p) d ∧ d.plain = true ∧ d.depth ≤ deep ∧ d.showable = true ∧ d.shown.length ≤ sizeLine ∧ Q (.str d.shown) H
theorem plain_nodict : ∀ d : PyData, d.plain = true → d.hasDict = false := by
  intro d
  have all : ∀ (n : Nat) (d : PyData), sizeOf d ≤ n → d.plain = true → d.hasDict = false := by
    intro n
    induction n with
    | zero => intro d h; cases d <;> simp at h
    | succ n ih =>
      have seq : ∀ xs : List PyData, sizeOf xs ≤ n → PyData.plainAll xs = true → PyData.hasDictAll xs = false := by
        intro xs
        induction xs with
        | nil => intro _ _; rfl
        | cons x xs ih2 =>
          intro h p
          rw [PyData.plainAll, Bool.and_eq_true] at p
          rw [PyData.hasDictAll, ih x (by simp at h; omega) p.1, ih2 (by simp at h; omega) p.2]
          rfl
      intro d h p
      cases d with
      | list xs => rw [PyData.hasDict]; exact seq xs (by simp at h; omega) (by rw [PyData.plain] at p; exact p)
      | tuple xs => rw [PyData.hasDict]; exact seq xs (by simp at h; omega) (by rw [PyData.plain] at p; exact p)
      | dict _ => simp [PyData.plain] at p
      | _ => rfl
  exact all _ d (Nat.le_refl _)
theorem callR_repr (hu : X.A.units + 64 < cLine) (hg : X.A.guards = some []) : CallR X (.builtin "repr") (rReprD X.K) := by
  intro pins s σ H vs us Q I r h
  obtain ⟨p, d, rfl, hd, pd, dd, sh, sz, q⟩ := h
  obtain ⟨u, rfl, ru⟩ := vals1 r
  cases ru
  obtain ⟨as, rr⟩ := Dp.reads I d _ _ hd (show RelV (.ref p) (.ref p) from rfl)
  have hnd : d.hasDict = true → sysModules ∉ as := fun z => by rw [plain_nodict d pd] at z; cases z
  obtain ⟨T, idr, S⟩ := showsBy_of_reads (prog := X.prog) (w := X.w) rr sh hnd sz
  have hdeep : deep = 16 := rfl
  exact call_repr_slot (by omega) (S.typeIs s fun _ _ e => e) S.slotRepr (S.call X.A.in1 X.xe s _ hg (by show X.A.units + 1 + d.depth < cLine; omega) (fun _ _ e => e) fun h' t tk hk => ⟨_, _, rfl, .str d.shown, H, I.kept hk, ⟨_, rfl⟩, q⟩)
theorem c1_repr {K : PySem.W.Frag} : C1 K (rReprD K) kRepr := fun c g σ H st v d a Q r hv he q => by
  unfold kRepr at he
  split at he
  · rename_i h
    simp only [Bool.and_eq_true] at h
    obtain ⟨⟨⟨h1, h2⟩, h3⟩, h4⟩ := h
    cases he
    obtain ⟨p1, p2⟩ := pl_ok _ _ h1
    have hr : ∃ p, v = .ref p := by
      cases d with
      | lst ds => obtain ⟨p, _, e, _⟩ := hv.lst r.toFin; exact ⟨p, e⟩
      | tup ds => obtain ⟨p, _, e, _⟩ := hv.tup r.toFin; exact ⟨p, e⟩
      | _ => cases h4
    obtain ⟨p, rfl⟩ := hr
    exact ⟨p, _, rfl, hv.dp r.toFin h1, p1, p2, h2, by rw [sizeLine_eq]; exact of_decide_eq_true h3, q _ g H (.refl g) r (.str _)⟩
  · cases he
end
end PV
set_option maxHeartbeats 4000000
/-! What a def gives of data, and its call. -/
namespace PV
open PySem L2

inductive Rf where
  | ok (a : Vl) (w : W)
  | ex (e : Exn) (w : W)
  | bad
/-- a def as a function of data -/
abbrev FS := List D → W → Rf

/-- a call's value, as the caller sees it -/
def VlF (K : PySem.W.Frag) (H0 : Hp) (g : G) (H : Hp) (v : V) : Vl → Prop
  | (false, d) => Dn K g v d
  | (true, d) => ∃ p o, v = .ref p ∧ H p = some o ∧ HoD K g o d ∧ g.F p = none ∧ H0 p = none ∧ ¬ g.wa p
def PostF (K : PySem.W.Frag) (x : XC) (H : Hp) (g : G) (Q : VK) : Rf → Prop
  | .ok a w => ∀ v g' H', g.Le g' → Fin K ⟨H, g⟩ g' H' w → VlF K H g' H' v a → Q v H'
  | .ex e w => ∀ cls dx g' H', g.Le g' → Fin K ⟨H, g⟩ g' H' w → x.xr e cls dx H' → x.E cls dx H'
  | .bad => False
/-- the promise: from arguments that are data, in a state where only the frozen part and the world are spoken of -/
def spOf (K : PySem.W.Frag) (xr : Exn → Value → Option Addr → Hp → Prop) (n : Nat) (fs : FS) : Sp := fun vs H Q E => vs.length = n ∧ ∃ g ds w, DnAll K g vs ds ∧ Ok0 K g H w ∧ PostF K ⟨xr, E⟩ H g Q (fs ds w)

/-- a def that keeps a promise wherever no text of an object is being made -/
structure FnG (P : Program) (w : World) (K : PySem.W.Frag) (mg : Str → Option Value) (base : Heap) (cx : CXT) (k : Nat) (f : Addr) (fd : FuncData) (ps : List Str) (sp : Sp) : Prop where
  len : ∀ vs H Q E, sp vs H Q E → vs.length = ps.length
  go : ∀ (A : Around) (outer : List Env) (s : Shared) (H : Hp) (args : Args) (us : List Value) (vs : List V) (Q : VK) (E : XK), A.guards = some [] → Room k A → Env0 P w K mg base A outer s H →
    BindsTo s fd args (ps.zip us) → Vals vs us → sp vs H Q E → codeAny (model P w) A (.call (.ref f) args) (CR cx outer P w H s Q E) s
theorem FnG.up {P : Program} {w : World} {K : PySem.W.Frag} {mg : Str → Option Value} {base : Heap} {cx : CXT} {j k : Nat} {f : Addr} {fd : FuncData} {ps : List Str} {sp : Sp} (F : FnG P w K mg base cx j f fd ps sp) (h : j ≤ k) : FnG P w K mg base cx k f fd ps sp :=
  ⟨F.len, fun A outer s H args us vs Q E hg hr => F.go A outer s H args us vs Q E hg (hr.mono h)⟩
/-- a function that says less -/
def Less (fs fs' : FS) : Prop := ∀ ds w, fs ds w = .bad ∨ fs' ds w = fs ds w
theorem FnG.less {P : Program} {w : World} {K : PySem.W.Frag} {mg : Str → Option Value} {base : Heap} {cx : CXT} {k n : Nat} {f : Addr} {fd : FuncData} {ps : List Str} {xr : Exn → Value → Option Addr → Hp → Prop} {fs fs' : FS}
    (F : FnG P w K mg base cx k f fd ps (spOf K xr n fs')) (h : Less fs fs') : FnG P w K mg base cx k f fd ps (spOf K xr n fs) := by
  have weak : ∀ vs H Q E, spOf K xr n fs vs H Q E → spOf K xr n fs' vs H Q E := fun vs H Q E ⟨l, g, ds, w', a1, a2, q⟩ => by
    refine ⟨l, g, ds, w', a1, a2, ?_⟩
    rcases h ds w' with z | z
    · rw [z] at q; exact q.elim
    · rw [z]; exact q
  exact ⟨fun vs H Q E q => F.len vs H Q E (weak _ _ _ _ q), fun A outer s H args us vs Q E hg hr e0 hb r q => F.go A outer s H args us vs Q E hg hr e0 hb r (weak _ _ _ _ q)⟩

section
variable {X : Cx} {x : XC} {cx : CXT} {k n : Nat} {f : Addr} {fd : FuncData} {ps : List Str} {sp : Sp} {fs : FS} {y : Str} {p pos : Pos} {e : Expr} {es : List Expr}
theorem go_fn {pins : List (Addr × Obj)} {σ : L2.St} {H : Hp} {s : Shared} {Q : VK} {us : List Value} {vs : List V} {E : XK} (F : FnG X.prog X.w X.K X.mg X.base cx k f fd ps sp) (hg : X.A.guards = some []) (hr : Room k X.A) (hb : Binds X.K fd ps []) (hx : Passes cx X E)
    (I : Inv X pins σ H s) (r : Vals vs us) (h : sp vs H Q E) : wpAny (model X.prog X.w) X.A (call (.ref f) us) (EP X pins σ Q) X.xe s := by
  have hl : us.length = ps.length := r.length ▸ F.len _ _ _ _ h
  have hbu := hb s us I.kIn (by rw [List.append_nil]; exact hl)
  rw [List.append_nil] at hbu
  refine wpAny_call (codeAny_mono (F.go X.A X.stack s H ⟨us, []⟩ us vs Q E hg hr I.env0 hbu r h) fun o s' z => ?_)
  match o, z with
  | .error ee, z => exact hx pins σ H s ee s' I z
  | .ok (.ret u), z => exact I.after z
  | .ok .next, z => exact z.elim
  | .ok .brk, z => exact z.elim
  | .ok .cont, z => exact z.elim
def callE (fs : FS) (h : DA) : DE := fun st => (h st).bind fun ds st => match fs ds st.w with
  | .ok a w => .ok a { st with w := w }
  | .ex e w => .ex e w
  | .bad => .bad
theorem tCall_of {h : DA} (hn : ∀ st ds st', h st = .ok ds st' → ds.length = n) : ∀ (σ : L2.St) H Q, tS X.K x (callE fs h) σ H Q → tCall (spOf X.K x.xr n fs) [] x.E (tA X.K x h) σ H Q := fun σ H Q ⟨c, g, st, r, q⟩ => by
  unfold callE at q
  refine ⟨c, g, st, r, ?_⟩
  cases z : h st with
  | bad => rw [z] at q; exact q.elim
  | ex e w => rw [z] at q; exact q
  | ok ds st1 =>
    rw [z] at q
    intro vs g1 H1 l1 r1 h1
    have q1 := Post.mono q l1
    rw [List.append_nil]
    refine ⟨by rw [h1.length]; exact hn _ _ _ z, g1, ds, st1.w, h1, r1.toFin.ok0, ?_⟩
    have q1 : Post X.K x c g1 σ _ Q (match fs ds st1.w with | .ok a w => R.ok a { st1 with w := w } | .ex e w => .ex e w | .bad => .bad) := q1
    revert q1
    cases fs ds st1.w with
    | bad => exact fun q1 => q1.elim
    | ex e w => exact fun q1 cls dx g' H' l f xr => q1 cls dx g' H' l (r1.toFin.trans f) xr
    | ok a w =>
      intro q1 v g' H' l f hv
      have r2 := r1.call f
      refine q1 v g' H' l r2 ?_
      obtain ⟨b, d⟩ := a
      cases b with
      | false => exact hv
      | true =>
        obtain ⟨p, o, rfl, a1, a2, a3, a4, a5⟩ := hv
        refine ⟨p, o, rfl, a1, a2, a3, r1.toFin.old a4, a5, fun i zz => ?_⟩
        obtain ⟨⟨d', z1⟩, z2⟩ := zz
        obtain ⟨o', b1, _⟩ := (r1.sl i _ z1).at_ow z2
        have a4 : H1 p = none := a4
        rw [a4] at b1; cases b1
theorem sE_call (F : FnG X.prog X.w X.K X.mg X.base cx k f fd ps (spOf X.K x.xr n fs)) (hgd : X.A.guards = some []) (hr : Room k X.A) (hg : Gl X y) (hm : X.mg y = some (.ref f)) (hk : PySem.W.keepIn X.K (.ref f) = true) (hb : Binds X.K fd ps []) (hx : Passes cx X x.E)
    {h : DA} (hn : ∀ st ds st', h st = .ok ds st' → ds.length = n) (ha : PA X (e :: es) (tA X.K x h)) (hdb : (y == ("__debug__" : Str)) = false) (hs : isStar e = false) (hpl : (backTo pos (starEach es X.env)).any (·.1) = false) :
    PE X (.Call (.Name y p) (e :: es) [] pos) (tS X.K x (callE fs h)) := by
  refine L2.PE.imp (t := tCall (spOf X.K x.xr n fs) [] x.E (tA X.K x h)) ⟨fun pins s σ H Q I q => ?_⟩ (tCall_of hn)
  refine wpAny_Call_Name_kw (ld_glob I hg hm ?_ hdb)
  refine PySem.W.callWith_K (h₀ := X.base) I.ok.mod.kin hk (thn (ha.run pos pins s σ H _ I q) fun us s1 ⟨vs, H1, I1, r, q⟩ => ⟨I1.kIn, ?_⟩) (starEach_cons hs) hpl
  have q : spOf X.K x.xr n fs (vs ++ []) H1 Q x.E := q
  rw [List.append_nil] at q
  exact go_fn F hgd hr hb hx I1 r q
theorem sE_call0 (F : FnG X.prog X.w X.K X.mg X.base cx k f fd ps (spOf X.K x.xr 0 fs)) (hgd : X.A.guards = some []) (hr : Room k X.A) (hg : Gl X y) (hm : X.mg y = some (.ref f)) (hk : PySem.W.keepIn X.K (.ref f) = true) (hb : Binds X.K fd ps []) (hx : Passes cx X x.E)
    (hdb : (y == ("__debug__" : Str)) = false) : PE X (.Call (.Name y p) [] [] pos) (tS X.K x (callE fs aNil)) := by
  refine L2.PE.imp (t := tCall (spOf X.K x.xr 0 fs) [] x.E (tA X.K x aNil)) ⟨fun pins s σ H Q I q => ?_⟩ (tCall_of fun st ds st' z => by cases z; rfl)
  refine wpAny_Call_Name_kw (ld_glob I hg hm ?_ hdb)
  obtain ⟨c, g, st, r, q⟩ := q
  exact PySem.W.callWith_K0 I.kIn hk (go_fn (us := []) F hgd hr hb hx I .nil (q [] g H (.refl g) r .nil))
end
theorem aCons_len {f : DE} {h : DA} {n : Nat} (ih : ∀ st ds st', h st = .ok ds st' → ds.length = n) : ∀ st ds st', aCons f h st = .ok ds st' → ds.length = n + 1 := fun st ds st' z => by
  unfold aCons at z
  cases z1 : f st with
  | bad => rw [z1] at z; cases z
  | ex e w => rw [z1] at z; cases z
  | ok a st1 =>
    rw [z1] at z
    have z : ((h st1).bind fun ds st => R.ok (a.2 :: ds) st) = .ok ds st' := z
    cases z2 : h st1 with
    | bad => rw [z2] at z; cases z
    | ex e w => rw [z2] at z; cases z
    | ok es st2 =>
      rw [z2] at z
      cases z
      rw [List.length_cons, ih _ _ _ z2]
end PV
set_option maxHeartbeats 4000000
/-! Statements. -/
namespace PV
open PySem L2

inductive Fl where
  | nx | bk | ct
  | rt (a : Vl)
abbrev DS := S → R Fl
section
variable (K : PySem.W.Frag) (x : XC)
def PostS (c : C) (g : G) (En : Ends) : R Fl → Prop
  | .ok .nx st => ∀ σ g' H', g.Le g' → Rel K c g' σ H' st → En.nx σ H'
  | .ok .bk st => ∀ σ g' H', g.Le g' → Rel K c g' σ H' st → En.bk σ H'
  | .ok .ct st => ∀ σ g' H', g.Le g' → Rel K c g' σ H' st → En.ct σ H'
  | .ok (.rt a) st => ∀ v σ g' H', g.Le g' → Rel K c g' σ H' st → VlR K c g' H' σ st v a → En.rt v H'
  | .ex e w => XP K x c g e w
  | .bad => False
def tSt (f : DS) : TS := fun D σ H => ∃ c g st, Rel K c g σ H st ∧ PostS K x c g D (f st)
end
section
variable {K : PySem.W.Frag} {x : XC} {c : C} {g g' : G} {σ : L2.St} {H : Hp} {st : S} {En : Ends}
theorem PostS.mono {r : R Fl} (h : PostS K x c g En r) (l : g.Le g') : PostS K x c g' En r := by
  match r, h with
  | .ok .nx st, h => exact fun σ g2 H2 l2 => h σ g2 H2 (l.trans l2)
  | .ok .bk st, h => exact fun σ g2 H2 l2 => h σ g2 H2 (l.trans l2)
  | .ok .ct st, h => exact fun σ g2 H2 l2 => h σ g2 H2 (l.trans l2)
  | .ok (.rt a) st, h => exact fun v σ g2 H2 l2 => h v σ g2 H2 (l.trans l2)
  | .ex e w, h => exact XP.mono h l
  | .bad, h => exact h
/-- an expression ahead of a statement's rest -/
theorem PostS.of {α β : Type} {A' : G → Hp → S → α → β → Prop} {Q' : β → Hp → Prop} {r : R α} {k : α → S → R Fl} (h : PostS K x c g En (r.bind k))
    (step : ∀ a st' b g' H', g.Le g' → Rel K c g' σ H' st' → A' g' H' st' a b → PostS K x c g' En (k a st') → Q' b H') : Post K x c g σ A' Q' r := by
  cases r with
  | ok a st => exact fun b g' H' l r q => step a st b g' H' l r q (PostS.mono h l)
  | ex e w => exact h
  | bad => exact h
theorem PostS.expr {f : DE} {k : Vl → S → R Fl} {Q : VK} (r : Rel K c g σ H st) (h : PostS K x c g En ((f st).bind k))
    (step : ∀ a st' v g' H', g.Le g' → Rel K c g' σ H' st' → VlR K c g' H' σ st' v a → PostS K x c g' En (k a st') → Q v H') : tS K x f σ H Q := ⟨c, g, st, r, h.of step⟩
theorem PostS.opn {o : Opn} {k : D → S → R Fl} {Q : VK} (r : Rel K c g σ H st) (h : PostS K x c g En ((o.go st).bind k))
    (step : ∀ v d st' g' H', g.Le g' → Rel K c g' σ H' st' → OpnR K g' σ v d o → PostS K x c g' En (k d st') → Q v H') : tO K x o σ H Q := by
  cases o with
  | var i =>
    have h : PostS K x c g En ((ofO (bor i st) st).bind k) := h
    cases e : bor i st with
    | none => rw [e] at h; exact h.elim
    | some d =>
      rw [e] at h
      obtain ⟨v, h1, h2⟩ := r.bor e
      exact ⟨v, h1, step v d st g H (.refl g) r h1 h⟩
  | ex f =>
    have h : PostS K x c g En (((f st).bind fun a st => .ok a.2 st).bind k) := h
    rw [R.bind_assoc] at h
    refine ⟨c, g, st, r, h.of fun a st1 v g1 H1 l1 r1 h1 q1 => ?_⟩
    obtain ⟨g1', l1', r1', d1⟩ := h1.fz r1
    exact step v a.2 st1 g1' H1 (l1.trans l1') r1' d1 (PostS.mono q1 l1')
end

section
variable {X : Cx} {x : XC} {e a b : Expr} {es : List Expr} {pos p2 : Pos} {st : Stmt} {sts : List Stmt}
def nxS : DS := fun st => .ok .nx st
def seqS (f h : DS) : DS := fun st => (f st).bind fun k st => match k with
  | .nx => h st
  | k => .ok k st
theorem s_nil : PSs X [] (tSt X.K x nxS) := pss_nil.imp fun D σ H ⟨c, g, st, r, q⟩ => q σ g H (.refl g) r
theorem s_cons {f h : DS} (h1 : PS X st (tSt X.K x f)) (h2 : PSs X sts (tSt X.K x h)) : PSs X (st :: sts) (tSt X.K x (seqS f h)) := (pss_cons h1 h2).imp fun D σ H ⟨c, g, st, r, q⟩ => by
  refine ⟨c, g, st, r, ?_⟩
  unfold seqS at q
  cases z : f st with
  | bad => rw [z] at q; exact q
  | ex e w => rw [z] at q; exact q
  | ok k st1 =>
    rw [z] at q
    cases k with
    | nx => exact fun σ' g' H' l r' => ⟨c, g', st1, r', PostS.mono q l⟩
    | bk => exact q
    | ct => exact q
    | rt a => exact q
theorem s_pass : PS X (.Pass pos) (tSt X.K x nxS) := ps_pass.imp fun D σ H ⟨c, g, st, r, q⟩ => q σ g H (.refl g) r
theorem s_break : PS X (.Break pos) (tSt X.K x fun st => .ok .bk st) := ps_break.imp fun D σ H ⟨c, g, st, r, q⟩ => q σ g H (.refl g) r
theorem s_continue : PS X (.Continue pos) (tSt X.K x fun st => .ok .ct st) := ps_continue.imp fun D σ H ⟨c, g, st, r, q⟩ => q σ g H (.refl g) r
/-- a statement that no run comes to -/
theorem s_never : PS X st (tSt X.K x fun _ => .bad) := ps_never.imp fun D σ H ⟨c, g, st, r, q⟩ => q
def retS (f : DE) : DS := fun st => (f st).bind fun a st => .ok (.rt a) st
theorem s_ret {f : DE} (he : PE X e (tS X.K x f)) : PS X (.Return (some e) pos) (tSt X.K x (retS f)) := (ps_ret he).imp fun D σ H ⟨c, g, st, r, q⟩ => by
  unfold retS at q
  exact PostS.expr r q fun a st1 v g1 H1 l1 r1 h1 q1 => q1 v σ g1 H1 (.refl g1) r1 h1
theorem s_retN : PS X (.Return none pos) (tSt X.K x fun st => .ok (.rt (false, .non)) st) := ps_retN.imp fun D σ H ⟨c, g, st, r, q⟩ => q .non σ g H (.refl g) r .non
def ifS (t : DT) (f h : DS) : DS := fun st => (t st).bind fun b st => if b = true then f st else h st
theorem s_if {t : DT} {f h : DS} {as bs : List Stmt} (ht : PT X e (tT X.K x t)) (ha : PSs X as (tSt X.K x f)) (hb : PSs X bs (tSt X.K x h)) : PS X (.If e as bs pos) (tSt X.K x (ifS t f h)) := (ps_if ht ha hb).imp fun D σ H ⟨c, g, st, r, q⟩ => by
  unfold ifS at q
  refine ⟨c, g, st, r, q.of fun k st1 k' g1 H1 l1 r1 h1 q1 => ?_⟩
  have h1 : k = k' := h1
  subst h1
  cases k with
  | true => rw [if_pos rfl] at q1; show tSt X.K x f D σ H1; exact ⟨c, g1, st1, r1, q1⟩
  | false => rw [if_neg Bool.false_ne_true] at q1; show tSt X.K x h D σ H1; exact ⟨c, g1, st1, r1, q1⟩
/-- an expression whose value is dropped -/
def dropS (f : DE) : DS := fun st => (f st).bind fun _ st => .ok .nx st
theorem s_expr {f : DE} (he : PE X e (tS X.K x f)) (hs : swapsWith e none pos.line X.env = pure false) : PS X (.Expr e pos) (tSt X.K x (dropS f)) := (ps_expr he hs).imp fun D σ H ⟨c, g, st, r, q⟩ => by
  unfold dropS at q
  exact PostS.expr r q fun a st1 v g1 H1 l1 r1 h1 q1 => q1 σ g1 H1 (.refl g1) r1

/-! ### a name takes a value -/
def stS (i : Nat) (a : Vl) (st : S) : S := { st with env := st.env.set i (if a.1 = true then .ow a.2 else .fz a.2) }
theorem Rel.store {K : PySem.W.Frag} {c : C} {g : G} {σ : L2.St} {H : Hp} {st : S} {v : V} {a : Vl} (r : Rel K c g σ H st) (i : Nat) (h : VlR K c g H σ st v a) : Rel K c g (σ.set i (some v)) H (stS i a st) := by
  obtain ⟨b, d⟩ := a
  have env : (stS i (b, d) st).env = st.env.set i (if b = true then .ow d else .fz d) := rfl
  have own : ∀ {j q}, ownAt (stS i (b, d) st) (σ.set i (some v)) j q → (j = i ∧ b = true ∧ v = .ref q) ∨ (j ≠ i ∧ ownAt st σ j q) := fun {j q} z => by
    obtain ⟨⟨d', z1⟩, z2⟩ := z
    rw [env] at z1
    rcases get_set_cases z1 with ⟨e1, e2⟩ | ⟨n, z1⟩
    · subst e1
      refine .inl ⟨rfl, ?_, ?_⟩
      · cases b with
        | true => rfl
        | false => cases e2
      · rcases get_set_cases z2 with ⟨_, e3⟩ | ⟨n, _⟩
        · cases e3; rfl
        · exact absurd rfl n
    · rw [List.getElem?_set_ne n] at z2
      exact .inr ⟨fun e => n e.symm, ⟨⟨d', z1⟩, z2⟩⟩
  refine ⟨r.toFin, fun j s e => ?_, by rw [env, List.length_set, List.length_set]; exact r.len, fun j k q z1 z2 => ?_⟩
  · rw [env] at e
    rcases get_set_cases e with ⟨e1, e2⟩ | ⟨n, e⟩
    · subst e1
      have hl : i < σ.length := by
        rw [r.len]
        have := (List.getElem?_eq_some_iff.mp e).1
        rwa [List.length_set] at this
      rw [List.getElem?_set_self hl]
      cases b with
      | false => rw [e2]; exact ⟨v, rfl, h⟩
      | true =>
        rw [e2]
        obtain ⟨p, o, rfl, h1, h2, h3, h4, h5, _⟩ := h
        exact ⟨p, o, rfl, h1, h2, h3, h4, h5⟩
    · rw [List.getElem?_set_ne n]; exact r.sl j s e
  · rcases own z1 with ⟨e1, b1, v1⟩ | ⟨n1, o1⟩ <;> rcases own z2 with ⟨e2, b2, v2⟩ | ⟨n2, o2⟩
    · rw [e1, e2]
    · subst b1
      obtain ⟨p, o, e3, _, _, _, _, _, no⟩ := h
      rw [v1] at e3
      cases e3
      exact absurd o2 (no k)
    · subst b2
      obtain ⟨p, o, e3, _, _, _, _, _, no⟩ := h
      rw [v2] at e3
      cases e3
      exact absurd o1 (no j)
    · exact r.dj j k q o1 o2
def setS (i : Nat) (f : DE) : DS := fun st => (f st).bind fun a st => .ok .nx (stS i a st)
/-- what a name's store asks of the text -/
structure StOk (X : Cx) (i : Nat) (y : Str) : Prop where
  nd : X.N.Nodup
  at_ : X.N[i]? = some y
  loc : Loc X.env.scope y
  own : X.fn y = true ∨ X.env.scope.names.lookup y = some .local
theorem tAsg_of {i : Nat} {f : DE} : ∀ (D : Ends) (σ : L2.St) H, tSt X.K x (setS i f) D σ H → tAsg (tS X.K x f) (gName i) D σ H := fun D σ H ⟨c, g, st, r, q⟩ => by
  unfold setS at q
  exact PostS.expr r q fun a st1 v g1 H1 l1 r1 h1 q1 => q1 _ g1 H1 (.refl g1) (r1.store i h1)
theorem s_set {i : Nat} {y : Str} {f : DE} {pos' : Pos} (ok : StOk X i y) (he : PE X e (tS X.K x f)) (hs : swapsWith e (some (.Name y pos')) pos.line X.env = pure false) : PS X (.Assign [.Name y pos'] e pos) (tSt X.K x (setS i f)) :=
  (ps_set ok.nd ok.at_ ok.loc he hs ok.own).imp fun D σ H q => tAsg_of D σ H q

/-! ### names from a tuple -/
/-- a target: a name, or several -/
inductive Tg where
  | nm (i : Nat)
  | tp (l : List Nat)
def stAll : List Nat → List D → S → Option S
  | [], [], st => some st
  | i :: l, d :: ds, st => stAll l ds (stS i (false, d) st)
  | _, _, _ => none
/-- a frozen value stored -/
def Tg.put : Tg → D → S → Option S
  | .nm i, d, st => some (stS i (false, d) st)
  | .tp l, .tup ds, st => stAll l ds st
  | .tp _, _, _ => none
def Tg.ix : Tg → List Nat
  | .nm i => [i]
  | .tp l => l
/-- slots that differ at most in places of vs -/
def Apart (σ σ' : L2.St) (l : List Nat) : Prop := ∀ vs : List Nat, (∀ i ∈ l, i ∈ vs) → wipe σ' vs = wipe σ vs
theorem wipe_get (σ : L2.St) (i : Nat) : ∀ vs : List Nat, (wipe σ vs)[i]? = if i ∈ vs then (σ[i]?).map fun _ => none else σ[i]?
  | [] => by simp [wipe]
  | v :: vs => by
    show ((wipe σ vs).set v none)[i]? = _
    by_cases e : v = i
    · subst e
      rw [if_pos List.mem_cons_self]
      by_cases h : v < σ.length
      · rw [List.getElem?_set_self (by rw [wipe_length]; exact h), List.getElem?_eq_getElem h]; rfl
      · rw [List.getElem?_eq_none (by rw [List.length_set, wipe_length]; omega), List.getElem?_eq_none (by omega)]; rfl
    · rw [List.getElem?_set_ne e, wipe_get σ i vs]
      by_cases z : i ∈ vs
      · rw [if_pos z, if_pos (List.mem_cons_of_mem _ z)]
      · rw [if_neg z, if_neg (by simp only [List.mem_cons, not_or]; exact ⟨fun q => e q.symm, z⟩)]
theorem Apart.set {σ : L2.St} {i : Nat} {x : Option V} {l : List Nat} (hi : i ∈ l) : Apart σ (σ.set i x) l := fun vs h => by
  refine List.ext_getElem? fun j => ?_
  rw [wipe_get, wipe_get]
  by_cases e : j ∈ vs
  · rw [if_pos e, if_pos e, List.getElem?_set]
    by_cases z : i = j
    · subst z
      rw [if_pos rfl]
      by_cases q : i < σ.length
      · rw [if_pos q, List.getElem?_eq_getElem q]; rfl
      · rw [if_neg q, List.getElem?_eq_none (by omega)]
    · rw [if_neg z]
  · rw [if_neg e, if_neg e, List.getElem?_set_ne (fun z => e (by rw [← z]; exact h i hi))]
theorem Apart.refl {σ : L2.St} {l : List Nat} : Apart σ σ l := fun _ _ => rfl
theorem Apart.trans {σ σ' σ'' : L2.St} {l : List Nat} (a : Apart σ σ' l) (b : Apart σ' σ'' l) : Apart σ σ'' l := fun vs h => (b vs h).trans (a vs h)
/-- what targets ask of the text -/
inductive NmOk (X : Cx) : List Expr → List Nat → Prop
  | nil : NmOk X [] []
  | cons {i : Nat} {y : Str} {p : Pos} {es : List Expr} {l : List Nat} : StOk X i y → NmOk X es l → NmOk X (.Name y p :: es) (i :: l)
inductive TgOk (X : Cx) : Expr → Tg → Prop
  | nm {i : Nat} {y : Str} {p : Pos} : StOk X i y → TgOk X (.Name y p) (.nm i)
  | tp {es : List Expr} {k : Nat} {l : List Nat} {p : Pos} : NmOk X es l → TgOk X (.Tuple es k p) (.tp l)
def gAll (K : PySem.W.Frag) (l : List Nat) : TGs := fun vs σ H Q => ∃ c g st ds st', Rel K c g σ H st ∧ DnAll K g vs ds ∧ stAll l ds st = some st' ∧ ∀ σ', Rel K c g σ' H st' → Apart σ σ' l → Q σ' H
def gT (K : PySem.W.Frag) (t : Tg) : TG := fun v σ H Q => ∃ c g st d st', Rel K c g σ H st ∧ Dn K g v d ∧ t.put d st = some st' ∧ ∀ σ', Rel K c g σ' H st' → Apart σ σ' t.ix → Q σ' H
theorem pgs_all : ∀ {es : List Expr} {l : List Nat}, NmOk X es l → PGs X es (gAll X.K l) := by
  intro es l h
  induction h with
  | nil =>
    refine ⟨fun pins s σ H vs us Q I r h => pgs_nil.run pins s σ H vs us Q I r ?_⟩
    obtain ⟨c, g, st, ds, st', rl, dn, e, q⟩ := h
    cases ds with
    | nil => cases dn; simp only [stAll, Option.some.injEq] at e; subst e; exact ⟨rfl, q σ rl .refl⟩
    | cons d ds => simp [stAll] at e
  | @cons i y p es l ok h ih =>
    refine ⟨fun pins s σ H vs us Q I r h => (pgs_cons (pg_name (pos := p) ok.nd ok.at_ ok.loc ok.own) ih rfl).run pins s σ H vs us Q I r ?_⟩
    obtain ⟨c, g, st, ds, st', rl, dn, e, q⟩ := h
    cases dn with
    | nil => simp [stAll] at e
    | @cons v vs d ds dv dn =>
      simp only [stAll] at e
      exact ⟨v, vs, rfl, c, g, _, ds, st', rl.store i (a := (false, d)) dv, dn, e, fun σ' r' a => q σ' r' ((Apart.set (by simp)).trans fun vs h => a vs fun i hi => h i (by simp [hi]))⟩
theorem nm_each {es : List Expr} {l : List Nat} (h : NmOk X es l) : (assignEach es X.env).length = l.length ∧ (assignEach es X.env).findIdx? (·.1) = none := by
  induction h with
  | nil => exact ⟨rfl, rfl⟩
  | @cons i y p es l _ h ih =>
    have e : assignEach (.Name y p :: es) X.env = (false, assign (.Name y p) X.env) :: assignEach es X.env := rfl
    refine ⟨by rw [e, List.length_cons, ih.1, List.length_cons], ?_⟩
    rw [e, List.findIdx?_cons]
    simp [ih.2]
theorem pg_of (hc : X.calm = true) {t : Expr} {tg : Tg} (h : TgOk X t tg) : PG X t (gT X.K tg) := by
  cases h with
  | @nm i y p ok =>
    refine ⟨fun pins s σ H v u Q I r h => (pg_name (pos := p) ok.nd ok.at_ ok.loc ok.own).run pins s σ H v u Q I r ?_⟩
    obtain ⟨c, g, st, d, st', rl, dv, e, q⟩ := h
    have e : some (stS i (false, d) st) = some st' := e
    cases e
    exact q _ (rl.store i (a := (false, d)) dv) (.set (by simp [Tg.ix]))
  | @tp es k l p ok =>
    refine ⟨fun pins s σ H v u Q I r h => (pg_tup (k := k) (pos := p) hc (pgs_all ok) (nm_each ok).1 (nm_each ok).2).run pins s σ H v u Q I r ?_⟩
    obtain ⟨c, g, st, d, st', rl, dv, e, q⟩ := h
    cases d with
    | tup ds =>
      have e : stAll l ds st = some st' := e
      cases dv with
      | @tup a xs _ ht ra =>
        have len : ∀ (l : List Nat) (ds : List D) (st : S), stAll l ds st = some st' → ds.length = l.length := by
          intro l
          induction l with
          | nil => intro ds st e; cases ds <;> simp [stAll] at e; rfl
          | cons i l ih =>
            intro ds st e
            cases ds with
            | nil => simp [stAll] at e
            | cons d ds => rw [List.length_cons, List.length_cons, ih ds _ e]
        exact ⟨a, xs, rfl, rl.toFin.sqT ht.sqT, by rw [ra.length]; exact len l ds st e, c, g, st, ds, st', rl, ra, e, q⟩
    | _ => cases e
def asgS (t : Tg) (f : DE) : DS := fun st => (f st).bind fun a st => match t.put a.2 st with
  | some st => .ok .nx st
  | none => .bad
theorem s_unpack (hc : X.calm = true) {t : Expr} {tg : Tg} {f : DE} (h : TgOk X t tg) (he : PE X e (tS X.K x f)) (hs : swapsWithSole [t] e pos.line X.env = pure false) (hw : swappedStores [t] e X.env = pure none) (h1 : (assignEach [t] X.env).map (·.2) = [assign t X.env]) :
    PS X (.Assign [t] e pos) (tSt X.K x (asgS tg f)) := (ps_asg he (pg_of hc h) hs hw h1).imp fun D σ H ⟨c, g, st, r, q⟩ => by
  unfold asgS at q
  refine PostS.expr r q fun a st1 v g1 H1 l1 r1 h1 q1 => ?_
  obtain ⟨g1', l1', r1', d1⟩ := h1.fz r1
  have q1 := q1.mono l1'
  cases z : tg.put a.2 st1 with
  | none => rw [z] at q1; exact q1.elim
  | some st2 =>
    rw [z] at q1
    exact ⟨c, g1', st1, a.2, st2, r1', d1, z, fun σ' r2 _ => q1 σ' g1' H1 (.refl g1') r2⟩
end
end PV
set_option maxHeartbeats 4000000
/-! What a loop walks, as data; for, while. -/
namespace PV
open PySem PySem.Spec PyProof.Rows L2

abbrev DI := S → R (List D)
/-- an iterator that walks the data ds in any later state -/
def ItOk (K : PySem.W.Frag) (g : G) (J : It) (ds : List D) : Prop := ds.length ≤ sizeLine ∧ ∀ c g1 σ1 H1 st1, g.Le g1 → Rel K c g1 σ1 H1 st1 →
  (∀ i d, ds[i]? = some d → J.go i H1 ∧ ∀ x H2, J.yld i H1 x H2 → ∃ g2, g1.Le g2 ∧ Rel K c g2 σ1 H2 st1 ∧ Dn K g2 x d) ∧ J.stop ds.length H1
def tI (K : PySem.W.Frag) (x : XC) (f : DI) : TI := fun σ H R => ∃ c g st, Rel K c g σ H st ∧ Post K x c g σ (fun g' _ _ ds J => ItOk K g' J ds) R (f st)

def kD : Key → D
  | .inl i => .int i
  | .inr x => .str x
theorem Dn.kV {K : PySem.W.Frag} {g : G} (k : Key) : Dn K g (kV k) (kD k) := by
  cases k with
  | inl i => exact .int i
  | inr x => exact .str x
theorem DnAll.kVs {K : PySem.W.Frag} {g : G} : ∀ (ks : List Key), DnAll K g (ks.map kV) (ks.map kD)
  | [] => .nil
  | k :: ks => .cons (.kV k) (DnAll.kVs ks)
/-- the things of a thing -/
def items : D → Option (List D)
  | .lst ds => some ds
  | .tup ds => some ds
  | .ro ns => some (ns.map .int)
  | .str x => if x.cps.size ≤ 1000000 then some (x.cps.toList.map fun n => .str ⟨#[n]⟩) else none
  | .dK ks _ => some (ks.map kD)
  | .dT ks _ => some (ks.map fun k => .tup (k.map kD))
  | _ => none
/-- the walk over a value -/
def itE (f : DE) : DI := fun st => (f st).bind fun a st => ofO (items a.2) st

section
variable {X : Cx} {x : XC} {c : C} {g g' : G} {σ : L2.St} {H : Hp} {s : Shared} {st : S} {pins : List (Addr × Obj)} {tg e : Expr} {R' : It → Hp → Prop}
theorem Dn.sqL {K : PySem.W.Frag} {p : Addr} {ds : List D} {w : W} (h : Dn K g (.ref p) (.lst ds)) (f : Fin K c g H w) : ∃ xs, SqL K H p xs ∧ DnAll K g xs ds := by
  cases h with
  | @lst a xs _ e ra => exact ⟨xs, .inl (.inl (f.fh _ _ e)), ra⟩
theorem ItOk.list {K : PySem.W.Frag} {a : Addr} {xs : List V} {ds : List D} (hz : xs.length ≤ sizeLine) (hs : ∀ c g1 σ1 H1 st1, g.Le g1 → Rel K c g1 σ1 H1 st1 → SqL K H1 a xs) (ra : DnAll K g xs ds) : ItOk K g (Itl K a) ds := by
  refine ⟨by rw [← ra.length]; exact hz, fun c g1 σ1 H1 st1 l r => ⟨fun i d e => ?_, xs, hs c g1 σ1 H1 st1 l r, by rw [ra.length]; exact Nat.le_refl _⟩⟩
  obtain ⟨v, e1, dv⟩ := ra.get e
  exact ⟨⟨xs, v, hs c g1 σ1 H1 st1 l r, e1⟩, fun z H2 y => ⟨g1, .refl g1, y.1 ▸ r, by
    have := y.2 xs (hs c g1 σ1 H1 st1 l r)
    rw [e1] at this; cases this; exact dv.mono l⟩⟩
theorem ItOk.tuple {K : PySem.W.Frag} {a : Addr} {xs : List V} {ds : List D} (hz : xs.length ≤ sizeLine) (hs : ∀ c g1 σ1 H1 st1, g.Le g1 → Rel K c g1 σ1 H1 st1 → SqT K H1 a xs) (ra : DnAll K g xs ds) : ItOk K g (Itt K a) ds := by
  refine ⟨by rw [← ra.length]; exact hz, fun c g1 σ1 H1 st1 l r => ⟨fun i d e => ?_, xs, hs c g1 σ1 H1 st1 l r, by rw [ra.length]; exact Nat.le_refl _⟩⟩
  obtain ⟨v, e1, dv⟩ := ra.get e
  exact ⟨⟨xs, v, hs c g1 σ1 H1 st1 l r, e1⟩, fun z H2 y => ⟨g1, .refl g1, y.1 ▸ r, by
    have := y.2 xs (hs c g1 σ1 H1 st1 l r)
    rw [e1] at this; cases this; exact dv.mono l⟩⟩
theorem ItOk.text {K : PySem.W.Frag} {z : Str} (hz : z.cps.size ≤ 1000000) : ItOk K g (Its z) (z.cps.toList.map fun n => .str ⟨#[n]⟩) := by
  have hl : (z.cps.toList.map fun n => D.str ⟨#[n]⟩).length = z.cps.size := by simp
  refine ⟨by rw [hl]; rw [sizeLine_eq]; omega, fun c g1 σ1 H1 st1 l r => ⟨fun i d e => ?_, by rw [hl]; exact Nat.le_refl _⟩⟩
  rw [List.getElem?_map] at e
  cases q : z.cps.toList[i]? with
  | none => rw [q] at e; cases e
  | some n =>
    rw [q] at e
    cases e
    have q' : z.cps[i]? = some n := by simpa using q
    refine ⟨?_, fun v H2 y => ⟨g1, .refl g1, y.1 ▸ r, ?_⟩⟩
    · show i < z.cps.size
      obtain ⟨h, _⟩ := Array.getElem?_eq_some_iff.mp q'
      exact h
    · obtain ⟨_, n', e1, rfl⟩ := y
      rw [q'] at e1; cases e1
      exact .str _
theorem ItOk.range {K : PySem.W.Frag} {lo : Int} {n : Nat} (hn : n ≤ 1000000) : ItOk K g (Itr lo n) ((List.range n).map fun (i : Nat) => .int (lo + i)) := by
  refine ⟨by rw [List.length_map, List.length_range, sizeLine_eq]; omega, fun c g1 σ1 H1 st1 l r => ⟨fun i d e => ?_, by rw [List.length_map, List.length_range]; exact Nat.le_refl _⟩⟩
  rw [List.getElem?_map] at e
  by_cases h : i < n
  · rw [List.getElem?_range h] at e
    cases e
    exact ⟨h, fun v H2 y => ⟨g1, .refl g1, y.1 ▸ r, by rw [y.2]; exact .int _⟩⟩
  · rw [List.getElem?_eq_none (by rw [List.length_range]; omega)] at e; cases e
theorem ItOk.rangeC {K : PySem.W.Frag} {lo k : Int} {n : Nat} (hn : n ≤ 1000000) : ItOk K g (Itc lo k n) ((List.range n).map fun (i : Nat) => .int (lo + i * k)) := by
  refine ⟨by rw [List.length_map, List.length_range, sizeLine_eq]; omega, fun c g1 σ1 H1 st1 l r => ⟨fun i d e => ?_, by rw [List.length_map, List.length_range]; exact Nat.le_refl _⟩⟩
  rw [List.getElem?_map] at e
  by_cases h : i < n
  · rw [List.getElem?_range h] at e
    cases e
    exact ⟨h, fun v H2 y => ⟨g1, .refl g1, y.1 ▸ r, by rw [y.2]; exact .int _⟩⟩
  · rw [List.getElem?_eq_none (by rw [List.length_range]; omega)] at e; cases e

/-- a frozen dict as it stands: locked now, or already -/
theorem lock_of {u : HO} {d : Addr} (I : Inv X pins σ H s) (r : Rel X.K c g σ H st) (h : Rd g.F d u) (mu : Mut (some u)) (hl : ∀ xs, u ≠ .lst xs) (cu : Core u) :
    ∃ od g1 H1, g.Le g1 ∧ Rel X.K c g1 σ H1 st ∧ Inv X pins σ H1 s ∧ g1.F d = some (.frz od u) := by
  rcases h with h | ⟨od, h⟩
  · obtain ⟨od, I1⟩ := I.lock (r.toFin.fh d u h) mu
    obtain ⟨l, r1⟩ := r.lock od h mu hl cu
    exact ⟨od, _, _, l, r1, I1, by show L2.upd g.F d _ d = _; exact upd_same⟩
  · exact ⟨od, g, H, .refl g, r, I, h⟩
theorem ItOk.keys {K : PySem.W.Frag} {d : Addr} {o : Obj} {kvs : List (Key × V)} (hz : kvs.length ≤ sizeLine) (h : g.F d = some (.frz o (.dK kvs))) : ItOk K g (Itk d o kvs) (kvs.map fun p => kD p.1) := by
  have at1 : ∀ c g1 σ1 H1 st1, g.Le g1 → Rel K c g1 σ1 H1 st1 → H1 d = some (.frz o (.dK kvs)) := fun c g1 σ1 H1 st1 l r => r.toFin.fh _ _ (l.fz _ _ _ h)
  refine ⟨by rw [List.length_map]; exact hz, fun c g1 σ1 H1 st1 l r => ⟨fun i e q => ?_, at1 c g1 σ1 H1 st1 l r, by rw [List.length_map]; exact Nat.le_refl _⟩⟩
  rw [List.getElem?_map] at q
  cases z : kvs[i]? with
  | none => rw [z] at q; cases q
  | some p =>
    rw [z] at q; cases q
    refine ⟨⟨at1 c g1 σ1 H1 st1 l r, (List.getElem?_eq_some_iff.mp z).1⟩, fun v H2 y => ⟨g1, .refl g1, y.1 ▸ r, ?_⟩⟩
    obtain ⟨_, k, u, e1, rfl⟩ := y
    rw [z] at e1; cases e1
    exact .kV k
theorem ItOk.keysT {K : PySem.W.Frag} {d : Addr} {o : Obj} {kvs : List (List Key × V)} (hz : kvs.length ≤ sizeLine) (h : g.F d = some (.frz o (.dT kvs))) : ItOk K g (Itkt d o kvs) (kvs.map fun p => .tup (p.1.map kD)) := by
  have at1 : ∀ c g1 σ1 H1 st1, g.Le g1 → Rel K c g1 σ1 H1 st1 → H1 d = some (.frz o (.dT kvs)) := fun c g1 σ1 H1 st1 l r => r.toFin.fh _ _ (l.fz _ _ _ h)
  refine ⟨by rw [List.length_map]; exact hz, fun c g1 σ1 H1 st1 l r => ⟨fun i e q => ?_, at1 c g1 σ1 H1 st1 l r, by rw [List.length_map]; exact Nat.le_refl _⟩⟩
  rw [List.getElem?_map] at q
  cases z : kvs[i]? with
  | none => rw [z] at q; cases q
  | some p =>
    rw [z] at q; cases q
    refine ⟨⟨at1 c g1 σ1 H1 st1 l r, (List.getElem?_eq_some_iff.mp z).1⟩, fun v H2 y => ?_⟩
    obtain ⟨rfl, k, u, q, e1, rfl, hq⟩ := y
    rw [z] at e1; cases e1
    obtain ⟨g2, l2, r2, f2⟩ := r.addT hq
    exact ⟨g2, l2, r2, .tup (.inl f2) (.kVs k)⟩
theorem dK_items {ks : List Key} {vs : List D} {kvs : List (Key × V)} (h : ks = kvs.map (·.1)) : items (.dK ks vs) = some (kvs.map fun p => kD p.1) := by
  subst h; show some ((kvs.map (·.1)).map kD) = _; rw [List.map_map]; rfl
theorem dT_items {ks : List (List Key)} {vs : List D} {kvs : List (List Key × V)} (h : ks = kvs.map (·.1)) : items (.dT ks vs) = some (kvs.map fun p => .tup (p.1.map kD)) := by
  subst h; show some ((kvs.map (·.1)).map fun k => D.tup (k.map kD)) = _; rw [List.map_map]; rfl
/-- the walk over a value begins -/
theorem begin_val {d : D} {ds : List D} {v : V} {u : Value} {E : Value → Shared → Prop} (I : Inv X pins σ H s) (r : Rel X.K c g σ H st) (dv : Dn X.K g v d) (rv : RelV v u) (e : items d = some ds)
    (q : ∀ J g' H', g.Le g' → Rel X.K c g' σ H' st → ItOk X.K g' J ds → R' J H') : wpAny (model X.prog X.w) X.A (pyIter u) (PIE X pins σ tg R') E s := by
  cases dv with
  | non => cases e
  | bl b => cases e
  | int i => cases e
  | hnd h => cases e
  | str z =>
    have e : (if z.cps.size ≤ 1000000 then some (z.cps.toList.map fun n => D.str ⟨#[n]⟩) else none) = some ds := e
    by_cases hz : z.cps.size ≤ 1000000
    · rw [if_pos hz] at e
      cases e
      obtain ⟨t, rfl⟩ := rv
      have q := q (Its z) g H (.refl g) r (.text hz)
      cases ha : z.cps.all (· < 128)
      · exact wpAny_pyIter_wide ha (pi_one (tk := s.toks) I _ (turn_str _ z t "str_iterator" (.inr rfl)) ⟨_, Heap.get?_push_size _ rfl, rfl, rfl⟩ q)
      · exact wpAny_pyIter_ascii ha (pi_one (tk := s.toks) I _ (turn_str _ z t "str_ascii_iterator" (.inl rfl)) ⟨_, Heap.get?_push_size _ rfl, rfl, rfl⟩ q)
    · rw [if_neg hz] at e; cases e
  | @lst a xs ds' h ra =>
    cases e; cases rv
    have hs : ∀ c g1 σ1 H1 st1, g.Le g1 → Rel X.K c g1 σ1 H1 st1 → SqL X.K H1 a xs := fun c g1 σ1 H1 st1 l r => .inl (.inl (r.toFin.fh _ _ (l.ls _ _ h)))
    obtain ⟨its, rv, p, hz⟩ := I.list (hs c g σ H st (.refl g) r)
    exact wpAny_pyIter_list p.isList (pi_one (tk := s.toks) I _ (turn_list a _) ⟨_, Heap.get?_push_size _ rfl, rfl, rfl⟩ (q _ g H (.refl g) r (.list hz hs ra)))
  | @ro a ns h =>
    cases e; cases rv
    have hs : ∀ c g1 σ1 H1 st1, g.Le g1 → Rel X.K c g1 σ1 H1 st1 → SqL X.K H1 a (ns.map V.int) := fun c g1 σ1 H1 st1 l r => r.toFin.sqL (sqL_le l h)
    obtain ⟨its, rv, p, hz⟩ := I.list (hs c g σ H st (.refl g) r)
    exact wpAny_pyIter_list p.isList (pi_one (tk := s.toks) I _ (turn_list a _) ⟨_, Heap.get?_push_size _ rfl, rfl, rfl⟩ (q _ g H (.refl g) r (.list hz hs (.of_ints ns))))
  | @tup a xs ds' h ra =>
    cases e; cases rv
    have hs : ∀ c g1 σ1 H1 st1, g.Le g1 → Rel X.K c g1 σ1 H1 st1 → SqT X.K H1 a xs := fun c g1 σ1 H1 st1 l r => r.toFin.sqT (tupR_le l h).sqT
    obtain ⟨its, rv, p, hz⟩ := I.tuple (hs c g σ H st (.refl g) r)
    exact wpAny_pyIter_tuple (show s.heap.IsTuple a its.toArray from p) (pi_one (tk := s.toks) I _ (turn_tuple a _) ⟨_, Heap.get?_push_size _ rfl, rfl, rfl⟩ (q _ g H (.refl g) r (.tuple hz hs ra)))
  | @dK d kvs ks vs h hk ra =>
    rw [dK_items hk] at e
    cases e; cases rv
    obtain ⟨od, g1, H1, l, r1, I1, hF⟩ := lock_of I r h trivial (fun _ z => nomatch z) trivial
    have hd := r1.toFin.fh _ _ hF
    obtain ⟨hs, hgd, hx, es, ep, vs, hdt, hsz, kv, hm⟩ := I1.frzK hd
    have hz : kvs.length ≤ sizeLine := by obtain ⟨_, z, _⟩ := I1.hok d _ hd; exact z
    refine iter_keys hs hgd hx hdt (pi_one (tk := s.toks) I1 _ (turn_keys _ hdt) ⟨_, Heap.get?_push_size _ rfl, rfl, ?_⟩ (q _ g1 H1 l r1 (.keys hz hF)))
    rw [hsz] <;> rfl
  | @dT d kvs ks vs h hk ra =>
    rw [dT_items hk] at e
    cases e; cases rv
    obtain ⟨od, g1, H1, l, r1, I1, hF⟩ := lock_of I r h trivial (fun _ z => nomatch z) trivial
    have hd := r1.toFin.fh _ _ hF
    obtain ⟨hs, hgd, hx, es, ep, hdt, hsz, ent⟩ := I1.frzT hd
    have hz : kvs.length ≤ sizeLine := by obtain ⟨_, z, _⟩ := I1.hok d _ hd; exact z
    refine iter_keys hs hgd hx hdt (pi_one (tk := s.toks) I1 _ (turn_keysT _ hdt) ⟨_, Heap.get?_push_size _ rfl, rfl, ?_⟩ (q _ g1 H1 l r1 (.keysT hz hF)))
    rw [hsz] <;> rfl
theorem sI_val {f : DE} (he : PE X e (tS X.K x f)) : PI X tg e (tI X.K x (itE f)) := by
  refine ⟨fun pins s σ H R I h => ?_⟩
  obtain ⟨c, g, st, r, q⟩ := h
  unfold itE at q
  refine thn (he.run pins s σ H (fun v H1 => ∃ g1 st1 d ds, Rel X.K c g1 σ H1 st1 ∧ Dn X.K g1 v d ∧ items d = some ds ∧ ∀ J g' H', g1.Le g' → Rel X.K c g' σ H' st1 → ItOk X.K g' J ds → R J H') I ⟨c, g, st, r, ?_⟩) fun v s1 ⟨y, H1, I1, rv, g1, st1, d, ds, r1, dv, e1, q1⟩ => begin_val I1 r1 dv rv e1 q1
  refine q.bind fun a st1 v g1 H1 l1 r1 h1 q1 => ?_
  obtain ⟨g1', l1', r1', d1⟩ := h1.fz r1
  have q1 := q1.mono l1'
  cases z : items a.2 with
  | none => rw [z] at q1; exact q1.elim
  | some ds =>
    rw [z] at q1
    exact ⟨g1', st1, a.2, ds, r1', d1, z, fun J g' H' l r k => q1 J g' H' l r k⟩

/-! ### ranges -/
def small62 (i : Int) : Bool := decide (-(2 ^ 62) ≤ i) && decide (i < 2 ^ 62)
def rngOf : List D → Option (List D)
  | [.int j] => if small62 j && decide (j.toNat ≤ 1000000) then some ((List.range j.toNat).map fun (i : Nat) => .int (i : Int)) else none
  | [.int i, .int j] => if small62 i && small62 j && decide ((j - i).toNat ≤ 1000000) then some ((List.range (j - i).toNat).map fun (k : Nat) => .int (i + k)) else none
  | [.int i, .int j, .int k] => if small62 i && small62 j && decide (k = -1) && decide ((i - j).toNat ≤ 1000000) then some ((List.range (i - j).toNat).map fun (n : Nat) => .int (i + n * k)) else none
  | _ => none
def rngI (h : DA) : DI := fun st => (h st).bind fun ds st => ofO (rngOf ds) st
theorem small62_of {i : Int} (h : small62 i = true) : -(2 ^ 62) ≤ i ∧ i < 2 ^ 62 := by
  unfold small62 at h
  rw [Bool.and_eq_true] at h
  exact ⟨of_decide_eq_true h.1, of_decide_eq_true h.2⟩
theorem sI_range1 {a : Expr} {h : DA} {p pos : Pos} (hg : Gl X "range") (hm : X.mg "range" = none) (ha : PA X [a] (tA X.K x h)) (hs : isStar a = false) (hn : ∀ st ds st', h st = .ok ds st' → ds.length = 1) : PI X tg (.Call (.Name "range" p) [a] [] pos) (tI X.K x (rngI h)) := by
  have base := pi_range1 (tg := tg) (p := p) (pos := pos) hg hm ha (by rw [starEach_cons hs]; rfl)
  refine ⟨fun pins s σ H R I w => base.run pins s σ H R I ?_⟩
  obtain ⟨c, g, st, r, q⟩ := w
  unfold rngI at q
  refine ⟨c, g, st, r, ?_⟩
  cases z : h st with
  | bad => rw [z] at q; exact q
  | ex e w => rw [z] at q; exact q
  | ok ds st1 =>
    rw [z] at q
    have hl := hn _ _ _ z
    intro vs g1 H1 l1 r1 dn
    have q1 : Post X.K x c g1 σ _ R (ofO (rngOf ds) st1) := Post.mono q l1
    match ds, hl, dn with
    | [d], hl, .cons dv .nil =>
      clear hl
      cases hd : rngOf [d] with
      | none => rw [hd] at q1; exact q1.elim
      | some zs =>
        rw [hd] at q1
        cases d <;> first | cases hd | skip
        rename_i j
        have hd : (if small62 j && decide (j.toNat ≤ 1000000) then some ((List.range j.toNat).map fun (i : Nat) => D.int (i : Int)) else none) = some zs := hd
        by_cases hc : (small62 j && decide (j.toNat ≤ 1000000)) = true
        · rw [if_pos hc] at hd
          cases hd
          rw [Bool.and_eq_true] at hc
          obtain ⟨b1, b2⟩ := small62_of hc.1
          cases dv
          refine ⟨j, rfl, b1, b2, q1 _ g1 H1 (.refl g1) r1 ?_⟩
          have := ItOk.range (K := X.K) (g := g1) (lo := 0) (of_decide_eq_true hc.2)
          simpa using this
        · rw [if_neg hc] at hd; cases hd
theorem sI_range2 {a b : Expr} {h : DA} {p pos : Pos} (hg : Gl X "range") (hm : X.mg "range" = none) (ha : PA X [a, b] (tA X.K x h)) (hs : isStar a = false) (hs2 : isStar b = false) (hn : ∀ st ds st', h st = .ok ds st' → ds.length = 2) : PI X tg (.Call (.Name "range" p) [a, b] [] pos) (tI X.K x (rngI h)) := by
  have base := pi_range2 (tg := tg) (p := p) (pos := pos) hg hm ha (by rw [starEach_cons hs, starEach_cons hs2]; rfl) (by rw [starEach_cons hs2]; rfl)
  refine ⟨fun pins s σ H R I w => base.run pins s σ H R I ?_⟩
  obtain ⟨c, g, st, r, q⟩ := w
  unfold rngI at q
  refine ⟨c, g, st, r, ?_⟩
  cases z : h st with
  | bad => rw [z] at q; exact q
  | ex e w => rw [z] at q; exact q
  | ok ds st1 =>
    rw [z] at q
    have hl := hn _ _ _ z
    intro vs g1 H1 l1 r1 dn
    have q1 : Post X.K x c g1 σ _ R (ofO (rngOf ds) st1) := Post.mono q l1
    match ds, hl, dn with
    | [d, d'], hl, .cons dv (.cons dv' .nil) =>
      clear hl
      cases hd : rngOf [d, d'] with
      | none => rw [hd] at q1; exact q1.elim
      | some zs =>
        rw [hd] at q1
        cases d <;> first | cases hd | skip
        cases d' <;> first | cases hd | skip
        rename_i i j
        have hd : (if small62 i && small62 j && decide ((j - i).toNat ≤ 1000000) then some ((List.range (j - i).toNat).map fun (k : Nat) => D.int (i + k)) else none) = some zs := hd
        by_cases hc : (small62 i && small62 j && decide ((j - i).toNat ≤ 1000000)) = true
        · rw [if_pos hc] at hd
          cases hd
          rw [Bool.and_eq_true, Bool.and_eq_true] at hc
          obtain ⟨b1, b2⟩ := small62_of hc.1.1
          obtain ⟨b3, b4⟩ := small62_of hc.1.2
          cases dv; cases dv'
          exact ⟨i, j, rfl, ⟨b1, b2, b3, b4⟩, q1 _ g1 H1 (.refl g1) r1 (.range (of_decide_eq_true hc.2))⟩
        · rw [if_neg hc] at hd; cases hd
theorem sI_range3 {a b b' : Expr} {h : DA} {p pos : Pos} (hg : Gl X "range") (hm : X.mg "range" = none) (ha : PA X [a, b, b'] (tA X.K x h)) (hs : isStar a = false) (hpl : (backTo pos (starEach [b, b'] X.env)).any (·.1) = false) (hn : ∀ st ds st', h st = .ok ds st' → ds.length = 3) : PI X tg (.Call (.Name "range" p) [a, b, b'] [] pos) (tI X.K x (rngI h)) := by
  have base := pi_range3 (tg := tg) (p := p) (pos := pos) hg hm ha (by rw [starEach_cons hs]) hpl
  refine ⟨fun pins s σ H R I w => base.run pins s σ H R I ?_⟩
  obtain ⟨c, g, st, r, q⟩ := w
  unfold rngI at q
  refine ⟨c, g, st, r, ?_⟩
  cases z : h st with
  | bad => rw [z] at q; exact q
  | ex e w => rw [z] at q; exact q
  | ok ds st1 =>
    rw [z] at q
    have hl := hn _ _ _ z
    intro vs g1 H1 l1 r1 dn
    have q1 : Post X.K x c g1 σ _ R (ofO (rngOf ds) st1) := Post.mono q l1
    match ds, hl, dn with
    | [d, d', d''], hl, .cons dv (.cons dv' (.cons dv'' .nil)) =>
      clear hl
      cases hd : rngOf [d, d', d''] with
      | none => rw [hd] at q1; exact q1.elim
      | some zs =>
        rw [hd] at q1
        cases d <;> first | cases hd | skip
        cases d' <;> first | cases hd | skip
        cases d'' <;> first | cases hd | skip
        rename_i i j k
        have hd : (if small62 i && small62 j && decide (k = -1) && decide ((i - j).toNat ≤ 1000000) then some ((List.range (i - j).toNat).map fun (n : Nat) => D.int (i + n * k)) else none) = some zs := hd
        by_cases hc : (small62 i && small62 j && decide (k = -1) && decide ((i - j).toNat ≤ 1000000)) = true
        · rw [if_pos hc] at hd
          cases hd
          rw [Bool.and_eq_true, Bool.and_eq_true, Bool.and_eq_true] at hc
          obtain ⟨b1, b2⟩ := small62_of hc.1.1.1
          obtain ⟨b3, b4⟩ := small62_of hc.1.1.2
          have hk : k = -1 := of_decide_eq_true hc.1.2
          cases dv; cases dv'; cases dv''
          exact ⟨i, j, k, _, rfl, by rw [hk]; exact .neg b1 b2 b3 b4, q1 _ g1 H1 (.refl g1) r1 (.rangeC (of_decide_eq_true hc.2))⟩
        · rw [if_neg hc] at hd; cases hd
end
end PV
set_option maxHeartbeats 4000000
/-! for, while. -/
namespace PV
open PySem PySem.Spec PyProof.Rows L2

/-- behind a turn's body -/
def turnK (h : S → R Fl) : Fl → S → R Fl
  | .nx, st => h st
  | .ct, st => h st
  | .bk, st => .ok .nx st
  | .rt a, st => .ok (.rt a) st
/-- the turns of a loop -/
def forL (t : Tg) (body : DS) : List D → DS
  | [], st => .ok .nx st
  | d :: ds, st => match t.put d st with
    | none => .bad
    | some st1 => (body st1).bind (turnK (forL t body ds))
def forS (it : DI) (t : Tg) (body : DS) : DS := fun st => (it st).bind fun ds st => forL t body ds st

section
variable {X : Cx} {x : XC} {e : Expr} {pos : Pos}
theorem PostS.body {K : PySem.W.Frag} {c : C} {g : G} {En : Ends} {r : R Fl} {k : S → R Fl} (q : PostS K x c g En (r.bind (turnK k))) {N : L2.St → Hp → Prop} (hN : ∀ σ H g' st2, g.Le g' → Rel K c g' σ H st2 → PostS K x c g' En (k st2) → N σ H) :
    PostS K x c g { En with nx := N, ct := N, bk := En.nx } r := by
  cases r with
  | bad => exact q
  | ex e w => exact q
  | ok f st2 =>
    cases f with
    | nx => exact fun σ g' H' l r => hN σ H' g' st2 l r (PostS.mono q l)
    | ct => exact fun σ g' H' l r => hN σ H' g' st2 l r (PostS.mono q l)
    | bk => exact q
    | rt a => exact q
theorem s_for (hp : PassesOwn (model X.prog X.w) X.A X.env X.xe) (hc : X.calm = true) {tg : Expr} {t : Tg} {body : List Stmt} {it : DI} {f : DS} (hi : PI X tg e (tI X.K x it)) (ht : TgOk X tg t) (hb : PSs X body (tSt X.K x f))
    (hs : ∀ v, foldedSetIterable e X.env v = pure v) : PS X (.For tg e body [] pos) (tSt X.K x (forS it t f)) := (ps_for hp hc hi (pg_of hc ht) hb hs).imp fun En σ H ⟨c, g, st, r, q⟩ => by
  unfold forS at q
  refine ⟨c, g, st, r, q.of fun ds st1 J g1 H1 l1 r1 ok q1 => ?_⟩
  refine ⟨fun i m σ' H' => m = ds.length - i ∧ i ≤ ds.length ∧ ∃ g2 st2, g1.Le g2 ∧ Rel X.K c g2 σ' H' st2 ∧ PostS X.K x c g2 En (forL t f (ds.drop i) st2), ⟨ds.length, by simp, Nat.zero_le _, g1, st1, .refl g1, r1, by simpa using q1⟩, ?_⟩
  rintro i m σ2 H2 ⟨rfl, hi, g2, st2, l2, r2, q2⟩
  obtain ⟨go, stop⟩ := ok.2 c g2 σ2 H2 st2 l2 r2
  by_cases hlt : i < ds.length
  · refine .inr ?_
    have hd : ds.drop i = ds[i] :: ds.drop (i + 1) := List.drop_eq_getElem_cons hlt
    obtain ⟨g0, yl⟩ := go i ds[i] (List.getElem?_eq_getElem hlt)
    refine ⟨g0, fun σ' H' => ∃ g3 st3, g1.Le g3 ∧ Rel X.K c g3 σ' H' st3 ∧ PostS X.K x c g3 En (forL t f (ds.drop (i + 1)) st3), fun σ' H' ⟨g3, st3, l3, r3, q3⟩ => ⟨_, by omega, rfl, hlt, g3, st3, l3, r3, q3⟩, fun v H3 y => ?_⟩
    obtain ⟨g3, l3, r3, dv⟩ := yl v H3 y
    rw [hd] at q2
    unfold forL at q2
    cases z : t.put ds[i] st2 with
    | none => rw [z] at q2; exact q2.elim
    | some st3 =>
      rw [z] at q2
      refine ⟨c, g3, st2, ds[i], st3, r3, dv, z, fun σ4 r4 _ => ?_⟩
      show tSt X.K x f _ σ4 H3
      exact ⟨c, g3, st3, r4, PostS.body (PostS.mono q2 l3) fun σ5 H5 g5 st5 l5 r5 q5 => ⟨g5, st5, l2.trans (l3.trans l5), r5, q5⟩⟩
  · have e : i = ds.length := by omega
    subst e
    rw [List.drop_length] at q2
    exact .inl ⟨stop, q2 σ2 g2 H2 (.refl g2) r2⟩

/-! ### while -/
/-- the turns, at most n -/
def whL (t : DT) (body : DS) : Nat → DS
  | 0, _ => .bad
  | n + 1, st => (t st).bind fun b st1 => if b = true then (body st1).bind (turnK (whL t body n))
    else .ok .nx st1
theorem R.bind_ne_bad {α β : Type} {r : R α} {k : α → S → R β} (h : r.bind k ≠ .bad) : (∃ a st, r = .ok a st ∧ k a st ≠ .bad) ∨ ∃ e w, r = .ex e w := by
  cases r with
  | ok a st => exact .inl ⟨a, st, rfl, h⟩
  | ex e w => exact .inr ⟨e, w, rfl⟩
  | bad => exact absurd rfl h
theorem whL_succ {t : DT} {body : DS} : ∀ {n : Nat} {st : S}, whL t body n st ≠ .bad → whL t body (n + 1) st = whL t body n st
  | 0, st, h => absurd rfl h
  | n + 1, st, h => by
    have ih := @whL_succ t body n
    rw [whL] at h
    rw [whL, whL]
    cases z : t st with
    | bad => rfl
    | ex e w => rfl
    | ok b st1 =>
      rw [z] at h
      show (if b = true then _ else _) = (if b = true then _ else _)
      cases b with
      | false => rfl
      | true =>
        have h : (body st1).bind _ ≠ .bad := h
        rw [if_pos rfl, if_pos rfl]
        cases y : body st1 with
        | bad => rfl
        | ex e w => rfl
        | ok k st2 =>
          rw [y] at h
          cases k with
          | nx => exact ih h
          | ct => exact ih h
          | bk => rfl
          | rt a => rfl
theorem whL_le {t : DT} {body : DS} {n m : Nat} {st : S} (h : n ≤ m) (hb : whL t body n st ≠ .bad) : whL t body m st = whL t body n st := by
  induction h with
  | refl => rfl
  | step _ ih => rw [whL_succ (by rw [ih]; exact hb), ih]
open Classical in
noncomputable def whS (t : DT) (body : DS) : DS := fun st => if h : ∃ n, whL t body n st ≠ .bad then whL t body (Classical.choose h) st else .bad
theorem whS_of {t : DT} {body : DS} {n : Nat} {st : S} (h : whL t body n st ≠ .bad) : whS t body st = whL t body n st := by
  have ex : ∃ n, whL t body n st ≠ .bad := ⟨n, h⟩
  unfold whS
  rw [dif_pos ex]
  have := Classical.choose_spec ex
  rcases Nat.le_total n (Classical.choose ex) with z | z
  · exact whL_le z h
  · exact (whL_le z this).symm
theorem whS_bad {t : DT} {body : DS} {st : S} (h : ∀ n, whL t body n st = .bad) : whS t body st = .bad := by
  unfold whS
  rw [dif_neg (fun ⟨n, z⟩ => z (h n))]
theorem whS_bad' {t : DT} {body : DS} {st : S} (h : ∀ n, whL t body (n + 1) st = .bad) : whS t body st = .bad := whS_bad fun n => match n with
  | 0 => rfl
  | n + 1 => h n
/-- one turn told -/
theorem whS_eq (t : DT) (body : DS) (st : S) : whS t body st = (t st).bind fun b st1 => if b = true then (body st1).bind (turnK (whS t body))
    else .ok .nx st1 := by
  have one : ∀ {r : R Fl}, whL t body 1 st = r → r ≠ .bad → whS t body st = r := fun {r} h1 h2 => by rw [whS_of (n := 1) (by rw [h1]; exact h2), h1]
  cases z : t st with
  | bad => exact whS_bad' fun n => by rw [whL, z]; rfl
  | ex e w => exact one (by rw [whL, z]; rfl) (fun q => nomatch q)
  | ok b st1 =>
    cases b with
    | false => exact one (by rw [whL, z]; rfl) (fun q => nomatch q)
    | true =>
      show _ = (body st1).bind _
      cases y : body st1 with
      | bad => exact whS_bad' fun n => by rw [whL, z]; show (body st1).bind _ = _; rw [y]; rfl
      | ex e w => exact one (by rw [whL, z]; show (body st1).bind _ = _; rw [y]; rfl) (fun q => nomatch q)
      | ok k st2 =>
        have step : ∀ n, whL t body (n + 1) st = turnK (whL t body n) k st2 := fun n => by rw [whL, z]; show (body st1).bind _ = _; rw [y]; rfl
        have go : (∀ n, whL t body (n + 1) st = whL t body n st2) → whS t body st = whS t body st2 := fun h => by
          by_cases ex : ∃ n, whL t body n st2 ≠ .bad
          · obtain ⟨n, hn⟩ := ex
            rw [whS_of hn, whS_of (n := n + 1) (by rw [h]; exact hn), h]
          · rw [whS_bad (st := st2) fun n => Classical.byContradiction fun q => ex ⟨n, q⟩]
            exact whS_bad' fun n => by rw [h]; exact Classical.byContradiction fun q => ex ⟨n, q⟩
        cases k with
        | nx => exact go step
        | ct => exact go step
        | bk => exact one (step 0) (fun q => nomatch q)
        | rt a => exact one (step 0) (fun q => nomatch q)
theorem s_while (hp : PassesOwn (model X.prog X.w) X.A X.env X.xe) {t : DT} {f : DS} {body : List Stmt} (hc : PT X e (tT X.K x t)) (hb : PSs X body (tSt X.K x f)) : PS X (.While e body [] pos) (tSt X.K x (whS t f)) := (ps_while hp hc hb).imp fun En σ H ⟨c, g, st, r, q⟩ => by
  have hn : ∃ n, whL t f n st ≠ .bad := Classical.byContradiction fun h => by
    rw [whS_bad fun n => Classical.byContradiction fun z => h ⟨n, z⟩] at q
    exact q
  obtain ⟨n, hn⟩ := hn
  rw [whS_of hn] at q
  refine ⟨fun m σ' H' => ∃ g1 st1, Rel X.K c g1 σ' H' st1 ∧ PostS X.K x c g1 En (whL t f m st1), ⟨n, g, st, r, q⟩, ?_⟩
  rintro m σ1 H1 ⟨g1, st1, r1, q1⟩
  cases m with
  | zero => exact q1.elim
  | succ m =>
    rw [whL] at q1
    refine ⟨c, g1, st1, r1, q1.of fun b st2 b' g2 H2 l2 r2 h2 q2 => ?_⟩
    have h2 : b = b' := h2
    subst h2
    cases b with
    | false => exact q2 σ1 g2 H2 (.refl g2) r2
    | true =>
      rw [if_pos rfl] at q2
      show if true = true then _ else _
      rw [if_pos rfl]
      refine ⟨fun σ' H' => ∃ g1 st1, Rel X.K c g1 σ' H' st1 ∧ PostS X.K x c g1 En (whL t f m st1), fun σ' H' w => ⟨m, Nat.lt_succ_self m, w⟩, ?_⟩
      show tSt X.K x f _ σ1 H2
      exact ⟨c, g2, st2, r2, PostS.body q2 fun σ5 H5 g5 st5 l5 r5 q5 => ⟨g5, st5, r5, q5⟩⟩
end
end PV
set_option maxHeartbeats 4000000
/-! Comprehensions. -/
namespace PV
open PySem PySem.Spec PyProof.Rows L2

/-! ### a new object kept aside while other code runs -/
structure NewAt (K : PySem.W.Frag) (c : C) (g : G) (σ : L2.St) (H : Hp) (st : S) (p : Addr) (o : HO) (d : D) : Prop where
  h : H p = some o
  ho : HoD K g o d
  F : g.F p = none
  H0 : c.H0 p = none
  wa : ¬ g.wa p
  own : ∀ i, ¬ ownAt st σ i p
def C.wth (c : C) (p : Addr) (o : HO) : C := { c with H0 := upd c.H0 p o }
section
variable {K : PySem.W.Frag} {c : C} {g g' : G} {σ σ' : L2.St} {H H' : Hp} {st st' : S} {p : Addr} {o o' : HO} {d d' : D}
theorem NewAt.val (n : NewAt K c g σ H st p o d) : VlR K c g H σ st (.ref p) (true, d) := ⟨p, o, rfl, n.h, n.ho, n.F, n.H0, n.wa, n.own⟩
theorem NewAt.new (r : Rel K c g σ H st) (hp : H p = none) (h : HoD K g o d) : Rel K c g σ (upd H p o) st ∧ NewAt K c g σ (upd H p o) st p o d := by
  refine ⟨r.new hp (core_ntbl h.core), ?_⟩
  obtain ⟨q, o2, e, h1, h2, h3, h4, h5, h6⟩ := VlR.new r hp h
  cases e
  rw [upd_same] at h1; cases h1
  exact ⟨upd_same, h2, h3, h4, h5, h6⟩
theorem SlR.mono' {c c' : C} {x : Option (Option V)} {s : Sl} (h : SlR K c g H x s) (k : ∀ q (u : HO) d, x = some (some (.ref q)) → s = .ow d → c.H0 q = none → c'.H0 q = none) : SlR K c' g H x s := by
  cases s with
  | no => trivial
  | fz d => exact h
  | ow d =>
    obtain ⟨q, u, e, h1, h2, h3, h4, h5⟩ := h
    exact ⟨q, u, e, h1, h2, h3, k q u d e rfl h4, h5⟩
theorem Rel.guard (r : Rel K c g σ H st) (n : NewAt K c g σ H st p o d) : Rel K (c.wth p o) g σ H st := by
  have f := r.toFin
  refine ⟨⟨f.fh, fun a u e t m w => ?_, f.le, fun a u e => ?_, f.wr, f.wf, fun z a w => ?_, fun a ps e => ?_, f.tt, f.th, f.nt⟩, fun i s e => (r.sl i s e).mono' fun q u d1 e1 e2 => ?_, r.len, r.dj⟩
  · by_cases q : a = p
    · subst q
      have e : upd c.H0 a o a = some u := e
      rw [upd_same] at e; cases e; exact n.h
    · have e : upd c.H0 p o a = some u := e
      rw [upd_ne q] at e; exact f.kp a u e t m w
  · rcases f.nf a u e with z | z | z
    · exact .inl z
    · have q : a ≠ p := fun q => by subst q; rw [n.F] at e; cases e
      exact .inr (.inl (by show upd c.H0 p o a = none; rw [upd_ne q]; exact z))
    · exact .inr (.inr z)
  · have q : a ≠ p := fun q => n.wa (q ▸ w)
    show upd c.H0 p o a = none
    rw [upd_ne q]; exact f.wn z a w
  · by_cases q : a = p
    · subst q
      have e : upd c.H0 a o a = some (.tbl ps) := e
      rw [upd_same] at e; cases e; exact absurd rfl (core_ntbl n.ho.core ps)
    · have e : upd c.H0 p o a = some (.tbl ps) := e
      rw [upd_ne q] at e; exact f.kt a ps e
  · intro z
    have q' : q ≠ p := fun w => n.own i ⟨⟨d1, by rw [e, e2]⟩, by rw [e1, w]⟩
    show upd c.H0 p o q = none
    rw [upd_ne q']; exact z
theorem Rel.unguard (f0 : Fin K c g H st.w) (n : NewAt K c g σ H st p o d) (l : g.Le g') (r : Rel K (c.wth p o) g' σ' H' st') : Rel K c g' σ' H' st' ∧ NewAt K c g' σ' H' st' p o d := by
  have f := r.toFin
  have hH0 : (c.wth p o).H0 p = some o := upd_same
  have nF0 : c.g0.F p = none := by
    cases q : c.g0.F p with
    | none => rfl
    | some u =>
      obtain ⟨u', q'⟩ := f0.le.dm p u q
      rw [n.F] at q'; cases q'
  have nw : ¬ g'.wa p := fun w => by
    cases q : c.g0.hm with
    | none =>
      have := f.wn q p w
      rw [hH0] at this; cases this
    | some t =>
      obtain ⟨a, b, e, h1, h2⟩ := w
      have h3 := f0.le.hm t q
      have h4 := l.hm t h3
      rw [h1] at h4; cases h4
      exact n.wa ⟨a, b, e, h3, h2⟩
  have hp := f.kp p o hH0 (core_ntbl n.ho.core) nF0 nw
  have nown : ∀ i, ¬ ownAt st' σ' i p := fun i ⟨⟨d1, z1⟩, z2⟩ => by
    obtain ⟨q, u, e1, _, _, _, e5, _⟩ := r.sl i _ z1
    rw [z2] at e1; cases e1
    rw [hH0] at e5; cases e5
  have nF : g'.F p = none := by
    cases q : g'.F p with
    | none => rfl
    | some u =>
      rcases f.nf p u q with ⟨u', z⟩ | z | ⟨xs, z⟩
      · have z : c.g0.F p = some u' := z
        rw [nF0] at z; cases z
      · rw [hH0] at z; cases z
      · have y := f.fh p u q
        rw [hp] at y; cases y
        subst z
        cases n.ho
  refine ⟨⟨⟨f.fh, fun a u e t m w => ?_, f.le, fun a u e => ?_, f.wr, f.wf, fun z a w => ?_, fun a ps e => ?_, f.tt, f.th, f.nt⟩, fun i s e => (r.sl i s e).mono' fun q u d1 e1 e2 z => ?_, r.len, r.dj⟩, ⟨hp, n.ho.mono l, nF, n.H0, nw, nown⟩⟩
  · have q : a ≠ p := fun q => by subst q; rw [n.H0] at e; cases e
    exact f.kp a u (by show upd c.H0 p o a = _; rw [upd_ne q]; exact e) t m w
  · rcases f.nf a u e with z | z | z
    · exact .inl z
    · have q : a ≠ p := fun q => by subst q; rw [hH0] at z; cases z
      have z : upd c.H0 p o a = none := z
      rw [upd_ne q] at z
      exact .inr (.inl z)
    · exact .inr (.inr z)
  · have y : (c.wth p o).H0 a = none := f.wn z a w
    have q : a ≠ p := fun q => by subst q; rw [hH0] at y; cases y
    have y : upd c.H0 p o a = none := y
    rw [upd_ne q] at y; exact y
  · have q : a ≠ p := fun q => by subst q; rw [n.H0] at e; cases e
    exact f.kt a ps (by show upd c.H0 p o a = _; rw [upd_ne q]; exact e)
  · have z : (c.wth p o).H0 q = none := z
    have q' : q ≠ p := fun w => by subst w; rw [hH0] at z; cases z
    have z : upd c.H0 p o q = none := z
    rw [upd_ne q'] at z; exact z
theorem Rel.updNew (r : Rel K c g σ H st) (n : NewAt K c g σ H st p o d) (ho : HoD K g o' d') : Rel K c g σ (upd H p o') st ∧ NewAt K c g σ (upd H p o') st p o' d' := by
  refine ⟨⟨r.toFin.upd n.h n.ho.core ho.core n.F n.H0 n.wa, fun i s e => (r.sl i s e).mono (.refl g) fun q u x e1 e2 e3 _ e5 _ e7 => ⟨?_, e5, e7⟩, r.len, r.dj⟩, ⟨upd_same, ho, n.F, n.H0, n.wa, n.own⟩⟩
  have q' : q ≠ p := fun w => n.own i ⟨⟨x, by rw [e, e2]⟩, by rw [e1, w]⟩
  rw [upd_ne q']; exact e3

/-! ### the slots of a block's own names -/
def wipeL : List Sl → List Nat → List Sl
  | l, [] => l
  | l, v :: vs => (wipeL l vs).set v .no
def wipeE (vs : List Nat) (st : S) : S := { st with env := wipeL st.env vs }
theorem wipeL_length (l : List Sl) : ∀ vs : List Nat, (wipeL l vs).length = l.length
  | [] => rfl
  | v :: vs => by unfold wipeL; rw [List.length_set, wipeL_length l vs]
theorem wipeL_get (l : List Sl) (i : Nat) : ∀ vs : List Nat, (wipeL l vs)[i]? = if i ∈ vs then (l[i]?).map fun _ => .no else l[i]?
  | [] => by simp [wipeL]
  | v :: vs => by
    show ((wipeL l vs).set v .no)[i]? = _
    by_cases e : v = i
    · subst e
      rw [if_pos List.mem_cons_self]
      by_cases h : v < l.length
      · rw [List.getElem?_set_self (by rw [wipeL_length]; exact h), List.getElem?_eq_getElem h]; rfl
      · rw [List.getElem?_eq_none (by rw [List.length_set, wipeL_length]; omega), List.getElem?_eq_none (by omega)]; rfl
    · rw [List.getElem?_set_ne e, wipeL_get l i vs]
      by_cases z : i ∈ vs
      · rw [if_pos z, if_pos (List.mem_cons_of_mem _ z)]
      · rw [if_neg z, if_neg (by simp only [List.mem_cons, not_or]; exact ⟨fun q => e q.symm, z⟩)]
theorem wipe_idem (σ : L2.St) (vs : List Nat) : wipe (wipe σ vs) vs = wipe σ vs := by
  refine List.ext_getElem? fun j => ?_
  rw [wipe_get, wipe_get]
  by_cases e : j ∈ vs
  · rw [if_pos e, if_pos e, Option.map_map]; rfl
  · rw [if_neg e, if_neg e]
theorem wipe_own {vs : List Nat} {i : Nat} {p : Addr} (h : ownAt (wipeE vs st) (wipe σ vs) i p) : ownAt st σ i p ∧ i ∉ vs := by
  obtain ⟨⟨d, z1⟩, z2⟩ := h
  have z1 : (wipeL st.env vs)[i]? = some (.ow d) := z1
  rw [wipeL_get] at z1
  rw [wipe_get] at z2
  by_cases e : i ∈ vs
  · rw [if_pos e] at z1
    cases q : st.env[i]? with
    | none => rw [q] at z1; cases z1
    | some s => rw [q] at z1; cases z1
  · rw [if_neg e] at z1 z2
    exact ⟨⟨⟨d, z1⟩, z2⟩, e⟩
theorem Rel.wipe (r : Rel K c g σ H st) (vs : List Nat) : Rel K c g (L2.wipe σ vs) H (wipeE vs st) := by
  refine ⟨r.toFin, fun i s e => ?_, by show (L2.wipe σ vs).length = (wipeL st.env vs).length; rw [wipe_length, wipeL_length]; exact r.len, fun i j q a b => r.dj i j q (wipe_own a).1 (wipe_own b).1⟩
  have e : (wipeL st.env vs)[i]? = some s := e
  rw [wipeL_get] at e
  rw [wipe_get]
  by_cases z : i ∈ vs
  · rw [if_pos z] at e
    cases q : st.env[i]? with
    | none => rw [q] at e; cases e
    | some s' => rw [q] at e; cases e; trivial
  · rw [if_neg z] at e ⊢
    exact r.sl i s e
theorem NewAt.wipe (n : NewAt K c g σ H st p o d) (vs : List Nat) : NewAt K c g (L2.wipe σ vs) H (wipeE vs st) p o d := ⟨n.h, n.ho, n.F, n.H0, n.wa, fun i z => n.own i (wipe_own z).1⟩
/-- out of the block: the def's own slots as they were, the others as the block leaves them -/
def backL (vs : List Nat) (l l' : List Sl) : List Sl := l'.mapIdx fun i s => if i ∈ vs then (match l[i]? with | some (.fz d) => .fz d | _ => .no) else s
def back (vs : List Nat) (st st' : S) : S := { st' with env := backL vs st.env st'.env }
theorem backL_get (vs : List Nat) (l l' : List Sl) (i : Nat) : (backL vs l l')[i]? = (l'[i]?).map fun s => if i ∈ vs then (match l[i]? with | some (.fz d) => .fz d | _ => .no) else s := by
  unfold backL; rw [List.getElem?_mapIdx]
theorem back_own {vs : List Nat} {i : Nat} {p : Addr} (h : ownAt (back vs st st') σ i p) : ownAt st' (L2.wipe σ vs) i p := by
  obtain ⟨⟨d, z1⟩, z2⟩ := h
  have z1 : (backL vs st.env st'.env)[i]? = some (.ow d) := z1
  rw [backL_get] at z1
  cases q : st'.env[i]? with
  | none => rw [q] at z1; cases z1
  | some s =>
    rw [q] at z1
    have z1 : (if i ∈ vs then (match st.env[i]? with | some (.fz d) => Sl.fz d | _ => .no) else s) = .ow d := Option.some.inj z1
    by_cases e : i ∈ vs
    · rw [if_pos e] at z1
      split at z1 <;> cases z1
    · rw [if_neg e] at z1
      subst z1
      exact ⟨⟨d, q⟩, by rw [wipe_get, if_neg e]; exact z2⟩
theorem Rel.back (r0 : Rel K c g σ H st) (l : g.Le g') {vs : List Nat} (r : Rel K c g' (L2.wipe σ vs) H' st') : Rel K c g' σ H' (back vs st st') := by
  refine ⟨r.toFin, fun i s e => ?_, by show σ.length = (backL vs st.env st'.env).length; unfold backL; rw [List.length_mapIdx, ← r.len, wipe_length], fun i j q a b => r.dj i j q (back_own a) (back_own b)⟩
  have e : (backL vs st.env st'.env)[i]? = some s := e
  rw [backL_get] at e
  cases q : st'.env[i]? with
  | none => rw [q] at e; cases e
  | some s' =>
    rw [q] at e
    have e : (if i ∈ vs then (match st.env[i]? with | some (.fz d) => Sl.fz d | _ => .no) else s') = s := Option.some.inj e
    by_cases z : i ∈ vs
    · rw [if_pos z] at e
      split at e
      · rename_i d1 h1
        subst e
        obtain ⟨v, h2, h3⟩ := r0.sl i _ h1
        exact ⟨v, h2, h3.mono l⟩
      · subst e; trivial
    · rw [if_neg z] at e
      subst e
      have := r.sl i _ q
      rw [wipe_get, if_neg z] at this
      exact this
theorem NewAt.back {vs : List Nat} (n : NewAt K c g (L2.wipe σ vs) H st' p o d) (st : S) : NewAt K c g σ H (back vs st st') p o d := ⟨n.h, n.ho, n.F, n.H0, n.wa, fun i z => n.own i (back_own z)⟩
end
end PV
set_option maxHeartbeats 4000000
/-! List comprehensions. -/
namespace PV
open PySem PySem.Spec PyProof.Rows L2

/-- the items: one clause -/
def lcL (vs : List Nat) (t : Tg) (tt : DT) (te : DE) : List D → DA
  | [], st => .ok [] st
  | d :: ds, st => match t.put d st with
    | none => .bad
    | some st1 => (tt st1).bind fun b st2 => if b = true then (te st2).bind fun a st3 => (lcL vs t tt te ds (wipeE vs st3)).bind fun r st4 => .ok (a.2 :: r) st4
      else lcL vs t tt te ds (wipeE vs st2)
/-- .. two clauses -/
def lcL2 (vs vs1 : List Nat) (t : Tg) (tt : DT) (it1 : DI) (t1 : Tg) (tt1 : DT) (te : DE) : List D → DA
  | [], st => .ok [] st
  | d :: ds, st => match t.put d st with
    | none => .bad
    | some st1 => (tt st1).bind fun b st2 => if b = true then (it1 st2).bind fun es st3 => (lcL vs1 t1 tt1 te es (wipeE vs1 st3)).bind fun r st4 => (lcL2 vs vs1 t tt it1 t1 tt1 te ds (wipeE vs st4)).bind fun r' st5 => .ok (r ++ r') st5
      else lcL2 vs vs1 t tt it1 t1 tt1 te ds (wipeE vs st2)
/-- a block: its value, from the list of its items; nothing may be raised in it -/
def blkE (k : D → D) (vs : List Nat) (st : S) : R (List D) → R Vl
  | .ok r st2 => .ok (true, k (.lst r)) (back vs st st2)
  | _ => .bad
def lcD (vs : List Nat) (it : DI) (t : Tg) (tt : DT) (te : DE) : DE := fun st => (it st).bind fun ds st1 => blkE id vs st1 (lcL vs t tt te ds (wipeE vs st1))
def lcD2 (vs vs1 : List Nat) (it : DI) (t : Tg) (tt : DT) (it1 : DI) (t1 : Tg) (tt1 : DT) (te : DE) : DE := fun st => (it st).bind fun ds st1 => blkE id vs st1 ((lcL2 vs vs1 t tt it1 t1 tt1 te ds (wipeE vs st1)).bind fun r st => if r.length ≤ 1000000 then .ok r st else .bad)

def XC.no (x : XC) : XC := ⟨x.xr, fun _ _ _ => False⟩
def yesT : DT := fun st => .ok true st

section
variable {K : PySem.W.Frag} {x : XC} {c : C} {g : G} {σ : L2.St} {H : Hp} {st : S}
theorem Apart.wiped {σ σ' : L2.St} {l vs : List Nat} (a : Apart (wipe σ vs) σ' l) (h : ∀ i ∈ l, i ∈ vs) : wipe σ' vs = wipe σ vs := (a vs h).trans (wipe_idem σ vs)
end
section
variable {X : Cx} {x : XC}
theorem R.bind_ok_iff {α β : Type} {r : R α} {k : α → S → R β} {b : β} {st' : S} (h : r.bind k = .ok b st') : ∃ a st, r = .ok a st ∧ k a st = .ok b st' := by
  cases r with
  | ok a st => exact ⟨a, st, rfl, h⟩
  | ex e w => cases h
  | bad => cases h
/-- one item: the target, the tests, the value -/
theorem lc_turn {c : C} {g : G} {σ : L2.St} {vs : List Nat} {H2 : Hp} {J : It} {ds : List D} {i : Nat} {d : D} {t : Tg} {tt : DT} {te : DE} {st2 : S} {p : Addr} {acc : List V} {dacc : List D} {g1 : G} {es : List D} {ste : S} {rest : List D → DA} {Nx : Hp → Prop}
    (ok : ItOk X.K g1 J ds) (hv : ∀ i ∈ t.ix, i ∈ vs) (l : g1.Le g) (r2 : Rel X.K c g (wipe σ vs) H2 st2) (n2 : NewAt X.K c g (wipe σ vs) H2 st2 p (.lst acc) (.lst dacc)) (hd : ds[i]? = some d) (hz : ∀ a es', es = a :: es' → dacc.length < sizeLine)
    (e : (match t.put d st2 with
      | none => R.bad
      | some st1 => (tt st1).bind fun b st2 => if b = true then (te st2).bind fun a st3 => (rest ds (wipeE vs st3)).bind fun r st4 => .ok (a.2 :: r) st4
        else rest ds (wipeE vs st2)) = .ok es ste)
    (hN : ∀ (b : Bool) (a : D) (es' : List D) st3 H3 acc', (b = true → es = a :: es') → (b = false → es = es') → (b = true → ∃ g3, g.Le g3 ∧ Rel X.K c g3 (wipe σ vs) H3 (wipeE vs st3) ∧ NewAt X.K c g3 (wipe σ vs) H3 (wipeE vs st3) p (.lst acc') (.lst (dacc ++ [a]))) →
      (b = false → ∃ g3, g.Le g3 ∧ Rel X.K c g3 (wipe σ vs) H3 (wipeE vs st3) ∧ NewAt X.K c g3 (wipe σ vs) H3 (wipeE vs st3) p (.lst acc') (.lst dacc)) → rest ds (wipeE vs st3) = .ok es' ste → Nx H3) :
    J.go i H2 ∧ ∀ v H', J.yld i H2 v H' → gT X.K t v (wipe σ vs) H' fun σ2 H2 => wipe σ2 vs = wipe σ vs ∧ tT X.K x.no tt σ2 H2 fun b H3 =>
      if b = true then tS X.K x.no te σ2 H3 fun y H4 => ∃ acc, H4 p = some (.lst acc) ∧ acc.length < sizeLine ∧ Nx (upd H4 p (.lst (acc ++ [y]))) else Nx H3 := by
  obtain ⟨go, _⟩ := ok.2 c g _ H2 st2 l r2
  obtain ⟨g0, _⟩ := go i d hd
  refine ⟨g0, fun v H' y => ?_⟩
  have rg := r2.guard n2
  obtain ⟨go', _⟩ := ok.2 _ g _ H2 st2 l rg
  obtain ⟨g3, l3, r3, dv⟩ := (go' i d hd).2 v H' y
  cases z : t.put d st2 with
  | none => rw [z] at e; cases e
  | some st3 =>
    rw [z] at e
    obtain ⟨b, st4, e1, e2⟩ := R.bind_ok_iff e
    refine ⟨_, g3, st2, d, st3, r3, dv, z, fun σ4 r4 ap => ?_⟩
    have hw := ap.wiped hv
    refine ⟨hw, _, g3, st3, r4, ?_⟩
    rw [e1]
    intro b' g5 H5 l5 r5 hb
    have hb : b = b' := hb
    subst hb
    cases b with
    | false =>
      rw [if_neg Bool.false_ne_true] at e2 ⊢
      obtain ⟨r6, n6⟩ := Rel.unguard r2.toFin n2 (l3.trans l5) r5
      refine hN false d es st4 H5 acc (fun q => nomatch q) (fun _ => rfl) (fun q => nomatch q) (fun _ => ⟨g5, l3.trans l5, ?_, ?_⟩) e2
      · rw [← hw]; exact r6.wipe vs
      · rw [← hw]; exact n6.wipe vs
    | true =>
      rw [if_pos rfl] at e2 ⊢
      obtain ⟨a, st5, e3, e4⟩ := R.bind_ok_iff e2
      obtain ⟨es', st6, e5, e6⟩ := R.bind_ok_iff e4
      cases e6
      refine ⟨_, g5, st4, r5, ?_⟩
      rw [e3]
      intro v2 g6 H6 l6 r6 h6
      obtain ⟨g7, l7, r7, d7⟩ := h6.fz r6
      obtain ⟨r8, n8⟩ := Rel.unguard r2.toFin n2 ((l3.trans l5).trans (l6.trans l7)) r7
      have ra : DnAll X.K g7 acc dacc := by cases n8.ho with | lst ra => exact ra
      refine ⟨acc, n8.h, by rw [ra.length]; exact hz _ _ rfl, ?_⟩
      obtain ⟨r9, n9⟩ := r8.updNew n8 (o' := .lst (acc ++ [v2])) (.lst (ra.append (.cons d7 .nil)))
      refine hN true a.2 es' st5 _ (acc ++ [v2]) (fun _ => rfl) (fun q => nomatch q) (fun _ => ⟨g7, (l3.trans l5).trans (l6.trans l7), ?_, ?_⟩) (fun q => nomatch q) e5
      · rw [← hw]; exact r9.wipe vs
      · rw [← hw]; exact n9.wipe vs
theorem tLc_of {vs : List Nat} {it : DI} {t : Tg} {tt : DT} {te : DE} (hv : ∀ i ∈ t.ix, i ∈ vs) : ∀ (σ : L2.St) H Q, tS X.K x (lcD vs it t tt te) σ H Q → tLc (tI X.K x it) (gT X.K t) (tT X.K x.no tt) (tS X.K x.no te) vs σ H Q := fun σ H Q ⟨c, g, st, r, q⟩ => by
  unfold lcD at q
  refine ⟨c, g, st, r, q.bind fun ds st1 J g1 H1 l1 r1 ok q1 p hp => ?_⟩
  cases hr : lcL vs t tt te ds (wipeE vs st1) with
  | bad => rw [hr] at q1; exact q1.elim
  | ex e w => rw [hr] at q1; exact q1.elim
  | ok fin ste =>
    rw [hr] at q1
    obtain ⟨r2, n2⟩ := NewAt.new r1 hp (o := .lst []) (d := .lst []) (.lst .nil)
    refine ⟨fun i m H' => m = ds.length - i ∧ i ≤ ds.length ∧ ∃ g2 st2 acc dacc es, g1.Le g2 ∧ Rel X.K c g2 (wipe σ vs) H' st2 ∧ NewAt X.K c g2 (wipe σ vs) H' st2 p (.lst acc) (.lst dacc) ∧ dacc.length ≤ i ∧ lcL vs t tt te (ds.drop i) st2 = .ok es ste ∧ dacc ++ es = fin,
      ⟨ds.length, by simp, Nat.zero_le _, g1, wipeE vs st1, [], [], fin, .refl g1, r2.wipe vs, n2.wipe vs, Nat.le_refl _, by simpa using hr, rfl⟩, ?_⟩
    rintro i m H2 ⟨rfl, hi, g2, st2, acc, dacc, es, l2, r2, n2, hl, e, ef⟩
    by_cases hlt : i < ds.length
    · have hd : ds.drop i = ds[i] :: ds.drop (i + 1) := List.drop_eq_getElem_cons hlt
      rw [hd] at e
      unfold lcL at e
      have hz : ∀ a es', es = a :: es' → dacc.length < sizeLine := fun _ _ _ => Nat.lt_of_le_of_lt hl (Nat.lt_of_lt_of_le hlt ok.1)
      have turn := lc_turn (X := X) (x := x) (rest := fun _ => lcL vs t tt te (ds.drop (i + 1))) (Nx := fun H' => ∃ g2 st2 acc dacc es, g1.Le g2 ∧ Rel X.K c g2 (wipe σ vs) H' st2 ∧ NewAt X.K c g2 (wipe σ vs) H' st2 p (.lst acc) (.lst dacc) ∧ dacc.length ≤ i + 1 ∧ lcL vs t tt te (ds.drop (i + 1)) st2 = .ok es ste ∧ dacc ++ es = fin)
        ok hv l2 r2 n2 (List.getElem?_eq_getElem hlt) hz e fun b a es' st3 H3 acc' e1 e2 h1 h2 e3 => by
          cases b with
          | true =>
            obtain ⟨g3, l3, r3, n3⟩ := h1 rfl
            refine ⟨g3, _, acc', dacc ++ [a], es', l2.trans l3, r3, n3, by rw [List.length_append]; exact Nat.succ_le_succ hl, e3, ?_⟩
            rw [← ef, e1 rfl, List.append_assoc]; rfl
          | false =>
            obtain ⟨g3, l3, r3, n3⟩ := h2 rfl
            exact ⟨g3, _, acc', dacc, es', l2.trans l3, r3, n3, Nat.le_succ_of_le hl, e3, by rw [← ef, e2 rfl]⟩
      exact .inr ⟨turn.1, _, fun H' w => ⟨_, by omega, rfl, hlt, w⟩, turn.2⟩
    · have z : i = ds.length := by omega
      subst z
      rw [List.drop_length] at e
      unfold lcL at e
      cases e
      rw [List.append_nil] at ef
      subst ef
      obtain ⟨_, stop⟩ := ok.2 c g2 _ H2 ste l2 r2
      refine .inl ⟨stop, q1 (.ref p) g2 H2 l2 (r1.back l2 r2) ?_⟩
      exact (n2.back st1).val
/-- the context of a block's code -/
abbrev Blk (X : Cx) (scope : Scope) (s : Shared) (H : Hp) (C : Addr) (cl : List (Str × Addr)) (fp : List Addr) : Cx := X.blk s H scope (compEnvC scope cl C X.env) fp
theorem sE_lc {elt tg iter : Expr} {ifs : List Expr} {scope : Scope} {own : List (Str × Nat)} {pos : Pos} {it : DI} {t : Tg} {tt : DT} {te : DE} (hc : X.calm = true) (hN : X.N.Nodup) (hi : PI X tg iter (tI X.K x it)) (ok : BlkOk X.N X.env.scope scope own) (hv : ∀ i ∈ t.ix, i ∈ own.map (·.2))
    (hg : ∀ s H C cl fp, TgOk (Blk X scope s H C cl fp) tg t) (ht : ∀ s H C cl fp, PTs (Blk X scope s H C cl fp) ifs (tT X.K x.no tt)) (he : ∀ s H C cl fp, PE (Blk X scope s H C cl fp) elt (tS X.K x.no te)) (hs : ∀ v, foldedSetIterable iter X.env v = pure v) :
    PE X (.ListComp elt [⟨tg, iter, ifs, 0⟩] scope pos) (tS X.K x (lcD (own.map (·.2)) it t tt te)) :=
  (pe_lc hc hN hi ok (fun s H C cl fp => pg_of (X := Blk X scope s H C cl fp) hc (hg s H C cl fp)) ht he hs).imp (tLc_of hv)
theorem s_setLc {i : Nat} {y : Str} {py spos : Pos} {elt tg iter : Expr} {ifs : List Expr} {scope : Scope} {own : List (Str × Nat)} {pos : Pos} {it : DI} {t : Tg} {tt : DT} {te : DE} (hc : X.calm = true) (hN : X.N.Nodup) (hy : X.N[i]? = some y) (hyl : X.env.scope.names.lookup y = some .local)
    (hsw : swapsWith (.ListComp elt [⟨tg, iter, ifs, 0⟩] scope pos) (some (.Name y py)) spos.line X.env = pure true) (hi : PI X tg iter (tI X.K x it)) (ok : BlkOk X.N X.env.scope scope own) (hv : ∀ i ∈ t.ix, i ∈ own.map (·.2))
    (hg : ∀ s H C cl fp, TgOk (Blk X scope s H C cl fp) tg t) (ht : ∀ s H C cl fp, PTs (Blk X scope s H C cl fp) ifs (tT X.K x.no tt)) (he : ∀ s H C cl fp, PE (Blk X scope s H C cl fp) elt (tS X.K x.no te)) (hs : ∀ v, foldedSetIterable iter X.env v = pure v) :
    PS X (.Assign [.Name y py] (.ListComp elt [⟨tg, iter, ifs, 0⟩] scope pos) spos) (tSt X.K x (setS i (lcD (own.map (·.2)) it t tt te))) :=
  (ps_setLc hc hN hy hyl hsw hi ok (fun s H C cl fp => pg_of (X := Blk X scope s H C cl fp) hc (hg s H C cl fp)) ht he hs).imp fun En σ H q => tLc_of hv σ H _ (tAsg_of En σ H q)
theorem sTs_nil : PTs X [] (tT X.K x yesT) := by
  have h := pts_nil (X := X)
  exact ⟨fun pins s σ H Q I w => h.run pins s σ H Q I (by obtain ⟨c, g, st, r, q⟩ := w; exact q true g H (.refl g) r rfl)⟩
theorem wipe_wipe {σ : L2.St} {vs vs1 : List Nat} (h : ∀ i ∈ vs1, i ∈ vs) : wipe (wipe σ vs1) vs = wipe σ vs := by
  refine List.ext_getElem? fun j => ?_
  rw [wipe_get, wipe_get, wipe_get]
  by_cases e : j ∈ vs
  · rw [if_pos e, if_pos e]
    by_cases z : j ∈ vs1
    · rw [if_pos z, Option.map_map]; rfl
    · rw [if_neg z]
  · rw [if_neg e, if_neg e, if_neg fun z => e (h j z)]
theorem tLc2_of {vs vs1 : List Nat} {it it1 : DI} {t t1 : Tg} {tt tt1 : DT} {te : DE} (hv : ∀ i ∈ t.ix, i ∈ vs) (hv1 : ∀ i ∈ t1.ix, i ∈ vs1) (hs : ∀ i ∈ vs1, i ∈ vs) : ∀ (σ : L2.St) H Q, tS X.K x (lcD2 vs vs1 it t tt it1 t1 tt1 te) σ H Q →
    tLc2 (tI X.K x it) (gT X.K t) (tT X.K x.no tt) (tI X.K x.no it1) (gT X.K t1) (tT X.K x.no tt1) (tS X.K x.no te) vs vs1 σ H Q := fun σ H Q ⟨c, g, st, r, q⟩ => by
  unfold lcD2 at q
  refine ⟨c, g, st, r, q.bind fun ds st1 J g1 H1 l1 r1 ok q1 p hp => ?_⟩
  cases hr : lcL2 vs vs1 t tt it1 t1 tt1 te ds (wipeE vs st1) with
  | bad => rw [hr] at q1; exact q1.elim
  | ex e w => rw [hr] at q1; exact q1.elim
  | ok fin ste =>
    rw [hr] at q1
    by_cases hsz : fin.length ≤ 1000000
    · have q1 : Post X.K x c g1 σ _ Q (blkE id vs st1 (if fin.length ≤ 1000000 then .ok fin ste else .bad)) := q1
      rw [if_pos hsz] at q1
      have big : ∀ {a : D} {u w z : List D}, u ++ (a :: w) ++ z = fin → u.length < sizeLine := fun {a u w z} h => by
        rw [← h, List.length_append, List.length_append, List.length_cons] at hsz
        rw [sizeLine_eq]; omega
      obtain ⟨r2, n2⟩ := NewAt.new r1 hp (o := .lst []) (d := .lst []) (.lst .nil)
      refine ⟨fun i m H' => m = ds.length - i ∧ i ≤ ds.length ∧ ∃ g2 st2 acc dacc es, g1.Le g2 ∧ Rel X.K c g2 (wipe σ vs) H' st2 ∧ NewAt X.K c g2 (wipe σ vs) H' st2 p (.lst acc) (.lst dacc) ∧ lcL2 vs vs1 t tt it1 t1 tt1 te (ds.drop i) st2 = .ok es ste ∧ dacc ++ es = fin,
        ⟨ds.length, by simp, Nat.zero_le _, g1, wipeE vs st1, [], [], fin, .refl g1, r2.wipe vs, n2.wipe vs, by simpa using hr, rfl⟩, ?_⟩
      rintro i m H2 ⟨rfl, hi, g2, st2, acc, dacc, es, l2, r2, n2, e, ef⟩
      by_cases hlt : i < ds.length
      · have hd : ds.drop i = ds[i] :: ds.drop (i + 1) := List.drop_eq_getElem_cons hlt
        rw [hd] at e
        unfold lcL2 at e
        obtain ⟨go, _⟩ := ok.2 c g2 _ H2 st2 l2 r2
        obtain ⟨g0, _⟩ := go i ds[i] (List.getElem?_eq_getElem hlt)
        refine .inr ⟨g0, fun H' => ∃ g2 st2 acc dacc es, g1.Le g2 ∧ Rel X.K c g2 (wipe σ vs) H' st2 ∧ NewAt X.K c g2 (wipe σ vs) H' st2 p (.lst acc) (.lst dacc) ∧ lcL2 vs vs1 t tt it1 t1 tt1 te (ds.drop (i + 1)) st2 = .ok es ste ∧ dacc ++ es = fin,
          fun H' w => ⟨_, by omega, rfl, hlt, w⟩, fun v H' y => ?_⟩
        have rg := r2.guard n2
        obtain ⟨go', _⟩ := ok.2 _ g2 _ H2 st2 l2 rg
        obtain ⟨g3, l3, r3, dv⟩ := (go' i _ (List.getElem?_eq_getElem hlt)).2 v H' y
        cases z : t.put ds[i] st2 with
        | none => rw [z] at e; cases e
        | some st3 =>
          rw [z] at e
          obtain ⟨b, st4, e1, e2⟩ := R.bind_ok_iff e
          refine ⟨_, g3, st2, ds[i], st3, r3, dv, z, fun σ4 r4 ap => ?_⟩
          have hw := ap.wiped hv
          refine ⟨hw, _, g3, st3, r4, ?_⟩
          rw [e1]
          intro b' g5 H5 l5 r5 hb
          have hb : b = b' := hb
          subst hb
          cases b with
          | false =>
            rw [if_neg Bool.false_ne_true] at e2 ⊢
            obtain ⟨r6, n6⟩ := Rel.unguard r2.toFin n2 (l3.trans l5) r5
            exact ⟨g5, _, acc, dacc, es, (l2.trans l3).trans l5, by rw [← hw]; exact r6.wipe vs, by rw [← hw]; exact n6.wipe vs, e2, ef⟩
          | true =>
            rw [if_pos rfl] at e2 ⊢
            obtain ⟨zs, st5, e3, e4⟩ := R.bind_ok_iff e2
            obtain ⟨rs, st6, e5, e6⟩ := R.bind_ok_iff e4
            obtain ⟨es', st7, e7, e8⟩ := R.bind_ok_iff e6
            cases e8
            refine ⟨_, g5, st4, r5, ?_⟩
            rw [e3]
            intro J1 g6 H6 l6 r6 ok1
            obtain ⟨r8, n8⟩ := Rel.unguard r2.toFin n2 ((l3.trans l5).trans l6) r6
            refine ⟨fun j k H' => k = zs.length - j ∧ j ≤ zs.length ∧ ∃ g2 st2 acc dacc1 rs1, g6.Le g2 ∧ Rel X.K c g2 (wipe σ4 vs1) H' st2 ∧ NewAt X.K c g2 (wipe σ4 vs1) H' st2 p (.lst acc) (.lst dacc1) ∧ lcL vs1 t1 tt1 te (zs.drop j) st2 = .ok rs1 st6 ∧ dacc1 ++ rs1 ++ es' = fin,
              ⟨zs.length, by simp, Nat.zero_le _, g6, wipeE vs1 st5, acc, dacc, rs, .refl g6, r8.wipe vs1, n8.wipe vs1, by simpa using e5, by rw [← ef, List.append_assoc]⟩, ?_⟩
            rintro j k H9 ⟨rfl, hj, g9, st9, acc9, dacc9, rs9, l9, r9, n9, e9, ef9⟩
            by_cases hlt1 : j < zs.length
            · have hd1 : zs.drop j = zs[j] :: zs.drop (j + 1) := List.drop_eq_getElem_cons hlt1
              rw [hd1] at e9
              unfold lcL at e9
              have turn := lc_turn (X := X) (x := x) (rest := fun _ => lcL vs1 t1 tt1 te (zs.drop (j + 1))) (Nx := fun H' => ∃ g2 st2 acc dacc1 rs1, g6.Le g2 ∧ Rel X.K c g2 (wipe σ4 vs1) H' st2 ∧ NewAt X.K c g2 (wipe σ4 vs1) H' st2 p (.lst acc) (.lst dacc1) ∧ lcL vs1 t1 tt1 te (zs.drop (j + 1)) st2 = .ok rs1 st6 ∧ dacc1 ++ rs1 ++ es' = fin)
                ok1 hv1 l9 r9 n9 (List.getElem?_eq_getElem hlt1) (fun a w ew => big (by rw [← ew]; exact ef9)) e9 fun b a es' st3 H3 acc' e1 e2 h1 h2 e3 => by
                  cases b with
                  | true =>
                    obtain ⟨g3, l3, r3, n3⟩ := h1 rfl
                    refine ⟨g3, _, acc', dacc9 ++ [a], es', l9.trans l3, r3, n3, e3, ?_⟩
                    rw [← ef9, e1 rfl, List.append_assoc dacc9]; rfl
                  | false =>
                    obtain ⟨g3, l3, r3, n3⟩ := h2 rfl
                    exact ⟨g3, _, acc', dacc9, es', l9.trans l3, r3, n3, e3, by rw [← ef9, e2 rfl]⟩
              exact .inr ⟨turn.1, _, fun H' w => ⟨_, by omega, rfl, hlt1, w⟩, turn.2⟩
            · have z : j = zs.length := by omega
              subst z
              rw [List.drop_length] at e9
              unfold lcL at e9
              cases e9
              rw [List.append_nil] at ef9
              obtain ⟨_, stop⟩ := ok1.2 c g9 _ H9 st6 l9 r9
              have hww : wipe (wipe σ4 vs1) vs = wipe σ vs := (wipe_wipe hs).trans hw
              exact .inl ⟨stop, g9, wipeE vs st6, acc9, dacc9, es', (((l2.trans l3).trans l5).trans l6).trans l9, by rw [← hww]; exact r9.wipe vs, by rw [← hww]; exact n9.wipe vs, e7, ef9⟩
      · have z : i = ds.length := by omega
        subst z
        rw [List.drop_length] at e
        unfold lcL2 at e
        cases e
        rw [List.append_nil] at ef
        subst ef
        obtain ⟨_, stop⟩ := ok.2 c g2 _ H2 ste l2 r2
        refine .inl ⟨stop, q1 (.ref p) g2 H2 l2 (r1.back l2 r2) ?_⟩
        exact (n2.back st1).val
    · have q1 : Post X.K x c g1 σ _ Q (blkE id vs st1 (if fin.length ≤ 1000000 then .ok fin ste else .bad)) := q1
      rw [if_neg hsz] at q1
      exact q1.elim
theorem sE_lc2 {elt tg iter tg1 iter1 : Expr} {ifs ifs1 : List Expr} {scope : Scope} {own : List (Str × Nat)} {vs1 : List Nat} {pos : Pos} {it it1 : DI} {t t1 : Tg} {tt tt1 : DT} {te : DE} (hc : X.calm = true) (hN : X.N.Nodup) (hi : PI X tg iter (tI X.K x it)) (ok : BlkOk X.N X.env.scope scope own) (hsv : ∀ i ∈ vs1, i ∈ own.map (·.2)) (hv : ∀ i ∈ t.ix, i ∈ own.map (·.2)) (hv1 : ∀ i ∈ t1.ix, i ∈ vs1)
    (hg : ∀ s H C cl fp, TgOk (Blk X scope s H C cl fp) tg t) (ht : ∀ s H C cl fp, PTs (Blk X scope s H C cl fp) ifs (tT X.K x.no tt)) (hi1 : ∀ s H C cl fp, PI (Blk X scope s H C cl fp) tg1 iter1 (tI X.K x.no it1)) (hg1 : ∀ s H C cl fp, TgOk (Blk X scope s H C cl fp) tg1 t1)
    (ht1 : ∀ s H C cl fp, PTs (Blk X scope s H C cl fp) ifs1 (tT X.K x.no tt1)) (he : ∀ s H C cl fp, PE (Blk X scope s H C cl fp) elt (tS X.K x.no te)) (hs : ∀ v, foldedSetIterable iter X.env v = pure v) (hs1 : ∀ env v, foldedSetIterable iter1 env v = pure v) :
    PE X (.ListComp elt [⟨tg, iter, ifs, 0⟩, ⟨tg1, iter1, ifs1, 0⟩] scope pos) (tS X.K x (lcD2 (own.map (·.2)) vs1 it t tt it1 t1 tt1 te)) :=
  (pe_lc2 hc hN hi ok hsv (fun s H C cl fp => pg_of (X := Blk X scope s H C cl fp) hc (hg s H C cl fp)) ht hi1 (fun s H C cl fp => pg_of (X := Blk X scope s H C cl fp) hc (hg1 s H C cl fp)) ht1 he hs hs1).imp (tLc2_of hv hv1 hsv)
theorem s_setLc2 {i : Nat} {y : Str} {py spos : Pos} {elt tg iter tg1 iter1 : Expr} {ifs ifs1 : List Expr} {scope : Scope} {own : List (Str × Nat)} {vs1 : List Nat} {pos : Pos} {it it1 : DI} {t t1 : Tg} {tt tt1 : DT} {te : DE} (hc : X.calm = true) (hN : X.N.Nodup) (hy : X.N[i]? = some y) (hyl : X.env.scope.names.lookup y = some .local)
    (hsw : swapsWith (.ListComp elt [⟨tg, iter, ifs, 0⟩, ⟨tg1, iter1, ifs1, 0⟩] scope pos) (some (.Name y py)) spos.line X.env = pure true) (hi : PI X tg iter (tI X.K x it)) (ok : BlkOk X.N X.env.scope scope own) (hsv : ∀ i ∈ vs1, i ∈ own.map (·.2)) (hv : ∀ i ∈ t.ix, i ∈ own.map (·.2)) (hv1 : ∀ i ∈ t1.ix, i ∈ vs1)
    (hg : ∀ s H C cl fp, TgOk (Blk X scope s H C cl fp) tg t) (ht : ∀ s H C cl fp, PTs (Blk X scope s H C cl fp) ifs (tT X.K x.no tt)) (hi1 : ∀ s H C cl fp, PI (Blk X scope s H C cl fp) tg1 iter1 (tI X.K x.no it1)) (hg1 : ∀ s H C cl fp, TgOk (Blk X scope s H C cl fp) tg1 t1)
    (ht1 : ∀ s H C cl fp, PTs (Blk X scope s H C cl fp) ifs1 (tT X.K x.no tt1)) (he : ∀ s H C cl fp, PE (Blk X scope s H C cl fp) elt (tS X.K x.no te)) (hs : ∀ v, foldedSetIterable iter X.env v = pure v) (hs1 : ∀ env v, foldedSetIterable iter1 env v = pure v) :
    PS X (.Assign [.Name y py] (.ListComp elt [⟨tg, iter, ifs, 0⟩, ⟨tg1, iter1, ifs1, 0⟩] scope pos) spos) (tSt X.K x (setS i (lcD2 (own.map (·.2)) vs1 it t tt it1 t1 tt1 te))) :=
  (ps_setLc2 hc hN hy hyl hsw hi ok hsv (fun s H C cl fp => pg_of (X := Blk X scope s H C cl fp) hc (hg s H C cl fp)) ht hi1 (fun s H C cl fp => pg_of (X := Blk X scope s H C cl fp) hc (hg1 s H C cl fp)) ht1 he hs hs1).imp fun En σ H q => tLc2_of hv hv1 hsv σ H _ (tAsg_of En σ H q)
end
end PV
set_option maxHeartbeats 4000000
/-! Stores: o[i] = v, several at once; methods that change their object. -/
namespace PV
open PySem PySem.Spec PyProof.Rows L2

/-- a store of a frozen value -/
abbrev DP := D → S → R Unit
def pN (i : Nat) : DP := fun d st => .ok () (stS i (false, d) st)
def dputK {κ : Type} [DecidableEq κ] (ks : List κ) (k : κ) : List κ := if k ∈ ks then ks else ks ++ [k]
def dputV {κ : Type} [DecidableEq κ] (ks : List κ) (vs : List D) (k : κ) (v : D) : List D := if k ∈ ks then List.zipWith (fun j d => if j = k then v else d) ks vs else vs ++ [v]
def ddropK {κ : Type} [DecidableEq κ] (ks : List κ) (k : κ) : List κ := ks.filter fun j => decide (j ≠ k)
def ddropV {κ : Type} [DecidableEq κ] (ks : List κ) (vs : List D) (k : κ) : List D := ((ks.zip vs).filter fun p => decide (p.1 ≠ k)).map (·.2)
/-- o[i] = v -/
def kPut : D → D → D → Option D
  | .lst ds, .int i, v => (ixN ds.length i).map fun j => .lst (ds.set j v)
  | .dK ks ds, k, v => if ks.length < 1000000 then (dkey k).map fun k => .dK (dputK ks k) (dputV ks ds k v) else none
  | .dT ks ds, k, v => if ks.length < 1000000 then (tkey k).map fun k => .dT (dputK ks k) (dputV ks ds k v) else none
  | _, _, _ => none
def onOw (i : Nat) (k : D → Option D) (st : S) : R Unit := match st.env[i]? with
  | some (.ow z) => (match k z with | some z' => .ok () { st with env := st.env.set i (.ow z') } | none => .bad)
  | _ => .bad
def pSub (i : Nat) (f : DE) : DP := fun d st => match bor i st with
  | none => .bad
  | some _ => (f st).bind fun a st => onOw i (fun z => kPut z a.2 d) st
def pAll : List DP → List D → S → R Unit
  | [], [], st => .ok () st
  | p :: ps, d :: ds, st => (p d st).bind fun _ st => pAll ps ds st
  | _, _, _ => .bad
def pTup (ps : List DP) : DP := fun d st => match d with
  | .tup ds => if ds.length = ps.length then pAll ps ds st else .bad
  | _ => .bad

section
variable {K : PySem.W.Frag} {x : XC} {c : C} {g g' : G} {σ : L2.St} {H : Hp} {st : S}
def PU (K : PySem.W.Frag) (x : XC) (c : C) (g : G) (Q : L2.St → Hp → Prop) : R Unit → Prop
  | .ok _ st => ∀ σ g' H', g.Le g' → Rel K c g' σ H' st → Q σ H'
  | .ex e w => XP K x c g e w
  | .bad => False
theorem PU.mono {Q : L2.St → Hp → Prop} {r : R Unit} (h : PU K x c g Q r) (l : g.Le g') : PU K x c g' Q r := by
  cases r with
  | ok a st => exact fun σ g2 H2 l2 => h σ g2 H2 (l.trans l2)
  | ex e w => exact XP.mono h l
  | bad => exact h
theorem PU.of {α β : Type} {A' : G → Hp → S → α → β → Prop} {Q : L2.St → Hp → Prop} {Q' : β → Hp → Prop} {r : R α} {k : α → S → R Unit} (h : PU K x c g Q (r.bind k))
    (step : ∀ a st' b g' H', g.Le g' → Rel K c g' σ H' st' → A' g' H' st' a b → PU K x c g' Q (k a st') → Q' b H') : Post K x c g σ A' Q' r := by
  cases r with
  | ok a st => exact fun b g' H' l r q => step a st b g' H' l r q (PU.mono h l)
  | ex e w => exact h
  | bad => exact h
def gP (K : PySem.W.Frag) (x : XC) (p : DP) : TG := fun v σ H Q => ∃ c g st d, Rel K c g σ H st ∧ Dn K g v d ∧ PU K x c g Q (p d st)
def gPs (K : PySem.W.Frag) (x : XC) (ps : List DP) : TGs := fun vs σ H Q => ∃ c g st ds, Rel K c g σ H st ∧ DnAll K g vs ds ∧ PU K x c g Q (pAll ps ds st)
end

section
variable {K : PySem.W.Frag} {g : G} {κ : Type} [DecidableEq κ]
theorem putK_keys (kvs : List (κ × V)) (k : κ) (v : V) : (putK kvs k v).map (·.1) = dputK (kvs.map (·.1)) k := by
  unfold putK dputK
  by_cases h : k ∈ kvs.map (·.1)
  · have h2 : (kvs.any fun kv => decide (kv.1 = k)) = true := by
      obtain ⟨p, hp, e⟩ := List.mem_map.mp h
      exact List.any_eq_true.mpr ⟨p, hp, decide_eq_true e⟩
    rw [if_pos h2, if_pos h, List.map_map]
    refine List.map_congr_left fun p _ => ?_
    by_cases e : p.1 = k
    · show (if p.1 = k then (p.1, v) else p).1 = p.1
      rw [if_pos e]
    · show (if p.1 = k then (p.1, v) else p).1 = p.1
      rw [if_neg e]
  · have h2 : ¬ (kvs.any fun kv => decide (kv.1 = k)) = true := fun q => by
      obtain ⟨p, hp, e⟩ := List.any_eq_true.mp q
      exact h (List.mem_map.mpr ⟨p, hp, of_decide_eq_true e⟩)
    rw [if_neg h2, if_neg h, List.map_append]; rfl
theorem putK_vals {kvs : List (κ × V)} {k : κ} {v : V} {ds : List D} {d : D} (ra : DnAll K g (kvs.map (·.2)) ds) (dv : Dn K g v d) : DnAll K g ((putK kvs k v).map (·.2)) (dputV (kvs.map (·.1)) ds k d) := by
  unfold putK dputV
  by_cases h : k ∈ kvs.map (·.1)
  · have h2 : (kvs.any fun kv => decide (kv.1 = k)) = true := by
      obtain ⟨p, hp, e⟩ := List.mem_map.mp h
      exact List.any_eq_true.mpr ⟨p, hp, decide_eq_true e⟩
    rw [if_pos h2, if_pos h, List.map_map]
    clear h h2
    induction kvs generalizing ds with
    | nil => cases ra; exact .nil
    | cons p r ih =>
      cases ra with
      | cons h1 h2 =>
        refine .cons ?_ (ih h2)
        show Dn K g (if p.1 = k then (p.1, v) else p).2 (if p.1 = k then d else _)
        by_cases e : p.1 = k
        · rw [if_pos e, if_pos e]; exact dv
        · rw [if_neg e, if_neg e]; exact h1
  · have h2 : ¬ (kvs.any fun kv => decide (kv.1 = k)) = true := fun q => by
      obtain ⟨p, hp, e⟩ := List.any_eq_true.mp q
      exact h (List.mem_map.mpr ⟨p, hp, of_decide_eq_true e⟩)
    rw [if_neg h2, if_neg h, List.map_append]
    exact ra.append (.cons dv .nil)
theorem dropK_keys (kvs : List (κ × V)) (k : κ) : (dropK kvs k).map (·.1) = ddropK (kvs.map (·.1)) k := by
  unfold dropK ddropK; rw [List.filter_map]; rfl
theorem dropK_vals {k : κ} : ∀ {kvs : List (κ × V)} {ds : List D}, DnAll K g (kvs.map (·.2)) ds → DnAll K g ((dropK kvs k).map (·.2)) (ddropV (kvs.map (·.1)) ds k)
  | [], _, .nil => .nil
  | p :: r, _, .cons h1 h2 => by
    have ih := dropK_vals (k := k) h2
    unfold dropK ddropV at ih ⊢
    rw [List.map_cons, List.zip_cons_cons, List.filter_cons, List.filter_cons]
    by_cases e : p.1 = k
    · have e1 : ¬ decide (p.1 ≠ k) = true := fun z => of_decide_eq_true z e
      rw [if_neg e1, if_neg e1]; exact ih
    · have e1 : decide (p.1 ≠ k) = true := decide_eq_true e
      rw [if_pos e1, if_pos e1]; exact .cons h1 ih
end
section
variable {X : Cx} {x : XC} {c : C} {g : G} {σ : L2.St} {H : Hp} {st : S} {e o ei : Expr} {pos pos' : Pos}
def rDPut : V → V → V → Hp → (Hp → Prop) → Prop := fun o i v H Q => ∃ a H', o = .ref a ∧ DPut H a i v H' ∧ Q H'
theorem set_dict (hu : X.A.units + 1 < cLine) : PSet X rDPut := by
  intro pins s σ H o i v ov iv u Q I ro ri rv h
  obtain ⟨a, H', rfl, hp, q⟩ := h
  cases ro
  exact d_setItem hu I hp ri rv fun s' I' => ⟨H', I', q⟩
theorem PSet.or {t t' : TSet} (h : PSet X t) (h' : PSet X t') : PSet X (fun o i v H Q => t o i v H Q ∨ t' o i v H Q) := fun pins s σ H o i v ov iv u Q I ro ri rv q => q.elim (h pins s σ H o i v ov iv u Q I ro ri rv) (h' pins s σ H o i v ov iv u Q I ro ri rv)
/-- the store, by its reading: what is owned there becomes z' -/
theorem put_of {K : PySem.W.Frag} {σ : L2.St} {i : Nat} {z z' de dv : D} {v0 vi v : V} {Q : Hp → Prop} (r : Rel K c g σ H st) (e1 : st.env[i]? = some (.ow z)) (e2 : σ[i]? = some (some v0)) (di : Dn K g vi de) (hv : Dn K g v dv) (hk : kPut z de dv = some z')
    (q : ∀ H', Rel K c g σ H' { st with env := st.env.set i (.ow z') } → Q H') : rSetL v0 vi v H Q ∨ rDPut v0 vi v H Q := by
  obtain ⟨p, o, e3, hp, ho, hF, hH, hw⟩ := r.sl i _ e1
  rw [e2] at e3; cases e3
  cases z with
  | lst ds =>
    cases ho with
    | @lst vs _ ra =>
      cases de with
      | int k =>
        have hk : (ixN ds.length k).map (fun j => D.lst (ds.set j dv)) = some z' := hk
        rw [Option.map_eq_some_iff] at hk
        obtain ⟨j, hj, rfl⟩ := hk
        cases di
        exact .inl ⟨p, vs, k, j, rfl, rfl, hp, by rw [ra.length]; exact hj, q _ (r.mutate e1 e2 (.lst (ra.set j hv)))⟩
      | _ => cases hk
  | dK ks ds =>
    cases ho with
    | @dK kvs _ _ hks ra =>
      subst hks
      have hk : (if (kvs.map (·.1)).length < 1000000 then (dkey de).map fun k => D.dK (dputK (kvs.map (·.1)) k) (dputV (kvs.map (·.1)) ds k dv) else none) = some z' := hk
      by_cases hl : (kvs.map (·.1)).length < 1000000
      · rw [if_pos hl, Option.map_eq_some_iff] at hk
        obtain ⟨k, hk', rfl⟩ := hk
        have ek := Bn.key (H := H) (.inl di) hk'
        refine .inr ⟨p, _, rfl, .inl ⟨kvs, k, hp, ek, by rw [List.length_map] at hl; rw [sizeLine_eq]; omega, rfl⟩, q _ (r.mutate e1 e2 ?_)⟩
        exact .dK (putK_keys kvs k v).symm (putK_vals ra hv)
      · rw [if_neg hl] at hk; cases hk
  | dT ks ds =>
    cases ho with
    | @dT kvs _ _ hks ra =>
      subst hks
      have hk : (if (kvs.map (·.1)).length < 1000000 then (tkey de).map fun k => D.dT (dputK (kvs.map (·.1)) k) (dputV (kvs.map (·.1)) ds k dv) else none) = some z' := hk
      by_cases hl : (kvs.map (·.1)).length < 1000000
      · rw [if_pos hl, Option.map_eq_some_iff] at hk
        obtain ⟨k, hk', rfl⟩ := hk
        obtain ⟨b, rfl, hb, _⟩ := Bn.tkey r.toFin (.inl di) hk'
        refine .inr ⟨p, _, rfl, .inr ⟨kvs, k, b, hp, rfl, hb, by rw [List.length_map] at hl; rw [sizeLine_eq]; omega, rfl⟩, q _ (r.mutate e1 e2 ?_)⟩
        exact .dT (putK_keys kvs k v).symm (putK_vals ra hv)
      · rw [if_neg hl] at hk; cases hk
  | _ => cases hk
theorem sP_name {i : Nat} {y : Str} (ok : StOk X i y) : PG X (.Name y pos) (gP X.K x (pN i)) := ⟨fun pins s σ H v u Q I r h => (pg_name (pos := pos) ok.nd ok.at_ ok.loc ok.own).run pins s σ H v u Q I r (by
  obtain ⟨c, g, st, d, rl, dv, q⟩ := h
  exact q _ g H (.refl g) (rl.store i (a := (false, d)) dv))⟩
theorem onOw_some {i : Nat} {k : D → Option D} {st st' : S} {u : Unit} (h : onOw i k st = .ok u st') : ∃ z z', st.env[i]? = some (.ow z) ∧ k z = some z' ∧ st' = { st with env := st.env.set i (.ow z') } := by
  unfold onOw at h
  split at h
  · rename_i z e
    split at h
    · rename_i z' e'
      cases h
      exact ⟨z, z', e, e', rfl⟩
    · cases h
  · cases h
theorem onOw_ok (i : Nat) (k : D → Option D) (st : S) : (∃ st', onOw i k st = .ok () st') ∨ onOw i k st = .bad := by
  unfold onOw
  split
  · split
    · exact .inl ⟨_, rfl⟩
    · exact .inr rfl
  · exact .inr rfl
theorem sP_sub {i : Nat} {k : Nat} {f : DE} (hr : Room k X.A) (ho : PE X o (tVar i)) (hi : PE X ei (tS X.K x f)) (hs : isSl ei = false) : PG X (.Subscript o ei pos) (gP X.K x (pSub i f)) := by
  have hu : X.A.units + 1 < cLine := by have := hr.units; omega
  have base := pg_sub (pos := pos) ho hi (PSet.or set_list (set_dict hu)) (by intro v; cases ei <;> first | rfl | cases hs)
  refine ⟨fun pins s σ H v u Q I r h => base.run pins s σ H v u Q I r ?_⟩
  obtain ⟨c, g, st, d, rl, dv, q⟩ := h
  unfold pSub at q
  cases hb : bor i st with
  | none => rw [hb] at q; exact q.elim
  | some z0 =>
    rw [hb] at q
    obtain ⟨v0, h1, _⟩ := rl.bor hb
    refine ⟨v0, h1, c, g, st, rl, q.of fun a st1 vi g1 H1 l1 r1 h2 q1 => ?_⟩
    obtain ⟨g2, l2, r2, di⟩ := h2.fz r1
    have q1 := q1.mono l2
    rcases onOw_ok i (fun z => kPut z a.2 d) st1 with ⟨st2, e⟩ | e
    · rw [e] at q1
      obtain ⟨z, z', e1, e2, rfl⟩ := onOw_some e
      exact put_of r2 e1 h1 di (dv.mono (l1.trans l2)) e2 fun H' r' => q1 σ g2 H' (.refl g2) r'
    · rw [e] at q1; exact q1.elim
theorem sPs_nil : PGs X [] (gPs X.K x []) := ⟨fun pins s σ H vs us Q I r h => pgs_nil.run pins s σ H vs us Q I r (by
  obtain ⟨c, g, st, ds, rl, dn, q⟩ := h
  cases ds with
  | nil => cases dn; exact ⟨rfl, q σ g H (.refl g) rl⟩
  | cons d ds => exact q.elim)⟩
theorem sPs_cons {p : DP} {ps : List DP} {es : List Expr} (h1 : PG X e (gP X.K x p)) (h2 : PGs X es (gPs X.K x ps)) (hs : (assignEach (e :: es) X.env).map (·.2) = assign e X.env :: (assignEach es X.env).map (·.2)) : PGs X (e :: es) (gPs X.K x (p :: ps)) :=
  ⟨fun pins s σ H vs us Q I r h => (pgs_cons h1 h2 hs).run pins s σ H vs us Q I r (by
    obtain ⟨c, g, st, ds, rl, dn, q⟩ := h
    cases ds with
    | nil => exact q.elim
    | cons d ds =>
      cases dn with
      | @cons v vs _ _ dv dn =>
        refine ⟨v, vs, rfl, c, g, st, d, rl, dv, ?_⟩
        have q : PU X.K x c g Q ((p d st).bind fun _ st => pAll ps ds st) := q
        cases hp : p d st with
        | bad => rw [hp] at q; exact q
        | ex e w => rw [hp] at q; exact q
        | ok u st1 =>
          rw [hp] at q
          exact fun σ' g' H' l r' => ⟨c, g', st1, ds, r', dn.mono l, PU.mono q l⟩)⟩
theorem sP_tup (hc : X.calm = true) {ps : List DP} {es : List Expr} {k n : Nat} (h : PGs X es (gPs X.K x ps)) (hn : (assignEach es X.env).length = n) (hl : ps.length = n) (hst : (assignEach es X.env).findIdx? (·.1) = none) : PG X (.Tuple es k pos) (gP X.K x (pTup ps)) :=
  ⟨fun pins s σ H v u Q I r h' => (pg_tup (k := k) (pos := pos) hc h hn hst).run pins s σ H v u Q I r (by
    obtain ⟨c, g, st, d, rl, dv, q⟩ := h'
    cases d with
    | tup ds =>
      cases dv with
      | @tup a xs _ ht ra =>
        have q : PU X.K x c g Q (if ds.length = ps.length then pAll ps ds st else .bad) := q
        by_cases e : ds.length = ps.length
        · rw [if_pos e] at q
          exact ⟨a, xs, rfl, rl.toFin.sqT ht.sqT, by rw [ra.length, e, hl], c, g, st, ds, rl, ra, q⟩
        · rw [if_neg e] at q; exact q.elim
    | _ => exact q.elim)⟩
/-- target = value -/
def asgP (p : DP) (f : DE) : DS := fun st => (f st).bind fun a st => (p a.2 st).bind fun _ st => .ok .nx st
theorem s_asg {t : Expr} {p : DP} {f : DE} (he : PE X e (tS X.K x f)) (hg : PG X t (gP X.K x p)) (hs : swapsWithSole [t] e pos.line X.env = pure false) (hw : swappedStores [t] e X.env = pure none) (h1 : (assignEach [t] X.env).map (·.2) = [assign t X.env]) :
    PS X (.Assign [t] e pos) (tSt X.K x (asgP p f)) := (ps_asg he hg hs hw h1).imp fun En σ H ⟨c, g, st, r, q⟩ => by
  unfold asgP at q
  refine PostS.expr r q fun a st1 v g1 H1 l1 r1 h1 q1 => ?_
  obtain ⟨g2, l2, r2, d2⟩ := h1.fz r1
  have q1 := q1.mono l2
  refine ⟨c, g2, st1, a.2, r2, d2, ?_⟩
  cases hp : p a.2 st1 with
  | bad => rw [hp] at q1; exact q1
  | ex e w => rw [hp] at q1; exact q1
  | ok u st2 =>
    rw [hp] at q1
    exact fun σ' g' H' l r' => q1 σ' g' H' l r'
end
end PV
set_option maxHeartbeats 4000000
/-! Several names at once, each keeping its new object; methods that change an object. -/
namespace PV
open PySem PySem.Spec PyProof.Rows L2

section
variable {K : PySem.W.Frag} {x : XC} {c : C} {g g' : G} {σ : L2.St} {H H' : Hp} {st : S} {p : Addr} {o : HO} {d : D} {w w' : W}
theorem Fin.unguard (f0 : Fin K c g H w) (n : NewAt K c g σ H st p o d) (l : g.Le g') (f : Fin K (c.wth p o) g' H' w') : Fin K c g' H' w' := by
  have hH0 : (c.wth p o).H0 p = some o := upd_same
  refine ⟨f.fh, fun a u e t m w => ?_, f.le, fun a u e => ?_, f.wr, f.wf, fun z a w => ?_, fun a ps e => ?_, f.tt, f.th, f.nt⟩
  · have q : a ≠ p := fun q => by subst q; rw [n.H0] at e; cases e
    refine f.kp a u ?_ t m w
    show L2.upd c.H0 p o a = _
    rw [upd_ne q]; exact e
  · rcases f.nf a u e with z | z | z
    · exact .inl z
    · have q : a ≠ p := fun q => by subst q; rw [hH0] at z; cases z
      have z : L2.upd c.H0 p o a = none := z
      rw [upd_ne q] at z
      exact .inr (.inl z)
    · exact .inr (.inr z)
  · have y : (c.wth p o).H0 a = none := f.wn z a w
    have q : a ≠ p := fun q => by subst q; rw [hH0] at y; cases y
    have y : L2.upd c.H0 p o a = none := y
    rw [upd_ne q] at y; exact y
  · have q : a ≠ p := fun q => by subst q; rw [n.H0] at e; cases e
    refine f.kt a ps ?_
    show L2.upd c.H0 p o a = _
    rw [upd_ne q]; exact e
theorem VlR.unguard {v : V} {a : Vl} (h : VlR K (c.wth p o) g' H' σ st v a) : VlR K c g' H' σ st v a ∧ (a.1 = true → v ≠ .ref p) := by
  obtain ⟨b, d⟩ := a
  cases b with
  | false => exact ⟨h, fun z => nomatch z⟩
  | true =>
    obtain ⟨q, u, rfl, h1, h2, h3, h4, h5, h6⟩ := h
    have hH0 : (c.wth p o).H0 p = some o := upd_same
    have e : q ≠ p := fun e => by subst e; rw [hH0] at h4; cases h4
    have h4 : upd c.H0 p o q = none := h4
    rw [upd_ne e] at h4
    exact ⟨⟨q, u, rfl, h1, h2, h3, h4, h5, h6⟩, fun _ z => e (by cases z; rfl)⟩
/-- a second value is made while a first new object is held -/
theorem PostS.second {En : Ends} {r : R Vl} {k : Vl → S → R Fl} {Q' : VK} (f0 : Fin K c g H st.w) (n : NewAt K c g σ H st p o d) (h : PostS K x c g En (r.bind k))
    (step : ∀ a st' b g' H', g.Le g' → Rel K c g' σ H' st' → NewAt K c g' σ H' st' p o d → VlR K c g' H' σ st' b a → (a.1 = true → b ≠ .ref p) → PostS K x c g' En (k a st') → Q' b H') : Post K x (c.wth p o) g σ (fun g' H' st' a v => VlR K (c.wth p o) g' H' σ st' v a) Q' r := by
  cases r with
  | bad => exact h
  | ex e w => exact fun cls dx g' H' l f xr => h cls dx g' H' l (f0.unguard n l f) xr
  | ok a st' =>
    intro b g' H' l r' hv
    obtain ⟨r2, n2⟩ := Rel.unguard f0 n l r'
    obtain ⟨hv2, ne⟩ := hv.unguard
    exact step a st' b g' H' l r2 n2 hv2 ne (PostS.mono h l)
/-- a new value, or a frozen one: held while another is made -/
theorem hold_then {En : Ends} {f : DE} {k : Vl → S → R Fl} {Q' : VK} {a : Vl} {v : V} (r : Rel K c g σ H st) (hv : VlR K c g H σ st v a) (h : PostS K x c g En ((f st).bind k))
    (step : ∀ b st' u g' H', g.Le g' → Rel K c g' σ H' st' → VlR K c g' H' σ st' v a → VlR K c g' H' σ st' u b → (a.1 = true → b.1 = true → u ≠ v) → PostS K x c g' En (k b st') → Q' u H') : tS K x f σ H Q' := by
  obtain ⟨fr, d⟩ := a
  cases fr with
  | false => exact ⟨c, g, st, r, h.of fun b st' u g' H' l r' hb q => step b st' u g' H' l r' (Dn.mono l hv) hb (fun z => nomatch z) q⟩
  | true =>
    obtain ⟨p, o, rfl, h1, h2, h3, h4, h5, h6⟩ := hv
    have n : NewAt K c g σ H st p o d := ⟨h1, h2, h3, h4, h5, h6⟩
    exact ⟨_, g, st, r.guard n, PostS.second r.toFin n h fun b st' u g' H' l r' n' hb ne q => step b st' u g' H' l r' n'.val hb (fun _ z => ne z) q⟩
/-- a value that another slot takes first -/
theorem VlR.store {v u : V} {a b : Vl} (i : Nat) (hb : VlR K c g H σ st u b) (ne : a.1 = true → b.1 = true → u ≠ v) : VlR K c g H (σ.set i (some v)) (stS i a st) u b := by
  obtain ⟨fb, d⟩ := b
  cases fb with
  | false => exact hb
  | true =>
    obtain ⟨p, o, rfl, h1, h2, h3, h4, h5, h6⟩ := hb
    refine ⟨p, o, rfl, h1, h2, h3, h4, h5, fun j z => ?_⟩
    obtain ⟨⟨d', z1⟩, z2⟩ := z
    rcases get_set_cases (show (st.env.set i (if a.1 = true then .ow a.2 else .fz a.2))[j]? = some (.ow d') from z1) with ⟨e1, e2⟩ | ⟨n, z1⟩
    · subst e1
      rcases get_set_cases z2 with ⟨_, e3⟩ | ⟨n, _⟩
      · cases e3
        by_cases q : a.1 = true
        · exact ne q rfl rfl
        · rw [if_neg q] at e2; cases e2
      · exact n rfl
    · rw [List.getElem?_set_ne n] at z2
      exact h6 j ⟨⟨d', z1⟩, z2⟩
end
section
variable {X : Cx} {x : XC} {a b e3 : Expr} {pos : Pos}
/-- x, y = a, b -/
def parS (i j : Nat) (f h : DE) : DS := fun st => (f st).bind fun a st => (h st).bind fun b st => .ok .nx (stS j b (stS i a st))
theorem s_par {i j : Nat} {y z : Str} {f h : DE} {px py pt pt2 : Pos} {kt k2 : Nat} (hc : X.calm = true) (hN : X.N.Nodup) (hi : X.N[i]? = some y) (hj : X.N[j]? = some z) (hij : i ≠ j) (hy : X.env.scope.names.lookup y = some .local) (hz : X.env.scope.names.lookup z = some .local)
    (ha : PE X a (tS X.K x f)) (hb : PE X b (tS X.K x h)) (hsa : isStar a = false) (hsb : isStar b = false)
    (hw : swappedStores [.Tuple [.Name y px, .Name z py] kt pt] (.Tuple [a, b] k2 pt2) X.env = pure (some [y, z])) (hs : swapsWithSole [.Tuple [.Name y px, .Name z py] kt pt] (.Tuple [a, b] k2 pt2) pos.line X.env = pure false) :
    PS X (.Assign [.Tuple [.Name y px, .Name z py] kt pt] (.Tuple [a, b] k2 pt2) pos) (tSt X.K x (parS i j f h)) :=
  (ps_par hc hN hi hj hij hy hz (pa_cons ha (pa_cons hb pa_nil (starEach_cons hsb)) (starEach_cons hsa)) hw hs).imp fun En σ H ⟨c, g, st, r, q⟩ => by
    unfold parS at q
    refine PostS.expr r q fun a st1 v g1 H1 l1 r1 h1 q1 => ?_
    show tS X.K x h σ H1 _
    refine hold_then r1 h1 q1 fun b st2 u g2 H2 l2 r2 h2 h3 ne q2 => ?_
    exact ⟨v, u, rfl, q2 _ g2 H2 (.refl g2) ((r2.store i h2).store j (h3.store i ne))⟩
end
end PV
set_option maxHeartbeats 4000000
/-! Methods that change an owned object. -/
namespace PV
open PySem PySem.Spec PyProof.Rows L2

section
open DT
variable {prog : Program} {w : World} {κ : Type} [DecidableEq κ] {knd : HeapKind prog w κ}
/-- d.pop(k), there, for keys that stand in the heap -/
theorem popThere {d b : Addr} {k : κ} (hd : (d == sysModules) = false) :
    MeetsIn prog w (Builtin.«dict.pop» ⟨[.ref d, .ref b], []⟩) (fun A R s => ∃ xs p0, knd.room A.in1 ∧ knd.is s.heap k b ∧ s.heap.DictOfH knd d xs ∧ xs.length ≤ sizeLine ∧ atKey xs k = some p0 ∧
      ∀ h' tk, h'.DictOfH knd d (dropH xs k) → Heap.SameBut d s.heap h' → R (.ok (.ret p0.2)) { s with heap := h', toks := tk }) :=
  .of_wp fun A R s ⟨xs, p0, hu, hkey, hm, hsz, h0, hsome⟩ => by
    obtain ⟨o, es, ep, ho, hc, hdat, he, his, hn⟩ := id hm
    have hl : es.size = xs.length := size_of_entries he
    have hpart : (keyPart (Value.ref b)).isSome = false := rfl
    unfold Builtin.«dict.pop»
    refine wpAny_bind ?_
    unfold Builtin.Dict.keyAndDefault
    refine wpAny_bind (wpAny_notOrdered_dict hm.typeIs ?_); show wpAny _ _ (pure (d, Value.ref b, none)) _ _ s
    refine wpAny_pure ?_; simp only [hpart, Bool.false_eq_true, if_false]
    refine wpAny_bind (wpAny_dictEntries ho hdat (wpAny_bind (wpAny_pure ?_)))
    have hem : es.isEmpty = false := by
      cases q : es.isEmpty with
      | false => rfl
      | true =>
        have z : es.size = 0 := by simpa using q
        have : xs = [] := List.length_eq_zero_iff.mp (by omega)
        rw [this] at h0; cases h0
    rw [hem]; simp only [Bool.false_eq_true, if_false]
    refine wpAny_bind (takeH hu hkey hm hsz (fun hno => ?_) fun p e hp hev h' hm' hs' => ?_)
    · rw [h0] at hno; cases hno
    · simp only [Option.isNone_some, Bool.false_eq_true, if_false]
      rw [h0] at hp; cases hp
      exact wpAny_bind (wpAny_letGo (wpAny_pure ⟨e.val, rfl, by rw [hev]; exact hsome h' _ hm' hs'⟩))
end
section
variable {X : Cx}
def rDPop : V → List V → Hp → VK → Prop := fun x xs H Q => (∃ a kvs k v, x = .ref a ∧ xs = [kV k] ∧ H a = some (.dK kvs) ∧ valV kvs k = some v ∧ Q v (upd H a (.dK (dropK kvs k)))) ∨
  ∃ a kvs k b v, x = .ref a ∧ xs = [.ref b] ∧ H a = some (.dT kvs) ∧ H b = some (.tup (k.map kV)) ∧ valV kvs k = some v ∧ Q v (upd H a (.dT (dropK kvs k)))
theorem mt_dpop1 (hu : X.A.units + 1 < cLine) : MtR X "dict.pop" rDPop := by
  intro pins s σ H x xs v us Q I rx rxs h
  rcases h with ⟨a, kvs, k, v0, rfl, rfl, ha, hv, q⟩ | ⟨a, kvs, k, b, v0, rfl, rfl, ha, hb, hv, q⟩
  · cases rx
    obtain ⟨u, rfl, ru⟩ := rxs.one
    exact d_pop I ha ru hv (.inl rfl) fun w' s' I' rw' => ⟨v0, _, I', rw', q⟩
  · cases rx
    obtain ⟨u, rfl, ru⟩ := rxs.one
    cases ru
    obtain ⟨z, hd, xs', rel, dd⟩ := dt_of I.hok ha
    have hz : xs'.length ≤ sizeLine := by rw [← Paired.length rel]; exact z
    have rv := rel.val k
    rw [hv] at rv
    cases hp : atKey xs' k with
    | none => rw [hp] at rv; exact (show False from rv).elim
    | some p0 =>
      rw [hp] at rv
      refine call_meetsIn PySem.F.slot_dict_pop dd.typeIs PySem.F.entry_dict_pop (PySem.F.args_dict_pop_2 _ _) (popThere (knd := tupleKind (mixKind X.prog X.w)) (k := k) hd)
        ⟨xs', p0, tupleKind_room_in1 hu, key_of I.hok hb, dd, hz, hp, fun h' tk dd' hs => ?_⟩
      obtain ⟨o, es, ep, hq, h2, h3, h4, _, h5⟩ := dd'
      have I2 : Inv X pins σ (upd H a (.dT (dropK kvs k))) { s with heap := h', toks := tk } :=
        d_write I (by rw [ha]; exact True.intro) hs ⟨o, hq⟩ ⟨Nat.le_trans (dropK_le kvs k) z, hd, _, (L2.DX.KT_drop k rel).keeps (fun c ys ec => (by rw [upd_ne (ne_of ec ha (fun z => nomatch z))]; exact ec)), o, es, ep, hq, h2, h3, h4, h5⟩
      exact ⟨v0, _, I2, rv, q⟩
end

/-- a method as a function of data: the object then, the value -/
abbrev MD := D → List D → Option (D × D)
def isL : D → Bool | .lst _ => true | _ => false
def isD : D → Bool | .dK _ _ => true | .dT _ _ => true | _ => false
def meE (ty : D → Bool) (i : Nat) (k : MD) (h : DA) : DE := fun st => match st.env[i]? with
  | some (.ow d0) => if ty d0 = true then (h st).bind fun ds st1 => match st1.env[i]? with
      | some (.ow d) => (match k d ds with
        | some (d', r) => .ok (false, r) { st1 with env := st1.env.set i (.ow d') }
        | none => .bad)
      | _ => .bad
    else .bad
  | _ => .bad
/-- a method's reading does what k says -/
def MeD (K : PySem.W.Frag) (r : V → List V → Hp → VK → Prop) (k : MD) : Prop := ∀ (c : C) (g : G) (H : Hp) (w : W) (p : Addr) (o : HO) (vs : List V) (d : D) (ds : List D) (d' z : D) (Q : VK), Fin K c g H w → H p = some o → HoD K g o d → DnAll K g vs ds → k d ds = some (d', z) →
  (∀ o' v, HoD K g o' d' → Dn K g v z → Q v (upd H p o')) → r (.ref p) vs H Q
section
variable {X : Cx} {x : XC} {e : Expr} {es : List Expr} {nm : Expr} {apos cpos : Pos} {name : Str} {T id : String} {r : V → List V → Hp → VK → Prop} {k : MD} {i : Nat} {ty : D → Bool}
theorem me_core {h : DA} {t : TA} {σ : L2.St} {H : Hp} {Q : VK} (m : MeD X.K r k) (hty : ∀ (H : Hp) g p o d, H p = some o → HoD X.K g o d → ty d = true → tyV X.K T (.ref p) H) (q : tS X.K x (meE ty i k h) σ H Q)
    (ht : ∀ (σ : L2.St) H Q, tA X.K x h σ H Q → t σ H Q) : ∃ v, σ[i]? = some (some v) ∧ tyV X.K T v H ∧ t σ H fun xs H2 => r v xs H2 Q := by
  obtain ⟨c, g, st, rl, q⟩ := q
  unfold meE at q
  cases e1 : st.env[i]? with
  | none => rw [e1] at q; exact q.elim
  | some sl =>
    rw [e1] at q
    cases sl with
    | no => exact q.elim
    | fz d => exact q.elim
    | ow d0 =>
      have q : Post X.K x c g σ (fun g' H' st' a v => VlR X.K c g' H' σ st' v a) Q (if ty d0 = true then _ else .bad) := q
      by_cases et : ty d0 = true
      · rw [if_pos et] at q
        obtain ⟨p, o, e2, hp, ho, _⟩ := rl.sl i _ e1
        refine ⟨.ref p, e2, hty H g p o d0 hp ho et, ht σ H _ ⟨c, g, st, rl, q.bind fun ds st1 vs g1 H1 l1 r1 dn q1 => ?_⟩⟩
        cases e3 : st1.env[i]? with
        | none => rw [e3] at q1; exact q1.elim
        | some sl =>
          rw [e3] at q1
          cases sl with
          | no => exact q1.elim
          | fz d => exact q1.elim
          | ow d =>
            dsimp only at q1
            cases ek : k d ds with
            | none => rw [ek] at q1; exact q1.elim
            | some dz =>
              obtain ⟨d', z⟩ := dz
              rw [ek] at q1
              obtain ⟨p', o', e4, hp', ho', _⟩ := r1.sl i _ e3
              rw [e2] at e4; cases e4
              exact m c g1 H1 st1.w p o' vs d ds d' z Q r1.toFin hp' ho' dn ek fun o2 v h2 hv => q1 v g1 _ (.refl g1) (r1.mutate e3 e2 h2) hv
      · rw [if_neg et] at q; exact q.elim
theorem sE_me0 (pa : PlainAttrs T) (slot : Slot T name id) (hty : typeOf (.builtin id) = pure (.type "method_descriptor")) (hm : MtR X id r) (m : MeD X.K r k) (ht : ∀ (H : Hp) g p o d, H p = some o → HoD X.K g o d → ty d = true → tyV X.K T (.ref p) H)
    (ho : PE X nm (tVar i)) (hbase : attributeBase nm name X.env (eval nm X.env) = eval nm X.env) (hline : (apos.endLine == cpos.line) = true) : PE X (.Call (.Attribute nm name apos) [] [] cpos) (tS X.K x (meE ty i k aNil)) :=
  (pe_bm0 pa slot hty hm ho hbase hline).imp fun σ H Q q => by
    obtain ⟨v, e1, e2, e3⟩ := me_core (t := tNil) (r := r) (T := T) m ht q fun σ H Q ⟨c, g, st, r, q⟩ => q [] g H (.refl g) r .nil
    exact ⟨v, e1, e2, e3⟩
theorem sE_me {h : DA} (pa : PlainAttrs T) (slot : Slot T name id) (hty : typeOf (.builtin id) = pure (.type "method_descriptor")) (hm : MtR X id r) (m : MeD X.K r k) (ht : ∀ (H : Hp) g p o d, H p = some o → HoD X.K g o d → ty d = true → tyV X.K T (.ref p) H)
    (ho : PE X nm (tVar i)) (ha : PA X (e :: es) (tA X.K x h)) (hbase : attributeBase nm name X.env (eval nm X.env) = eval nm X.env)
    (hfew : ((backTo cpos (starEach (e :: es) X.env)).all (fun x => !x.1) && (backToKw cpos (keywordEach [] X.env)).all (fun x => x.1.isSome)
      && decide ((e :: es).length + ([] : List Keyword).length + (if ([] : List Keyword).isEmpty then 0 else 1) < 30)) = true)
    (hline : (apos.endLine == cpos.line) = true) (hs : isStar e = false) (hplain : (backTo cpos (starEach es X.env)).any (·.1) = false) : PE X (.Call (.Attribute nm name apos) (e :: es) [] cpos) (tS X.K x (meE ty i k h)) :=
  (pe_bm pa slot hty hm ho ha hbase hfew hline (starEach_cons hs) hplain).imp fun σ H Q q => me_core m ht q fun σ H Q q => q
theorem ty_list : ∀ (H : Hp) g p o d, H p = some o → HoD X.K g o d → isL d = true → tyV X.K "list" (.ref p) H := fun H g p o d hp ho ht => by
  cases ho with
  | lst ra => exact .inl ⟨rfl, _, .inl (.inl hp)⟩
  | dK e ra => cases ht
  | dT e ra => cases ht
theorem ty_dict : ∀ (H : Hp) g p o d, H p = some o → HoD X.K g o d → isD d = true → tyV X.K "dict" (.ref p) H := fun H g p o d hp ho ht => by
  cases ho with
  | lst ra => cases ht
  | dK e ra => exact .inr (.inr (.inl ⟨rfl, .inl ⟨_, hp⟩⟩))
  | dT e ra => exact .inr (.inr (.inl ⟨rfl, .inr ⟨_, hp⟩⟩))
def kAppend : MD
  | .lst xs, [y] => if xs.length < 1000000 then some (.lst (xs ++ [y]), .non) else none
  | _, _ => none
theorem me_append {K : PySem.W.Frag} : MeD K rAppend kAppend := fun c g H w p o vs d ds d' z Q f hp ho dn e q => by
  cases ho with
  | @lst xs zs ra =>
    match ds, dn, e with
    | [], _, e => cases e
    | [y], dn, e =>
      cases dn with
      | cons dv dn =>
      cases dn
      have e : (if zs.length < 1000000 then some (D.lst (zs ++ [y]), D.non) else none) = some (d', z) := e
      by_cases hl : zs.length < 1000000
      · rw [if_pos hl] at e; cases e
        exact ⟨p, xs, _, rfl, rfl, hp, by rw [ra.length, sizeLine_eq]; omega, q _ _ (.lst (ra.append (.cons dv .nil))) .non⟩
      · rw [if_neg hl] at e; cases e
    | a1 :: _ :: _, _, e => (cases a1 <;> cases e)
  | dK _ _ => cases e
  | dT _ _ => cases e
def kExtend : MD
  | .lst xs, [.lst ys] => if xs.length + ys.length < 1000000 then some (.lst (xs ++ ys), .non) else none
  | _, _ => none
theorem me_extend {K : PySem.W.Frag} : MeD K rExtend kExtend := fun c g H w p o vs d ds d' z Q f hp ho dn e q => by
  cases ho with
  | @lst xs zs ra =>
    match ds, dn, e with
    | [], _, e => cases e
    | [y], dn, e =>
      cases dn with
      | cons dv dn =>
      cases dn
      cases y with
      | lst ys =>
        have e : (if zs.length + ys.length < 1000000 then some (D.lst (zs ++ ys), D.non) else none) = some (d', z) := e
        by_cases hl : zs.length + ys.length < 1000000
        · rw [if_pos hl] at e; cases e
          cases dv with
          | @lst b us _ hb rb => exact ⟨p, b, xs, us, rfl, rfl, hp, f.fh _ _ hb, by rw [ra.length, rb.length, sizeLine_eq]; omega, q _ _ (.lst (ra.append rb)) .non⟩
        · rw [if_neg hl] at e; cases e
      | _ => cases e
    | a1 :: _ :: _, _, e => (cases a1 <;> cases e)
  | dK _ _ => cases e
  | dT _ _ => cases e
def kPop : MD
  | .lst xs, [] => (xs[xs.length - 1]?).map fun y => (.lst xs.dropLast, y)
  | _, _ => none
theorem DnAll.dropLast {K : PySem.W.Frag} {g : G} {vs : List V} {ds : List D} (h : DnAll K g vs ds) : DnAll K g vs.dropLast ds.dropLast := by
  rw [List.dropLast_eq_take, List.dropLast_eq_take, h.length]; exact h.take _
theorem me_pop {K : PySem.W.Frag} : MeD K rPop kPop := fun c g H w p o vs d ds d' z Q f hp ho dn e q => by
  cases ho with
  | @lst xs zs ra =>
    match ds, dn, e with
    | [], .nil, e =>
      have e : (zs[zs.length - 1]?).map (fun y => (D.lst zs.dropLast, y)) = some (d', z) := e
      rw [Option.map_eq_some_iff] at e
      obtain ⟨y, e1, e2⟩ := e
      cases e2
      obtain ⟨v, e3, dv⟩ := ra.get e1
      exact ⟨p, xs, v, rfl, rfl, hp, by rw [ra.length]; exact e3, q _ _ (.lst ra.dropLast) dv⟩
    | _ :: _, _, e => cases e
  | dK _ _ => cases e
  | dT _ _ => cases e
def kPopAt : MD
  | .lst xs, [.int i] => if -(2 ^ 63) ≤ i ∧ i < 2 ^ 63 then (ixN xs.length i).bind fun j => (xs[j]?).map fun y => (.lst (xs.eraseIdx j), y) else none
  | _, _ => none
theorem me_popAt {K : PySem.W.Frag} : MeD K rPopAt kPopAt := fun c g H w p o vs d ds d' z Q f hp ho dn e q => by
  cases ho with
  | @lst xs zs ra =>
    match ds, dn, e with
    | [], _, e => cases e
    | [y], dn, e =>
      cases dn with
      | cons dv dn =>
      cases dn
      cases y with
      | int i =>
        have e : (if -(2 ^ 63) ≤ i ∧ i < 2 ^ 63 then (ixN zs.length i).bind fun j => (zs[j]?).map fun y => (D.lst (zs.eraseIdx j), y) else none) = some (d', z) := e
        by_cases hl : -(2 ^ 63) ≤ i ∧ i < 2 ^ 63
        · rw [if_pos hl, Option.bind_eq_some_iff] at e
          obtain ⟨j, e1, e2⟩ := e
          rw [Option.map_eq_some_iff] at e2
          obtain ⟨y, e3, e4⟩ := e2
          cases e4
          cases dv
          obtain ⟨v, e5, dv⟩ := ra.get e3
          exact ⟨p, xs, i, j, v, rfl, rfl, hp, hl.1, hl.2, by rw [ra.length]; exact (ixN_seq e1).1, e5, q _ _ (.lst (ra.erase j)) dv⟩
        · rw [if_neg hl] at e; cases e
      | _ => cases e
    | a1 :: _ :: _, _, e => (cases a1 <;> cases e)
  | dK _ _ => cases e
  | dT _ _ => cases e
def kDPop : MD
  | .dK ks vs, [k] => (dkey k).bind fun k => (dlook ks vs k).map fun z => (.dK (ddropK ks k) (ddropV ks vs k), z)
  | .dT ks vs, [k] => (tkey k).bind fun k => (dlook ks vs k).map fun z => (.dT (ddropK ks k) (ddropV ks vs k), z)
  | _, _ => none
theorem me_dpop {K : PySem.W.Frag} : MeD K rDPop kDPop := fun c g H w p o vs d ds d' z Q f hp ho dn e q => by
  cases ho with
  | lst _ => cases e
  | @dK kvs ks zs hk ra =>
    subst hk
    match ds, dn, e with
    | [], _, e => cases e
    | [y], dn, e =>
      cases dn with
      | cons dv dn =>
      cases dn
      have e : (dkey y).bind (fun k => (dlook (kvs.map (·.1)) zs k).map fun z => (D.dK (ddropK (kvs.map (·.1)) k) (ddropV (kvs.map (·.1)) zs k), z)) = some (d', z) := e
      rw [Option.bind_eq_some_iff] at e
      obtain ⟨k, e1, e2⟩ := e
      rw [Option.map_eq_some_iff] at e2
      obtain ⟨y, e3, e4⟩ := e2
      cases e4
      obtain ⟨v, e5, dv2⟩ := (dlook_valV kvs zs k ra).1 _ e3
      have ek := Bn.key (H := H) (.inl dv) e1
      subst ek
      exact .inl ⟨p, kvs, k, v, rfl, rfl, hp, e5, q _ _ (.dK (dropK_keys kvs k).symm (dropK_vals ra)) dv2⟩
    | a1 :: _ :: _, _, e => (cases a1 <;> cases e)
  | @dT kvs ks zs hk ra =>
    subst hk
    match ds, dn, e with
    | [], _, e => cases e
    | [y], dn, e =>
      cases dn with
      | cons dv dn =>
      cases dn
      have e : (tkey y).bind (fun k => (dlook (kvs.map (·.1)) zs k).map fun z => (D.dT (ddropK (kvs.map (·.1)) k) (ddropV (kvs.map (·.1)) zs k), z)) = some (d', z) := e
      rw [Option.bind_eq_some_iff] at e
      obtain ⟨k, e1, e2⟩ := e
      rw [Option.map_eq_some_iff] at e2
      obtain ⟨y, e3, e4⟩ := e2
      cases e4
      obtain ⟨v, e5, dv2⟩ := (dlook_valV kvs zs k ra).1 _ e3
      obtain ⟨b, rfl, hb, _⟩ := Bn.tkey f (.inl dv) e1
      exact .inr ⟨p, kvs, k, b, v, rfl, rfl, hp, hb, e5, q _ _ (.dT (dropK_keys kvs k).symm (dropK_vals ra)) dv2⟩
    | a1 :: _ :: _, _, e => (cases a1 <;> cases e)
/-- one expression, by either reading, per what stands in the slot -/
def orD (f h : DE) : DE := fun st => match f st with
  | .bad => h st
  | r => r
theorem sE_orD {f h : DE} (h1 : PE X e (tS X.K x f)) (h2 : PE X e (tS X.K x h)) : PE X e (tS X.K x (orD f h)) := (pE_two h1 h2).imp fun σ H Q ⟨c, g, st, r, q⟩ => by
  unfold orD at q
  cases z : f st with
  | bad => rw [z] at q; exact .inr ⟨c, g, st, r, q⟩
  | ok a s => rw [z] at q; exact .inl ⟨c, g, st, r, by rw [z]; exact q⟩
  | ex e w => rw [z] at q; exact .inl ⟨c, g, st, r, by rw [z]; exact q⟩
end
end PV
set_option maxHeartbeats 4000000
/-! A def's body gives what it says. -/
namespace PV
open PySem PySem.Spec PyProof.Rows L2

def startE (n : Nat) (ds : List D) : List Sl := ds.map .fz ++ List.replicate (n - ds.length) .no
/-- a body as a function of data: n names -/
def runDef (n : Nat) (b : DS) : FS := fun ds w => match b { env := startE n ds, w := w, fu := 0 } with
  | .ok .nx st => .ok (false, .non) st.w
  | .ok (.rt a) st => .ok a st.w
  | .ok _ _ => .bad
  | .ex e w => .ex e w
  | .bad => .bad
section
variable {P : Program} {w : World} {K : PySem.W.Frag} {mg : Str → Option Value} {base : Heap}
theorem startE_get {n : Nat} {ds : List D} {i : Nat} {s : Sl} (h : (startE n ds)[i]? = some s) : s = .no ∨ ∃ d, ds[i]? = some d ∧ s = .fz d := by
  unfold startE at h
  by_cases hi : i < ds.length
  · rw [List.getElem?_append_left (by simpa using hi), List.getElem?_map] at h
    cases q : ds[i]? with
    | none => rw [q] at h; cases h
    | some d => rw [q] at h; cases h; exact .inr ⟨d, rfl, rfl⟩
  · rw [List.getElem?_append_right (by simpa using hi), List.getElem?_replicate] at h
    split at h
    · cases h; exact .inl rfl
    · cases h
theorem Rel.begin {g : G} {vs : List V} {ds : List D} {N : List Str} {H : Hp} {ww : W} (dn : DnAll K g vs ds) (ok : Ok0 K g H ww) (hl : ds.length ≤ N.length) :
    Rel K ⟨H, g⟩ g (start N vs) H { env := startE N.length ds, w := ww, fu := 0 } := by
  have noOw : ∀ {i d}, (startE N.length ds)[i]? ≠ some (Sl.ow d) := fun {i d} e => by
    rcases startE_get e with z | ⟨_, _, z⟩ <;> cases z
  refine ⟨.start ok, fun i s e => ?_, ?_, fun i j p a _ => ?_⟩
  · rcases startE_get (show (startE N.length ds)[i]? = some s from e) with rfl | ⟨d, e1, rfl⟩
    · trivial
    · obtain ⟨v, e2, dv⟩ := dn.get e1
      refine ⟨v, ?_, dv⟩
      unfold L2.start
      rw [List.getElem?_append_left (by rw [List.length_map]; exact (List.getElem?_eq_some_iff.mp e2).1), List.getElem?_map, e2]; rfl
  · show (start N vs).length = (startE N.length ds).length
    unfold L2.start startE
    have := dn.length
    rw [List.length_append, List.length_append, List.length_map, List.length_map, List.length_replicate, List.length_replicate]; omega
  · obtain ⟨⟨d, e⟩, _⟩ := a
    exact absurd e noOw
/-- the reading of a body at its entry -/
theorem body_start {xr : Exn → Value → Option Addr → Hp → Prop} {b : DS} {N : List Str} {n : Nat} {vs : List V} {H : Hp} {Q : VK} {E : XK} (hn : n ≤ N.length) (h : spOf K xr n (runDef N.length b) vs H Q E) :
    tSt K ⟨xr, E⟩ b { nx := fun _ H' => Q .non H', rt := Q } (start N vs) H := by
  obtain ⟨l, g, ds, ww, dn, ok, q⟩ := h
  have hl : ds.length ≤ N.length := by rw [← dn.length, l]; exact hn
  refine ⟨⟨H, g⟩, g, _, Rel.begin dn ok hl, ?_⟩
  unfold runDef at q
  cases z : b { env := startE N.length ds, w := ww, fu := 0 } with
  | bad => rw [z] at q; exact q.elim
  | ex e w' => rw [z] at q; exact fun cls dx g' H' l f xr => q cls dx g' H' l f xr
  | ok k st =>
    rw [z] at q
    cases k with
    | nx => exact fun σ' g' H' l r => q .non g' H' l r.toFin .non
    | bk => exact q.elim
    | ct => exact q.elim
    | rt a =>
      intro v σ' g' H' l r hv
      refine q v g' H' l r.toFin ?_
      obtain ⟨fr, d⟩ := a
      cases fr with
      | false => exact hv
      | true =>
        obtain ⟨p, o, rfl, h1, h2, h3, h4, h5, _⟩ := hv
        exact ⟨p, o, rfl, h1, h2, h3, h4, h5⟩
theorem fnG_len {xr : Exn → Value → Option Addr → Hp → Prop} {n : Nat} {fs : FS} {ps : List Str} (hn : ps.length = n) : ∀ vs H Q E, spOf K xr n fs vs H Q E → vs.length = ps.length := fun vs H Q E h => by rw [hn]; exact h.1
/-- what a run of a body, from the entry on, is to say -/
theorem run_bodyC {cx : CXT} {x qual : Str} {st : Stmt} {f : Addr} {fd : FuncData} {N ps : List Str} {k : Nat} {sp : Sp} (F : Fun K x qual st f fd) (S : FnScope N ps (defScope st)) (len : ∀ vs H Q E, sp vs H Q E → vs.length = ps.length)
    (hbody : ∀ (cdv : Value) (A : Around) (outer : List Env) (s : Shared) (H : Hp) (vs : List V) (Q : VK) (E : XK), fd.code = cdv → Room k (A.deeper (envOfC qual (defScope st) s.heap.objs.size f cdv)) → A.guards = some [] → sp vs H Q E →
      ∃ t, PSs (cxOf cx P w K mg base N qual (defScope st) f cdv A outer s H E) (defBody st) t ∧ t { nx := fun _ H' => Q .non H', rt := Q } (start N vs) H) : FnG P w K mg base cx (k + 1) f fd ps sp := by
  obtain ⟨oc, od, kV, doc, pm, an, cdv, ct, osl, rfl, lk, hcd⟩ := F.ex
  refine ⟨len, fun A outer s H args us vs Q E hg hr e0 hb r hsp => ?_⟩
  have old : ∀ b o, base.get? b = some o → s.heap.get? b = some o := fun b o e => (e0.bs b o e).1
  have KX : K.In s.heap := e0.mod.kin.keeps old
  obtain ⟨t, ht, hq⟩ := hbody cdv A outer s H vs Q E rfl (hr.deeper _) hg hsp
  have hkind : ∀ y ∈ ps.zip us, (defScope st).names.lookup y.1 = some .local ∨ ((defScope st).names.lookup y.1 = some .cell ∧ ((cellsFrom (s.heap.objs.size + 1) (defScope st).names []).lookup y.1).isSome = true) := fun y hy =>
    (S.par y.1 (List.of_mem_zip (show (y.1, y.2) ∈ ps.zip us from hy)).1).imp id fun q => ⟨q, PySem.W.cellsFrom_some _ _ _ (.inl q)⟩
  refine codeAny_call_function hr.depth (KX _ _ lk) rfl S.co S.gen rfl (PySem.W.codeRec_of KX hcd) (hb _ _ _ _ (wpAny_newFunctionEnv_cells S.kind hkind fun env he s1 x => ?_))
  subst he
  refine ⟨(e0.mod.nolimit.keeps old).keeps x.toInCall.keep, codeAny_func ?_⟩
  have I := inv_start (CX := cx) (mg := mg) (base := base) (E := E) S hr.hd e0 (len _ _ _ _ hsp) r x
  refine wpAny_mono (ht.run [] s1 (start N vs) H _ I hq) (fun fl s' hs => ?_) fun _ _ q => q
  match fl, hs with
  | .next, ⟨σ', H', J, q⟩ => exact ⟨V.non, H', J.os, J.bare, J.base, J.hok, rfl, q⟩
  | .ret u, ⟨v, σ', H', J, rv, q⟩ => exact ⟨v, H', J.os, J.bare, J.base, J.hok, rv, q⟩
  | .brk, ⟨_, _, _, q⟩ => exact False.elim q
  | .cont, ⟨_, _, _, q⟩ => exact False.elim q
theorem run_body {cx : CXT} {x qual : Str} {st : Stmt} {f : Addr} {fd : FuncData} {N ps : List Str} {k : Nat} {sp : Sp} (F : Fun K x qual st f fd) (S : FnScope N ps (defScope st)) (len : ∀ vs H Q E, sp vs H Q E → vs.length = ps.length)
    (hbody : ∀ (cdv : Value) (A : Around) (outer : List Env) (s : Shared) (H : Hp) (vs : List V) (Q : VK) (E : XK), Room k (A.deeper (envOfC qual (defScope st) s.heap.objs.size f cdv)) → A.guards = some [] → sp vs H Q E →
      ∃ t, PSs (cxOf cx P w K mg base N qual (defScope st) f cdv A outer s H E) (defBody st) t ∧ t { nx := fun _ H' => Q .non H', rt := Q } (start N vs) H) : FnG P w K mg base cx (k + 1) f fd ps sp :=
  run_bodyC F S len fun cdv A outer s H vs Q E _ hr hg hsp => hbody cdv A outer s H vs Q E hr hg hsp
theorem _root_.L2.FnScope.le {N ps : List Str} {sc : Scope} (S : FnScope N ps sc) : ps.length ≤ N.length := by
  have := congrArg List.length S.pre
  rw [List.length_take] at this; omega
/-- a def that raises nothing -/
theorem okG {x qual : Str} {st : Stmt} {f : Addr} {fd : FuncData} {N ps : List Str} {k : Nat} {b : DS} {xr : Exn → Value → Option Addr → Hp → Prop} (F : Fun K x qual st f fd) (S : FnScope N ps (defScope st))
    (hbody : ∀ (cdv : Value) (A : Around) (outer : List Env) (s : Shared) (H : Hp) (E : XK), Room k (A.deeper (envOfC qual (defScope st) s.heap.objs.size f cdv)) → A.guards = some [] →
      PSs (cxOf CX0 P w K mg base N qual (defScope st) f cdv A outer s H E).nox (defBody st) (tSt K ⟨xr, E⟩ b)) : FnG P w K mg base CX0 (k + 1) f fd ps (spOf K xr ps.length (runDef N.length b)) :=
  run_body F S (fnG_len rfl) fun cdv A outer s H vs Q E hr hg hsp => ⟨_, (hbody cdv A outer s H E hr hg).nox, body_start S.le hsp⟩
end
end PV
set_option maxHeartbeats 4000000
/-! Methods of texts, d.get, displays of dicts, slices with a step. -/
namespace PV
open PySem PySem.Spec PyProof.Rows L2

/-! ### texts -/
def dstrs : List D → Option (List Str)
  | [] => some []
  | .str x :: r => (dstrs r).map fun xs => x :: xs
  | _ :: _ => none
theorem dstrs_vs {K : PySem.W.Frag} {g : G} : ∀ {ds : List D} {xs : List Str} {vs : List V}, dstrs ds = some xs → DnAll K g vs ds → vs = xs.map V.str
  | [], _, _, h, .nil => by cases h; rfl
  | .str x :: r, _, _, h, .cons a b => by
    simp only [dstrs, Option.map_eq_some_iff] at h
    obtain ⟨ys, h1, rfl⟩ := h
    cases a
    rw [dstrs_vs h1 b]; rfl
  | .non :: _, _, _, h, _ => by simp [dstrs] at h
  | .bl _ :: _, _, _, h, _ => by simp [dstrs] at h
  | .int _ :: _, _, _, h, _ => by simp [dstrs] at h
  | .lst _ :: _, _, _, h, _ => by simp [dstrs] at h
  | .tup _ :: _, _, _, h, _ => by simp [dstrs] at h
  | .dK _ _ :: _, _, _, h, _ => by simp [dstrs] at h
  | .dT _ _ :: _, _, _, h, _ => by simp [dstrs] at h
  | .hnd :: _, _, _, h, _ => by simp [dstrs] at h
  | .ro _ :: _, _, _, h, _ => by simp [dstrs] at h
/-- o.m(e) of a text -/
def m1S (k : Str → D → Option Vl) (f h : DE) : DE := fun st => (f st).bind fun a st => match a.2 with
  | .str z => (h st).bind fun b st => ofO (k z b.2) st
  | _ => .bad
def joinOk (z : Str) (ys : List Str) : Bool := decide ((ys.map (·.length)).sum + ys.length * z.length ≤ 16777216)
def kJoin (z : Str) (d : D) : Option Vl := match d with
  | .lst ds => (dstrs ds).bind fun ys => if joinOk z ys = true then some (false, .str (Txt.join z ys)) else none
  | .tup ds => (dstrs ds).bind fun ys => if joinOk z ys = true then some (false, .str (Txt.join z ys)) else none
  | _ => none
def kSplit (z : Str) (d : D) : Option Vl := match d with
  | .str y => if (y.length == 0) = false ∧ z.length + 2 ≤ 16777216 then some (true, .lst ((Txt.split z y).map .str)) else none
  | _ => none
def MS (K : PySem.W.Frag) (r : V → List V → Hp → VK → Prop) (k : Str → D → Option Vl) : Prop := ∀ (c : C) (g : G) (σ : L2.St) (H : Hp) (st : S) (z : Str) (u : V) (e : D) (a : Vl) (Q : VK), Rel K c g σ H st → Dn K g u e → k z e = some a →
  (∀ v g' H', g.Le g' → Rel K c g' σ H' st → VlR K c g' H' σ st v a → Q v H') → r (.str z) [u] H Q
section
variable {X : Cx} {x : XC} {o e a b : Expr} {es : List Expr} {pos apos p1 p2 p3 : Pos}
theorem tM1_of {r : V → List V → Hp → VK → Prop} {k : Str → D → Option Vl} {f h : DE} (m : MS X.K r k) : ∀ (σ : L2.St) H Q, tS X.K x (m1S k f h) σ H Q → tM1 r (tS X.K x f) (tS X.K x h) σ H Q := fun σ H Q ⟨c, g, st, rl, q⟩ => by
  unfold m1S at q
  refine ⟨c, g, st, rl, q.bind fun a st1 v g1 H1 l1 r1 h1 q1 => ?_⟩
  obtain ⟨fr, d⟩ := a
  cases d with
  | str z =>
    have dz : v = .str z := by
      cases fr with
      | false => cases h1; rfl
      | true => obtain ⟨p, o, _, _, ho, _⟩ := h1; cases ho
    subst dz
    refine ⟨⟨z, rfl⟩, c, g1, st1, r1, q1.bind fun b st2 u g2 H2 l2 r2 h2 q2 => ?_⟩
    obtain ⟨g2', l2', r2', d2⟩ := h2.fz r2
    have q3 := q2.mono l2'
    cases e : k z b.2 with
    | none => rw [e] at q3; exact q3.elim
    | some w => rw [e] at q3; exact m c g2' σ H2 st2 z u b.2 w Q r2' d2 e fun v' g' H' l r hz => q3 v' g' H' l r hz
  | _ => exact q1.elim
theorem ms_join : MS X.K (fun x xs H Q => ∃ a p, ∃ ys : List Str, x = .str a ∧ xs = [.ref p] ∧ (SqL X.K H p (ys.map V.str) ∨ SqT X.K H p (ys.map V.str)) ∧
    (ys.map (·.length)).sum + ys.length * a.length ≤ 16777216 ∧ Q (.str (Txt.join a ys)) H) kJoin := fun c g σ H st z u e a Q r du he q => by
  cases e with
  | lst ds =>
    have he : (dstrs ds).bind (fun ys => if joinOk z ys = true then some (false, D.str (Txt.join z ys)) else none) = some a := he
    rw [Option.bind_eq_some_iff] at he
    obtain ⟨ys, e1, e2⟩ := he
    by_cases hj : joinOk z ys = true
    · rw [if_pos hj] at e2; cases e2
      cases du with
      | @lst p xs _ hp ra =>
        have := dstrs_vs e1 ra
        subst this
        exact ⟨z, p, ys, rfl, rfl, .inl (.inl (.inl (r.toFin.fh _ _ hp))), of_decide_eq_true hj, q _ g H (.refl g) r (.str _)⟩
    · rw [if_neg hj] at e2; cases e2
  | tup ds =>
    have he : (dstrs ds).bind (fun ys => if joinOk z ys = true then some (false, D.str (Txt.join z ys)) else none) = some a := he
    rw [Option.bind_eq_some_iff] at he
    obtain ⟨ys, e1, e2⟩ := he
    by_cases hj : joinOk z ys = true
    · rw [if_pos hj] at e2; cases e2
      cases du with
      | @tup p xs _ hp ra =>
        have := dstrs_vs e1 ra
        subst this
        exact ⟨z, p, ys, rfl, rfl, .inr (r.toFin.sqT hp.sqT), of_decide_eq_true hj, q _ g H (.refl g) r (.str _)⟩
    · rw [if_neg hj] at e2; cases e2
  | _ => cases he
theorem ms_split : MS X.K (fun x xs H Q => ∃ a b, x = .str a ∧ xs = [.str b] ∧ (b.length == 0) = false ∧ a.length + 2 ≤ sizeLine ∧ rNewStrs (Txt.split a b) H Q) kSplit := fun c g σ H st z u e a Q r du he q => by
  cases e with
  | str y =>
    have he : (if (y.length == 0) = false ∧ z.length + 2 ≤ 16777216 then some (true, D.lst ((Txt.split z y).map .str)) else none) = some a := he
    by_cases hj : (y.length == 0) = false ∧ z.length + 2 ≤ 16777216
    · rw [if_pos hj] at he; cases he
      cases du
      exact ⟨z, y, rfl, rfl, hj.1, by rw [sizeLine_eq]; exact hj.2, fun p hp => q _ g _ (.refl g) (r.new hp) (.new r hp (.lst (.of_strs _)))⟩
    · rw [if_neg hj] at he; cases he
  | _ => cases he
theorem sE_join {f h : DE} (ho : PE X o (tS X.K x f)) (he : PE X e (tS X.K x h)) (hs : isStar e = false) (hbase : attributeBase o "join" X.env (eval o X.env) = eval o X.env) (hline : (apos.endLine == pos.line) = true) : PE X (.Call (.Attribute o "join" apos) [e] [] pos) (tS X.K x (m1S kJoin f h)) :=
  (pe_join ho he (by rw [starEach_cons hs]; rfl) hbase hline).imp (tM1_of ms_join)
theorem sE_split {f h : DE} (ho : PE X o (tS X.K x f)) (he : PE X e (tS X.K x h)) (hs : isStar e = false) (hbase : attributeBase o "split" X.env (eval o X.env) = eval o X.env) (hline : (apos.endLine == pos.line) = true) : PE X (.Call (.Attribute o "split" apos) [e] [] pos) (tS X.K x (m1S kSplit f h)) :=
  (pe_split ho he (by rw [starEach_cons hs]; rfl) hbase hline).imp (tM1_of ms_split)

/-! ### d.get -/
def get2E (o : Opn) (f h : DE) : DE := fun st => (o.go st).bind fun d0 st => if isD d0 = true then (f st).bind fun k st => (h st).bind fun z st => ofO ((o.fin d0 st).bind fun d => (dget d k.2).map fun r => (false, r.getD z.2)) st else .bad
def get1E (o : Opn) (f : DE) : DE := fun st => (o.go st).bind fun d0 st => if isD d0 = true then (f st).bind fun k st => ofO ((o.fin d0 st).bind fun d => (dget d k.2).map fun r => (false, r.getD .non)) st else .bad
theorem OpnR.isD {c : C} {g : G} {σ : L2.St} {H : Hp} {st : S} {v : V} {d : D} {oa : Opn} (h : OpnR X.K g σ v d oa) (r : Rel X.K c g σ H st) (hd : PV.isD d = true) (hf : ∀ i, oa = .var i → bor i st = some d) : ∃ p, v = .ref p ∧ IsD H p := by
  have hb : Bn X.K g H v d := by
    cases oa with
    | var i =>
      obtain ⟨v', h1, h2⟩ := r.bor (hf i rfl)
      have h : σ[i]? = some (some v) := h
      rw [h] at h1; cases h1; exact h2
    | ex f => exact .inl h
  cases d with
  | dK ks vs => obtain ⟨p, kvs, rfl, hr, _⟩ := hb.dK r.toFin; exact ⟨p, rfl, .inl ⟨kvs, hr⟩⟩
  | dT ks vs => obtain ⟨p, kvs, rfl, hr, _⟩ := hb.dT r.toFin; exact ⟨p, rfl, .inr ⟨kvs, hr⟩⟩
  | _ => cases hd
theorem go_bor {i : Nat} {st st' : S} {d : D} (h : (Opn.var i).go st = .ok d st') : bor i st' = some d := by
  have h : ofO (bor i st) st = .ok d st' := h
  cases e : bor i st with
  | none => rw [e] at h; cases h
  | some z => rw [e] at h; cases h; exact e
theorem tO_go {α : Type} {β : Type} {c : C} {g : G} {σ : L2.St} {H : Hp} {st : S} {A : G → Hp → S → α → β → Prop} {Q : β → Hp → Prop} {oa : Opn} {k : D → S → R α} {R0 : VK} (r : Rel X.K c g σ H st) (h : Post X.K x c g σ A Q ((oa.go st).bind k))
    (step : ∀ v d st' g' H', g.Le g' → Rel X.K c g' σ H' st' → OpnR X.K g' σ v d oa → (∀ i, oa = .var i → bor i st' = some d) → Post X.K x c g' σ A Q (k d st') → R0 v H') : tO X.K x oa σ H R0 := by
  cases oa with
  | var i =>
    have h : Post X.K x c g σ A Q ((ofO (bor i st) st).bind k) := h
    cases e : bor i st with
    | none => rw [e] at h; exact h.elim
    | some d =>
      rw [e] at h
      obtain ⟨v, h1, h2⟩ := r.bor e
      exact ⟨v, h1, step v d st g H (.refl g) r h1 (fun j z => by cases z; exact e) h⟩
  | ex f => exact tO_of r h fun v d st' g' H' l r' h' q => step v d st' g' H' l r' h' (fun i z => nomatch z) q
theorem sE_get2 {k : Nat} {oa : Opn} {f h : DE} (hr : Room k X.A) (ho : PE X o (tO X.K x oa)) (ha : PE X a (tS X.K x f)) (hb : PE X b (tS X.K x h)) (m : M2 X o "get" apos a b pos) : PE X (.Call (.Attribute o "get" apos) [a, b] [] pos) (tS X.K x (get2E oa f h)) :=
  (pe_dget2 (by have := hr.units; omega) ho ha hb m).imp fun σ H Q ⟨c, g, st, rl, q⟩ => by
    unfold get2E at q
    refine tO_go rl q fun v d st1 g1 H1 l1 r1 h1 hf q1 => ?_
    by_cases hd : isD d = true
    · rw [if_pos hd] at q1
      obtain ⟨p, rfl, id⟩ := h1.isD r1 hd hf
      refine ⟨p, rfl, id, c, g1, st1, r1, q1.bind fun kx st2 u g2 H2 l2 r2 h2 q2 => ?_⟩
      obtain ⟨g2', l2', r2', d2⟩ := h2.fz r2
      refine ⟨c, g2', st2, r2', (q2.mono l2').bind fun z st3 y g3 H3 l3 r3 h3 q3 => ?_⟩
      obtain ⟨g3', l3', r3', d3⟩ := h3.fz r3
      have q3 := q3.mono l3'
      cases e1 : oa.fin d st3 with
      | none => rw [e1] at q3; exact q3.elim
      | some d' =>
        rw [e1] at q3
        have q3 : Post X.K x c g3' σ _ Q (ofO ((dget d' kx.2).map fun r => (false, r.getD z.2)) st3) := q3
        cases e2 : dget d' kx.2 with
        | none => rw [e2] at q3; exact q3.elim
        | some rr =>
          rw [e2] at q3
          have hb := (h1.mono (((l2.trans l2').trans l3).trans l3')).fin r3' e1
          obtain ⟨p', o', ep, hg, hs, hn⟩ := dget_DGet r3'.toFin hb (.inl (d2.mono (l3.trans l3'))) e2
          cases ep
          refine ⟨o', hg, q3 _ g3' H3 (.refl g3') r3' ?_⟩
          cases rr with
          | none => rw [hn rfl]; exact d3
          | some w => obtain ⟨y', ey, dy⟩ := hs w rfl; rw [ey]; exact dy
    · rw [if_neg hd] at q1; exact q1.elim
theorem sE_get1 {k : Nat} {oa : Opn} {f : DE} (hr : Room k X.A) (ho : PE X o (tO X.K x oa)) (ha : PE X a (tS X.K x f)) (m : M1 X o "get" apos a pos) : PE X (.Call (.Attribute o "get" apos) [a] [] pos) (tS X.K x (get1E oa f)) :=
  (pe_dget1 (by have := hr.units; omega) ho ha m).imp fun σ H Q ⟨c, g, st, rl, q⟩ => by
    unfold get1E at q
    refine tO_go rl q fun v d st1 g1 H1 l1 r1 h1 hf q1 => ?_
    by_cases hd : isD d = true
    · rw [if_pos hd] at q1
      obtain ⟨p, rfl, id⟩ := h1.isD r1 hd hf
      refine ⟨p, rfl, id, c, g1, st1, r1, q1.bind fun kx st2 u g2 H2 l2 r2 h2 q2 => ?_⟩
      obtain ⟨g2', l2', r2', d2⟩ := h2.fz r2
      have q3 := q2.mono l2'
      cases e1 : oa.fin d st2 with
      | none => rw [e1] at q3; exact q3.elim
      | some d' =>
        rw [e1] at q3
        have q3 : Post X.K x c g2' σ _ Q (ofO ((dget d' kx.2).map fun r => (false, r.getD .non)) st2) := q3
        cases e2 : dget d' kx.2 with
        | none => rw [e2] at q3; exact q3.elim
        | some rr =>
          rw [e2] at q3
          have hb := (h1.mono (l2.trans l2')).fin r2' e1
          obtain ⟨p', o', ep, hg, hs, hn⟩ := dget_DGet r2'.toFin hb (.inl d2) e2
          cases ep
          refine ⟨o', hg, q3 _ g2' H2 (.refl g2') r2' ?_⟩
          cases rr with
          | none => rw [hn rfl]; exact .non
          | some w => obtain ⟨y', ey, dy⟩ := hs w rfl; rw [ey]; exact dy
    · rw [if_neg hd] at q1; exact q1.elim
end
end PV
set_option maxHeartbeats 4000000
/-! Displays of dicts, slices with a step, calls by keyword. -/
namespace PV
open PySem PySem.Spec PyProof.Rows L2

/-! ### {k: v, ..} -/
def pairsD : List (DE × DE) → S → R (List (Key × D))
  | [], st => .ok [] st
  | (f, h) :: r, st => (f st).bind fun a st => (h st).bind fun b st => (pairsD r st).bind fun ps st => match dkey a.2 with
    | some k => .ok ((k, b.2) :: ps) st
    | none => .bad
def dictOf (ps : List (Key × D)) : List Key × List D := ps.foldl (fun acc p => (dputK acc.1 p.1, dputV acc.1 acc.2 p.1 p.2)) ([], [])
def dispE (l : List (DE × DE)) : DE := fun st => (pairsD l st).bind fun ps st => if ps.length ≤ 15 then .ok (true, .dK (dictOf ps).1 (dictOf ps).2) st else .bad
/-- pairs of values, as data -/
inductive PairsD (K : PySem.W.Frag) (g : G) : List (V × V) → List (Key × D) → Prop
  | nil : PairsD K g [] []
  | cons {v : V} {k : Key} {d : D} {ps : List (V × V)} {qs : List (Key × D)} : Dn K g v d → PairsD K g ps qs → PairsD K g ((kV k, v) :: ps) ((k, d) :: qs)
theorem PairsD.mono {K : PySem.W.Frag} {g g' : G} (l : g.Le g') {ps : List (V × V)} {qs : List (Key × D)} (h : PairsD K g ps qs) : PairsD K g' ps qs := by
  induction h with
  | nil => exact .nil
  | cons a _ ih => exact .cons (a.mono l) ih
theorem PairsD.split {K : PySem.W.Frag} {g : G} {ps : List (V × V)} {qs : List (Key × D)} (h : PairsD K g ps qs) : ∃ kvs : List (Key × V), ps = kvs.map (fun kv => (kV kv.1, kv.2)) ∧ kvs.length = qs.length ∧
    ∀ acc ks ds, ks = acc.map (·.1) → DnAll K g (acc.map (·.2)) ds → let r := qs.foldl (fun acc p => (dputK acc.1 p.1, dputV acc.1 acc.2 p.1 p.2)) (ks, ds); r.1 = (mergeK acc kvs).map (·.1) ∧ DnAll K g ((mergeK acc kvs).map (·.2)) r.2 := by
  induction h with
  | nil => exact ⟨[], rfl, rfl, fun acc ks ds e ra => ⟨e, ra⟩⟩
  | @cons v k d ps qs dv _ ih =>
    obtain ⟨kvs, rfl, hl, go⟩ := ih
    refine ⟨(k, v) :: kvs, rfl, by rw [List.length_cons, List.length_cons, hl], fun acc ks ds e ra => ?_⟩
    subst e
    exact go (putK acc k v) (dputK (acc.map (·.1)) k) (dputV (acc.map (·.1)) ds k d) (putK_keys acc k v).symm (putK_vals ra dv)
section
variable {X : Cx} {x : XC} {o e a b : Expr} {es : List Expr} {pos apos p1 p2 p3 : Pos}
theorem tPairs_of : ∀ {l : List (DE × DE)} {c : C} {g : G} {σ : L2.St} {H : Hp} {st : S} {Q' : List (V × V) → Hp → Prop}, Rel X.K c g σ H st → Post X.K x c g σ (fun g' _ _ qs ps => PairsD X.K g' ps qs) Q' (pairsD l st) →
    tPairs (l.map fun p => (tS X.K x p.1, tS X.K x p.2)) σ H Q'
  | [], _, g, _, H, _, _, r, q => q [] g H (.refl g) r .nil
  | (f, h) :: l, c, g, σ, H, st, Q', r, q => by
    have q : Post X.K x c g σ _ Q' ((f st).bind fun a st => (h st).bind fun b st => (pairsD l st).bind fun ps st => match dkey a.2 with
      | some k => R.ok ((k, b.2) :: ps) st
      | none => .bad) := q
    refine ⟨c, g, st, r, q.bind fun a st1 v g1 H1 l1 r1 h1 q1 => ?_⟩
    obtain ⟨g1', l1', r1', d1⟩ := h1.fz r1
    refine ⟨c, g1', st1, r1', (q1.mono l1').bind fun b st2 u g2 H2 l2 r2 h2 q2 => ?_⟩
    obtain ⟨g2', l2', r2', d2⟩ := h2.fz r2
    refine tPairs_of r2' ((q2.mono l2').bind fun ps st3 vs g3 H3 l3 r3 h3 q3 => ?_)
    cases e : dkey a.2 with
    | none => rw [e] at q3; exact q3.elim
    | some k =>
      rw [e] at q3
      have ek := Bn.key (H := H3) (.inl d1) e
      subst ek
      exact q3 _ g3 H3 (.refl g3) r3 (.cons (d2.mono l3) h3)
theorem sE_disp {l : List (DE × DE)} {keys : List (Option Expr)} {values : List Expr} (h : PPs X pos keys values (l.map fun p => (tS X.K x p.1, tS X.K x p.2))) (hall : keys.all (·.isSome) = true) (hl : keys.length = values.length) (h0 : keys ≠ [])
    (h15 : keys.length ≤ 15) : PE X (.Dict keys values pos) (tS X.K x (dispE l)) := (pe_disp h hall hl h0 h15).imp fun σ H Q ⟨c, g, st, r, q⟩ => by
  unfold dispE at q
  intro p hp
  obtain ⟨r1, n1⟩ := NewAt.new r hp (o := .dK []) (d := .dK [] []) (.dK rfl .nil)
  refine tPairs_of (r1.guard n1) ?_
  cases z : pairsD l st with
  | bad => rw [z] at q; exact q
  | ex e w => rw [z] at q; exact fun cls dx g' H' l f xr => q cls dx g' H' l (r1.toFin.unguard n1 l f) xr
  | ok qs st2 =>
    rw [z] at q
    intro ps g2 H2 l2 r2 h2
    obtain ⟨r3, n3⟩ := Rel.unguard r1.toFin n1 l2 r2
    obtain ⟨kvs, rfl, hlen, go⟩ := h2.split
    have q : Post X.K x c g σ _ Q (if qs.length ≤ 15 then R.ok (true, D.dK (dictOf qs).1 (dictOf qs).2) st2 else .bad) := q
    by_cases h15' : qs.length ≤ 15
    · rw [if_pos h15'] at q
      obtain ⟨e1, ra⟩ := go [] [] [] rfl .nil
      obtain ⟨r4, n4⟩ := r3.updNew n3 (o' := .dK (mergeK [] kvs)) (d' := .dK (dictOf qs).1 (dictOf qs).2) (.dK e1 ra)
      exact ⟨n3.h, kvs, rfl, by rw [hlen]; exact h15', q (.ref p) g2 _ l2 r4 n4.val⟩
    · rw [if_neg h15'] at q; exact q.elim
theorem sPP_nil : PPs X pos [] [] (([] : List (DE × DE)).map fun p => (tS X.K x p.1, tS X.K x p.2)) := pps_nil
theorem sPP_cons {f h : DE} {l : List (DE × DE)} {k v : Expr} {ks : List (Option Expr)} {vs : List Expr} (hk : PE X k (tS X.K x f)) (hv : PE X v (tS X.K x h)) (hr : PPs X pos ks vs (l.map fun p => (tS X.K x p.1, tS X.K x p.2))) :
    PPs X pos (some k :: ks) (v :: vs) (((f, h) :: l).map fun p => (tS X.K x p.1, tS X.K x p.2)) := pps_cons hk hv hr
/-- {} -/
def newK : DE := fun st => .ok (true, .dK [] []) st
def newT : DE := fun st => .ok (true, .dT [] []) st
theorem sE_newK : PE X (.Dict [] [] pos) (tS X.K x newK) := pe_dnewK.imp fun σ H Q ⟨c, g, st, r, q⟩ p hp => q (.ref p) g _ (.refl g) (r.new hp) (.new r hp (.dK rfl .nil))
theorem sE_newT : PE X (.Dict [] [] pos) (tS X.K x newT) := pe_dnewT.imp fun σ H Q ⟨c, g, st, r, q⟩ p hp => q (.ref p) g _ (.refl g) (r.new hp) (.new r hp (.dT rfl .nil))

/-! ### slices of lists with a step -/
def stepA {α : Type} (xs : List α) (st : Option Int) : List α := (sliceRange (sliceBounds none none st xs.length).1 (sliceBounds none none st xs.length).2.1 (sliceBounds none none st xs.length).2.2).filterMap (xs[·]?)
theorem pick_vals {xs : List V} {us : List Value} (r : Vals xs us) : ∀ l : List Nat, Vals (l.filterMap (xs[·]?)) (l.filterMap (us[·]?))
  | [] => .nil
  | i :: l => by
    have ih := pick_vals r l
    rw [List.filterMap_cons, List.filterMap_cons]
    by_cases h : i < xs.length
    · have e1 : xs[i]? = some xs[i] := List.getElem?_eq_getElem h
      obtain ⟨u, e2, ru⟩ := r.get e1
      rw [e1, e2]
      exact .cons ru ih
    · have hl := r.length
      rw [List.getElem?_eq_none (by omega), List.getElem?_eq_none (by omega)]
      exact ih
theorem pick_dn {K : PySem.W.Frag} {g : G} {xs : List V} {ds : List D} (r : DnAll K g xs ds) : ∀ l : List Nat, DnAll K g (l.filterMap (xs[·]?)) (l.filterMap (ds[·]?))
  | [] => .nil
  | i :: l => by
    have ih := pick_dn r l
    rw [List.filterMap_cons, List.filterMap_cons]
    by_cases h : i < ds.length
    · have e1 : ds[i]? = some ds[i] := List.getElem?_eq_getElem h
      obtain ⟨u, e2, ru⟩ := r.get e1
      rw [e1, e2]
      exact .cons ru ih
    · have hl := r.length
      rw [List.getElem?_eq_none (by omega), List.getElem?_eq_none (by omega)]
      exact ih
def tStep (K : PySem.W.Frag) (i : Int) (te : TE) : TE := fun σ H Q => te σ H fun x H1 => ∃ a xs, x = .ref a ∧ SqL K H1 a xs ∧ ∀ p, H1 p = none → Q (.ref p) (upd H1 p (.lst (stepA xs (some i))))
theorem stepA_le {α : Type} (xs : List α) (i : Int) : (stepA xs (some i)).length ≤ xs.length := by
  unfold stepA
  refine Nat.le_trans (List.length_filterMap_le ..) (sliceRange_length_le _ _ _ _ (fun h => ?_) (fun h => ?_))
  · have h : i > 0 := h
    show 0 ≤ (if i > 0 then (0 : Int) else _) ∧ (if i > 0 then (xs.length : Int) else -1) ≤ xs.length
    rw [if_pos h, if_pos h]; exact ⟨Int.le_refl _, Int.le_refl _⟩
  · have h : ¬ i > 0 := h
    show (if i > 0 then (0 : Int) else (xs.length : Int) - 1) ≤ (xs.length : Int) - 1 ∧ -1 ≤ (if i > 0 then (xs.length : Int) else -1)
    rw [if_neg h, if_neg h]; exact ⟨Int.le_refl _, Int.le_refl _⟩
theorem pe_step {i : Int} (h0 : i ≠ 0) {se : Expr} {te ts : TE} (he : PE X e te) (hst : PO X (some se) (tPart ts)) (hts : ∀ σ H Q, Q (.int i) H → ts σ H Q) : PE X (.Subscript e (.Slice none none (some se) p3) pos) (tStep X.K i te) := by
  refine ⟨fun pins s σ H Q I h => Subscript_ (thn (he.run pins s σ H _ I h) fun v s1 ⟨y, H1, I1, r1, a, xs, ey, hx, q⟩ => ?_)⟩
  subst ey
  cases r1
  refine wpAny_Slice (thn (po_none.run pins s1 σ H1 (fun o H2 => o = none ∧ H2 = H1) I1 ⟨rfl, rfl⟩) fun vl s2 ⟨_, H2, I2, pl, e1, e2⟩ => ?_)
  subst e1 e2
  refine thn (po_none.run pins s2 σ H2 (fun o H3 => o = none ∧ H3 = H2) I2 ⟨rfl, rfl⟩) fun vu s3 ⟨_, H3, I3, pu, e3, e4⟩ => ?_
  subst e3 e4
  refine thn (hst.run pins s3 σ H3 (fun o H4 => o = some i ∧ H4 = H3) I3 (hts _ _ _ ⟨i, rfl, rfl, rfl⟩)) fun vs s4 ⟨_, H4, I4, ps, e5, e6⟩ => ?_
  subst e5 e6
  have I5 : Inv X pins σ H4 { s4 with heap := s4.heap.push { cls := .type "slice", data := .fields #[vl, vu, vs] } } := I4.kept (t' := s4.toks) fun b ob q => Heap.get?_push_of_some _ q
  obtain ⟨its, r, ht, hz⟩ := I5.list hx
  have hlen := r.length
  refine tail_any (ops := [.ref a, .ref s4.heap.objs.size]) ht.isList.typeIs (PySem.slot_list_getitem.lookup) ?_ (by with_unfolding_all rfl)
  refine wpAny_getItem_list_slice ht.isList (Heap.IsSliceOf.new _ vl vu vs) pl pu ps (by simpa using h0) ?_ (by rw [List.size_toArray]; omega)
  have eP : (slicePick its.toArray none none (some i)) = (stepA its (some i)).toArray := by
    unfold slicePick stepA
    rw [List.size_toArray]
    exact congrArg List.toArray (congrArg (fun f => List.filterMap f _) (funext fun j => by simp))
  rw [eP]
  have hv : Vals (stepA xs (some i)) (stepA its (some i)) := by unfold stepA; rw [hlen]; exact pick_vals r _
  exact ⟨.ref _, _, I5.laid (t' := s4.toks) (o := .lst (stepA xs (some i))) (fun b ob q => Heap.get?_push_of_some _ q) (Nat.le_refl _) ⟨Nat.le_trans (stepA_le xs i) hz, _, 0, hv, Heap.get?_push_size _ rfl⟩, rfl, q _ (I5.hok.fresh (Nat.le_refl _))⟩
def stepE (i : Int) (o : Opn) : DE := fun st => (o.go st).bind fun d st => match o.fin d st with
  | some (.lst ds) => .ok (true, .lst (stepA ds (some i))) st
  | _ => .bad
theorem step_of {i : Int} {oa : Opn} : ∀ (σ : L2.St) H Q, tS X.K x (stepE i oa) σ H Q → tStep X.K i (tO X.K x oa) σ H Q := fun σ H Q ⟨c, g, st, rl, q⟩ => by
  unfold stepE at q
  refine tO_of rl q fun v d st1 g1 H1 l1 r1 h1 q1 => ?_
  cases e : oa.fin d st1 with
  | none => rw [e] at q1; exact q1.elim
  | some d' =>
    rw [e] at q1
    have hb := h1.fin r1 e
    cases d' with
    | lst ds =>
      obtain ⟨p, vs, rfl, hp, ra⟩ := hb.lst r1.toFin
      refine ⟨p, vs, rfl, .inl (.inl hp), fun n hn => q1 _ g1 _ (.refl g1) (r1.new hn) (.new r1 hn (.lst ?_))⟩
      unfold stepA; rw [ra.length]; exact pick_dn ra _
    | _ => exact q1.elim
theorem sE_step {i : Int} (h0 : i ≠ 0) {k : Nat} {oa : Opn} (he : PE X e (tO X.K x oa)) : PE X (.Subscript e (.Slice none none (some (.Constant (.int i) k p1)) p3) pos) (tS X.K x (stepE i oa)) :=
  (pe_step h0 he (po_some pe_int) fun _ _ _ q => q).imp step_of
theorem sE_rev {k : Nat} {oa : Opn} (he : PE X e (tO X.K x oa)) : PE X (.Subscript e (.Slice none none (some (.UnaryOp .USub (.Constant (.int 1) k p1) p2)) p3) pos) (tS X.K x (stepE (-1) oa)) :=
  (pe_step (by decide) he (po_some (pe_un un_neg pe_int)) fun _ _ _ q => ⟨1, rfl, q⟩).imp step_of
end
end PV
set_option maxHeartbeats 4000000
/-! Calls by keyword; three names at once; short words for side conditions. -/
namespace PV
open PySem PySem.Spec PyProof.Rows L2

section
variable {X : Cx} {x : XC} {cx : CXT} {k n : Nat} {f : Addr} {fd : FuncData} {ps : List Str} {fs : FS} {y : Str} {p pos kpos : Pos} {e : Expr} {es : List Expr} {kws : List Keyword} {nm : Option Str}
theorem tA_cons_of {f : DE} {h : DA} : ∀ (σ : L2.St) H Q, tA X.K x (aCons f h) σ H Q → tCons (tS X.K x f) (tA X.K x h) σ H Q := fun σ H Q ⟨c, g, st, r, q⟩ => by
  unfold aCons at q
  refine ⟨c, g, st, r, q.bind fun a st1 v g1 H1 l1 r1 h1 q1 => ?_⟩
  obtain ⟨g2, l2, r2, d2⟩ := h1.fz r1
  refine ⟨c, g2, st1, r2, (q1.mono l2).bind fun ds st3 vs g3 H3 l3 r3 h3 q3 => ?_⟩
  exact q3 (v :: vs) g3 H3 (.refl g3) r3 (.cons (d2.mono l3) h3)
theorem sK_nil : PK X [] (tA X.K x aNil) := ⟨fun pos pins s σ H Q I ⟨c, g, st, r, q⟩ => pk_nil.run pos pins s σ H Q I (q [] g H (.refl g) r .nil)⟩
theorem sK_cons {f : DE} {h : DA} (he : PE X e (tS X.K x f)) (hr : PK X kws (tA X.K x h)) : PK X (⟨nm, e, kpos⟩ :: kws) (tA X.K x (aCons f h)) := ⟨fun pos pins s σ H Q I q => (pk_cons he hr).run pos pins s σ H Q I (tA_cons_of σ H Q q)⟩
def perm {α : Type} (ix : List Nat) (l : List α) : List α := ix.filterMap (l[·]?)
def callKE (fs : FS) (ix : List Nat) (h : DA) : DE := callE fs fun st => (h st).bind fun ds st => .ok (perm ix ds) st
theorem sE_callK {ix : List Nat} {ks : List Str} {h : DA} (F : FnG X.prog X.w X.K X.mg X.base cx k f fd ps (spOf X.K x.xr n fs)) (hgd : X.A.guards = some []) (hr : Room k X.A) (hg : Gl X y) (hm : X.mg y = some (.ref f)) (hk : PySem.W.keepIn X.K (.ref f) = true)
    (hb : ∀ (s : Shared) (ws : List Value), ws.length = ks.length → BindsTo s fd ⟨[], ks.zip ws⟩ (ps.zip (perm ix ws))) (hx : Passes cx X x.E) (hp : (ix.all fun i => decide (i < n)) = true ∧ ix.length = n ∧ ks.length = n) (hn : ∀ st ds st', h st = .ok ds st' → ds.length = n)
    (hkw : PK X kws (tA X.K x h)) (hall : (backToKw pos (keywordEach kws X.env)).all (·.1.isSome) = true) (hks : (backToKw pos (keywordEach kws X.env)).filterMap (·.1) = ks)
    (hpl : ((backTo pos (starEach [] X.env)).any (·.1) || (backToKw pos (keywordEach kws X.env)).any (·.1.isNone)) = false) (hdb : (y == ("__debug__" : Str)) = false) : PE X (.Call (.Name y p) [] kws pos) (tS X.K x (callKE fs ix h)) := by
  have plen : ∀ {α : Type} (l : List α), l.length = n → (perm ix l).length = n := fun {α} l hl => by
    have : ∀ ix : List Nat, (ix.all fun i => decide (i < n)) = true → (perm ix l).length = ix.length := by
      intro ix
      induction ix with
      | nil => intro _; rfl
      | cons i ix ih =>
        intro h
        rw [List.all_cons, Bool.and_eq_true] at h
        have hi : i < l.length := by rw [hl]; exact of_decide_eq_true h.1
        show (List.filterMap (l[·]?) (i :: ix)).length = _
        rw [List.filterMap_cons, List.getElem?_eq_getElem hi]
        show (perm ix l).length + 1 = _
        rw [ih h.2]; rfl
    rw [this ix hp.1, hp.2.1]
  refine ⟨fun pins s σ H Q I q => ?_⟩
  have q := tCall_of (X := X) (n := n) (x := x) (fs := fs) (fun st ds st' z => by
    cases zz : h st with
    | bad => rw [zz] at z; cases z
    | ex e w => rw [zz] at z; cases z
    | ok ds0 st0 => rw [zz] at z; cases z; exact plen ds0 (hn _ _ _ zz)) σ H Q q
  refine wpAny_Call_Name_kw (ld_glob I hg hm ?_ hdb)
  refine PySem.W.callWith_KW0 (h₀ := X.base) I.ok.mod.kin hk hall ?_ hpl
  -- the keywords' values, then their order
  have q : tA X.K x (fun st => (h st).bind fun ds st => .ok (perm ix ds) st) σ H (fun vs H1 => spOf X.K x.xr n fs (vs ++ []) H1 Q x.E) := q
  obtain ⟨c, g, st, r, q⟩ := q
  dsimp only at q
  refine thn (hkw.run pos pins s σ H (fun zs H1 => zs.length = n ∧ spOf X.K x.xr n fs (perm ix zs) H1 Q x.E) I ⟨c, g, st, r, ?_⟩) fun ws s2 ⟨zs, H2, I2, rz, hz, q2⟩ => ⟨I2.kIn, ?_⟩
  · cases zz : h st with
    | bad => rw [zz] at q; exact q
    | ex e w => rw [zz] at q; exact q
    | ok ds st2 =>
      rw [zz] at q
      refine fun zs g2 H2 l2 r2 dn => ⟨by rw [dn.length]; exact hn _ _ _ zz, ?_⟩
      have := q (perm ix zs) g2 H2 l2 r2 (pick_dn dn ix)
      have this : spOf X.K x.xr n fs (perm ix zs ++ []) H2 Q x.E := this
      rwa [List.append_nil] at this
  · rw [hks]
    have hws : ws.length = ks.length := by rw [← rz.length, hz, hp.2.2]
    refine wpAny_call (codeAny_mono (F.go X.A X.stack s2 H2 ⟨[] ++ [], ks.zip ws⟩ (perm ix ws) (perm ix zs) Q x.E hgd hr I2.env0 (hb s2 ws hws) (pick_vals rz ix) q2) fun o s' z => ?_)
    match o, z with
    | .error ee, z => exact hx pins σ H2 s2 ee s' I2 z
    | .ok (.ret u), z => exact I2.after z
    | .ok .next, z => exact z.elim
    | .ok .brk, z => exact z.elim
    | .ok .cont, z => exact z.elim
end
end PV
set_option maxHeartbeats 4000000
/-! The world: where the draws come from. -/
namespace PV
open PySem PySem.Spec PyProof.Rows L2

theorem k_ne1 : ¬ ((Sum.inr ("large" : Str) : Key) = .inr "rest") := by decide +kernel
theorem k_ne2 : ¬ ((Sum.inr ("cells" : Str) : Key) = .inr "rest") := by decide +kernel
theorem k_ne3 : ¬ ((Sum.inr ("large" : Str) : Key) = .inr "turn") := by decide +kernel
theorem k_ne4 : ¬ ((Sum.inr ("cells" : Str) : Key) = .inr "turn") := by decide +kernel
theorem k_ne5 : ¬ ((Sum.inr ("rest" : Str) : Key) = .inr "turn") := by decide +kernel
theorem k_ne6 : ¬ ((Sum.inr ("large" : Str) : Key) = .inr "cells") := by decide +kernel
theorem k_ne7 : ¬ ((Sum.inr ("turn" : Str) : Key) = .inr "rest") := by decide +kernel
abbrev drKv (dr : Dr) (l c : Addr) : List (Key × V) := [(.inr "large", .ref l), (.inr "cells", .ref c), (.inr "rest", .int dr.rest), (.inr "turn", .int dr.turn)]
theorem dr_large (dr : Dr) (l c : Addr) : valV (drKv dr l c) (.inr "large") = some (.ref l) := valV_pos rfl
theorem dr_cells (dr : Dr) (l c : Addr) : valV (drKv dr l c) (.inr "cells") = some (.ref c) := by rw [valV_neg k_ne6, valV_pos rfl]
theorem dr_rest (dr : Dr) (l c : Addr) : valV (drKv dr l c) (.inr "rest") = some (.int dr.rest) := by rw [valV_neg k_ne1, valV_neg k_ne2, valV_pos rfl]
theorem dr_turn (dr : Dr) (l c : Addr) : valV (drKv dr l c) (.inr "turn") = some (.int dr.turn) := by rw [valV_neg k_ne3, valV_neg k_ne4, valV_neg k_ne5, valV_pos rfl]
theorem put_cons_ne {κ : Type} [DecidableEq κ] {p : κ × V} {r : List (κ × V)} {k : κ} {v : V} (h : ¬ p.1 = k) : putK (p :: r) k v = p :: putK r k v := by
  unfold putK
  rw [List.any_cons, decide_eq_false h, Bool.false_or]
  by_cases z : (r.any fun kv => decide (kv.1 = k)) = true
  · rw [if_pos z, if_pos z, List.map_cons, if_neg h]
  · rw [if_neg z, if_neg z]; rfl
theorem dr_put_turn (dr : Dr) (l c : Addr) (i : Int) : putK (drKv dr l c) (.inr "turn") (.int i) = drKv { dr with turn := i } l c := by
  rw [put_cons_ne k_ne3, put_cons_ne k_ne4, put_cons_ne k_ne5]
  unfold putK
  rw [if_pos (by simp)]
  simp
theorem dr_put_rest (dr : Dr) (l c : Addr) (i : Int) : putK (drKv dr l c) (.inr "rest") (.int i) = drKv { dr with rest := i } l c := by
  rw [put_cons_ne k_ne1, put_cons_ne k_ne2]
  unfold putK
  rw [if_pos (by simp)]
  simp only [List.map_cons, List.map_nil, if_true, if_neg k_ne7]

/-- the draws that the i-th name holds -/
def hndAt (i : Nat) (st : S) : Option Dr := match st.env[i]? with
  | some (.fz .hnd) => st.w
  | _ => none
section
variable {K : PySem.W.Frag} {c : C} {g : G} {σ : L2.St} {H : Hp} {st : S}
theorem Rel.hnd (r : Rel K c g σ H st) {i : Nat} {dr : Dr} (e : hndAt i st = some dr) : ∃ a l cc, σ[i]? = some (some (.ref a)) ∧ st.w = some dr ∧ g.hm = some (a, l, cc) ∧ H a = some (drO dr l cc) ∧ H l = some (.lst (dr.large.map V.int)) ∧ g.F cc = some (.lst (dr.cells.map V.int)) := by
  unfold hndAt at e
  split at e
  · rename_i h
    obtain ⟨v, e1, dv⟩ := r.sl i _ h
    have w := r.toFin.wr
    rw [e] at w
    obtain ⟨a, l, cc, h0, h1, h2, h3⟩ := w
    cases dv with
    | hnd hh =>
      rw [h0] at hh; cases hh
      exact ⟨a, l, cc, e1, e, h0, h1, h2, h3⟩
  · cases e
/-- an object of the world is changed -/
theorem Rel.wupd (r : Rel K c g σ H st) {p : Addr} {o : HO} {w' : W} (hp : g.wa p) (co : Core o) (hw : WRel g (L2.upd H p o) w') : Rel K c g σ (L2.upd H p o) { st with w := w' } := by
  have f := r.toFin
  have h0 : ∃ u, H p = some u ∧ Core u := by
    obtain ⟨x, y, z, e, hx⟩ := hp
    have q := f.wr
    cases hw' : st.w with
    | none => rw [hw'] at q; rw [show g.hm = none from q] at e; cases e
    | some dr =>
      rw [hw'] at q
      obtain ⟨a, l, c', e', h1, h2, _⟩ := q
      rw [e] at e'; cases e'
      rcases hx with rfl | rfl
      · exact ⟨_, h1, trivial⟩
      · exact ⟨_, h2, trivial⟩
  obtain ⟨u0, h0, c0⟩ := h0
  refine ⟨⟨fun a u e => ?_, fun a u e t m n => ?_, f.le, f.nf, hw, f.wf, f.wn, f.kt, f.tt.core h0 c0, fun a ps e => ?_, f.nt⟩, fun i s e => (r.sl i s e).mono (.refl g) fun q u d e1 e2 e3 _ e5 _ e7 => ⟨?_, e5, e7⟩, r.len, r.dj⟩
  · have q : a ≠ p := fun q => by subst q; rw [f.wf a hp] at e; cases e
    rw [upd_ne q]; exact f.fh a u e
  · have q : a ≠ p := fun q => n (q ▸ hp)
    rw [upd_ne q]; exact f.kp a u e t m n
  · by_cases q : a = p
    · subst q; rw [upd_same] at e; cases e; exact absurd rfl (core_ntbl co ps)
    · rw [upd_ne q] at e; exact f.th a ps e
  · have q' : q ≠ p := fun z => e7 (z ▸ hp)
    rw [upd_ne q']; exact e3
end
section
variable {X : Cx} {x : XC} {nm e : Expr} {pos p1 p2 apos : Pos} {i k j : Nat}
def wgetE (i : Nat) (k : Dr → D) : DE := fun st => match hndAt i st with
  | some dr => .ok (false, k dr) st
  | none => .bad
theorem dget_w {q : Str} {kk : Dr → D} {v0 : Dr → Addr → Addr → V} (hu : X.A.units + 1 < cLine) (hn : PE X nm (tVar i)) (hv : ∀ dr l c, valV (drKv dr l c) (.inr q) = some (v0 dr l c))
    (hd : ∀ (g : G) dr l c, g.F c = some (.lst (dr.cells.map V.int)) → Dn X.K g (v0 dr l c) (kk dr)) : PE X (.Subscript nm (.Constant (.str q) j p1) pos) (tS X.K x (wgetE i kk)) :=
  (pe_dget hu hn pe_str (fun _ _ => rfl)).imp fun σ H Q ⟨c, g, st, r, w⟩ => by
    unfold wgetE at w
    cases z : hndAt i st with
    | none => rw [z] at w; exact w.elim
    | some dr =>
      rw [z] at w
      obtain ⟨a, l, cc, e1, _, _, h1, _, h3⟩ := r.hnd z
      refine ⟨.ref a, e1, a, v0 dr l cc, rfl, ?_, w _ g H (.refl g) r (hd g dr l cc h3)⟩
      have := DGet.k (k := (.inr q : Key)) h1
      rwa [hv] at this
theorem sE_wrest (hr : Room k X.A) (hn : PE X nm (tVar i)) : PE X (.Subscript nm (.Constant (.str "rest") j p1) pos) (tS X.K x (wgetE i fun dr => .int dr.rest)) := dget_w (by have := hr.units; omega) hn dr_rest fun _ _ _ _ _ => .int _
theorem sE_wturn (hr : Room k X.A) (hn : PE X nm (tVar i)) : PE X (.Subscript nm (.Constant (.str "turn") j p1) pos) (tS X.K x (wgetE i fun dr => .int dr.turn)) := dget_w (by have := hr.units; omega) hn dr_turn fun _ _ _ _ _ => .int _
theorem sE_wcells (hr : Room k X.A) (hn : PE X nm (tVar i)) : PE X (.Subscript nm (.Constant (.str "cells") j p1) pos) (tS X.K x (wgetE i fun dr => .lst (dr.cells.map .int))) := dget_w (by have := hr.units; omega) hn dr_cells fun _ _ _ _ h => .lst h (.of_ints _)
def wputS (i : Nat) (up : Dr → Int → Dr) (f : DE) : DS := fun st => (f st).bind fun a st => match a.2, hndAt i st with
  | .int n, some dr => .ok .nx { st with w := some (up dr n) }
  | _, _ => .bad
theorem put_w {q : Str} {up : Dr → Int → Dr} {f : DE} (hu : X.A.units + 1 < cLine) (hn : PE X nm (tVar i)) (he : PE X e (tS X.K x f)) (hs : swapsWith e (some (.Subscript nm (.Constant (.str q) j p1) p2)) pos.line X.env = pure false)
    (hput : ∀ dr l c n, putK (drKv dr l c) (.inr q) (.int n) = drKv (up dr n) l c) (hl : ∀ dr n, (up dr n).large = dr.large) (hc : ∀ dr n, (up dr n).cells = dr.cells) : PS X (.Assign [.Subscript nm (.Constant (.str q) j p1) p2] e pos) (tSt X.K x (wputS i up f)) :=
  (ps_dput hu hn pe_str he hs).imp fun En σ H ⟨c, g, st, r, w⟩ => by
    unfold wputS at w
    refine PostS.expr r w fun a st1 v g1 H1 l1 r1 h1 q1 => ?_
    obtain ⟨g2, l2, r2, d2⟩ := h1.fz r1
    have q1 := q1.mono l2
    obtain ⟨fr, d⟩ := a
    cases d with
    | int n =>
      dsimp only at q1
      cases z : hndAt i st1 with
      | none => rw [z] at q1; exact q1.elim
      | some dr =>
        rw [z] at q1
        obtain ⟨a, l, cc, e1, ew, h0, h1', h2, h3⟩ := r2.hnd z
        cases d2
        refine ⟨.ref a, e1, a, _, rfl, DPut.k (k := (.inr q : Key)) h1' (by show 4 < sizeLine; rw [sizeLine_eq]; omega), ?_⟩
        have nl : l ≠ a := fun e => by rw [e, h1'] at h2; cases h2
        refine q1 σ g2 _ (.refl g2) (r2.wupd ⟨a, l, cc, h0, .inl rfl⟩ trivial ⟨a, l, cc, h0, ?_, ?_, ?_⟩)
        · rw [upd_same, hput]; rfl
        · rw [upd_ne nl, hl]; exact h2
        · rw [hc]; exact h3
    | _ => exact q1.elim
theorem s_wturn {f : DE} (hr : Room k X.A) (hn : PE X nm (tVar i)) (he : PE X e (tS X.K x f)) (hs : swapsWith e (some (.Subscript nm (.Constant (.str "turn") j p1) p2)) pos.line X.env = pure false) : PS X (.Assign [.Subscript nm (.Constant (.str "turn") j p1) p2] e pos) (tSt X.K x (wputS i (fun dr n => { dr with turn := n }) f)) :=
  put_w (by have := hr.units; omega) hn he hs dr_put_turn (fun _ _ => rfl) (fun _ _ => rfl)
theorem s_wrest {f : DE} (hr : Room k X.A) (hn : PE X nm (tVar i)) (he : PE X e (tS X.K x f)) (hs : swapsWith e (some (.Subscript nm (.Constant (.str "rest") j p1) p2)) pos.line X.env = pure false) : PS X (.Assign [.Subscript nm (.Constant (.str "rest") j p1) p2] e pos) (tSt X.K x (wputS i (fun dr n => { dr with rest := n }) f)) :=
  put_w (by have := hr.units; omega) hn he hs dr_put_rest (fun _ _ => rfl) (fun _ _ => rfl)
/-- draw['large'], where it stands -/
theorem pe_wlarge (hr : Room k X.A) (hn : PE X nm (tVar i)) : PE X (.Subscript nm (.Constant (.str "large") j p1) pos) (fun σ H Q => ∃ c g st dr, Rel X.K c g σ H st ∧ hndAt i st = some dr ∧ ∀ a l cc, g.hm = some (a, l, cc) → H a = some (drO dr l cc) → H l = some (.lst (dr.large.map V.int)) → g.F cc = some (.lst (dr.cells.map V.int)) → Q (.ref l) H) :=
  (pe_dget (by have := hr.units; omega) hn pe_str (fun _ _ => rfl)).imp fun σ H Q ⟨c, g, st, dr, r, z, q⟩ => by
    obtain ⟨a, l, cc, e1, _, h0, h1, h2, h3⟩ := r.hnd z
    refine ⟨.ref a, e1, a, .ref l, rfl, ?_, q a l cc h0 h1 h2 h3⟩
    have := DGet.k (k := (.inr "large" : Key)) h1
    rwa [dr_large] at this
/-- draw['large'] != [] -/
def wneT (i : Nat) : DT := fun st => match hndAt i st with
  | some dr => .ok (!dr.large.isEmpty) st
  | none => .bad
/-- draw['large'].pop(0) -/
def wpopE (i : Nat) : DE := fun st => match hndAt i st with
  | some dr => (match dr.large with
    | n :: r => .ok (false, .int n) { st with w := some { dr with large := r } }
    | [] => .bad)
  | none => .bad
theorem sE_wpop {j2 : Nat} {p3 cpos : Pos} (hr : Room k X.A) (hn : PE X nm (tVar i)) (hbase : attributeBase (.Subscript nm (.Constant (.str "large") j p1) pos) "pop" X.env (eval (.Subscript nm (.Constant (.str "large") j p1) pos) X.env) = eval (.Subscript nm (.Constant (.str "large") j p1) pos) X.env)
    (hfew : ((backTo cpos (starEach [.Constant (.int 0) j2 p3] X.env)).all (fun x => !x.1) && (backToKw cpos (keywordEach [] X.env)).all (fun x => x.1.isSome)
      && decide (([.Constant (.int 0) j2 p3] : List Expr).length + ([] : List Keyword).length + (if ([] : List Keyword).isEmpty then 0 else 1) < 30)) = true)
    (hline : (apos.endLine == cpos.line) = true) : PE X (.Call (.Attribute (.Subscript nm (.Constant (.str "large") j p1) pos) "pop" apos) [.Constant (.int 0) j2 p3] [] cpos) (tS X.K x (wpopE i)) :=
  (pe_bm PySem.F.plainAttrs_list PySem.F.slot_list_pop PySem.F.type_list_pop (show MtR X "list.pop" rPopAt from mt_popAt) (pe_wlarge hr hn) (pa_cons pe_int pa_nil rfl) hbase hfew hline rfl rfl).imp fun σ H Q ⟨c, g, st, r, q⟩ => by
    unfold wpopE at q
    cases z : hndAt i st with
    | none => rw [z] at q; exact q.elim
    | some dr =>
      rw [z] at q
      refine ⟨c, g, st, dr, r, z, fun a l cc h0 h1 h2 h3 => ⟨.inl ⟨rfl, _, .inl (.inl h2)⟩, ?_⟩⟩
      cases hl : dr.large with
      | nil => dsimp only at q; rw [hl] at q; exact q.elim
      | cons n rr =>
        dsimp only at q; rw [hl] at q
        rw [hl] at h2
        refine ⟨l, _, 0, 0, .int n, rfl, rfl, h2, by omega, by omega, (ixN_seq (by unfold ixN; simp)).1, rfl, ?_⟩
        have nl : a ≠ l := fun e => by rw [e, h2] at h1; cases h1
        refine q (.int n) g _ (.refl g) (r.wupd ⟨a, l, cc, h0, .inr rfl⟩ trivial ⟨a, l, cc, h0, ?_, ?_, h3⟩) (.int n)
        · rw [upd_ne nl]; exact h1
        · rw [upd_same]; rfl
theorem eqv_nil (ns : List Int) : PyData.eqv (D.lst (ns.map .int)).py (D.lst []).py = ns.isEmpty := by
  cases ns with
  | nil => rfl
  | cons n ns => rfl
theorem sT_wne {cp p3 : Pos} (hr : Room k X.A) (hn : PE X nm (tVar i)) : PT X (.Compare (.Subscript nm (.Constant (.str "large") j p1) pos) [.NotEq] [.List [] p3] cp) (tT X.K x (wneT i)) :=
  (pt_cmpR (op_neP hr.units) (pe_wlarge hr hn) (pe_lst pa_nil) rfl).imp fun σ H Q ⟨c, g, st, r, q⟩ => by
    unfold wneT at q
    cases z : hndAt i st with
    | none => rw [z] at q; exact q.elim
    | some dr =>
      rw [z] at q
      refine ⟨c, g, st, dr, r, z, fun a l cc h0 h1 h2 h3 => ⟨Nat.zero_le _, fun p hp => ?_⟩⟩
      have hl : Bn X.K g (L2.upd H p (.lst [])) (.ref l) (.lst (dr.large.map .int)) := .inr ⟨l, _, rfl, by rw [upd_ne (ne_of_none h2 hp)]; exact h2, .lst (.of_ints _)⟩
      have hp2 : Bn X.K g (L2.upd H p (.lst [])) (.ref p) (.lst []) := .inr ⟨p, _, rfl, upd_same, .lst .nil⟩
      have r2 := r.new (o := .lst []) hp
      have pl : (D.lst (dr.large.map .int)).pl deep = true := by
        show List.all _ _ = true
        rw [List.all_eq_true]; intro d hd
        obtain ⟨n, _, rfl⟩ := List.mem_map.mp hd
        rfl
      refine ⟨_, _, hl.dp r2.toFin pl, hp2.dp r2.toFin (n := deep) rfl, (pl_ok _ _ pl).1, rfl, (pl_ok _ _ pl).2, rfl, ?_⟩
      refine ⟨_, rfl, ?_⟩
      show Q (!PyData.eqv (D.lst (dr.large.map .int)).py (D.lst []).py) _
      rw [eqv_nil]
      exact q _ g _ (.refl g) r2 rfl
/-- {'large': large, 'cells': .., 'rest': 0, 'turn': 0}: the world begins -/
def wnewE (i : Nat) (f : DE) : DE := fun st => match st.env[i]? with
  | some (.ow (.lst ls)) => (f { st with env := st.env.set i .no }).bind fun a st2 => match dints ls, a.2, st2.w with
    | some ns, .lst cs, none => (match dints cs with
      | some ms => .ok (false, .hnd) { st2 with w := some ⟨ns, ms, 0, 0⟩ }
      | none => .bad)
    | _, _, _ => .bad
  | _ => .bad
theorem Rel.worldNew {K : PySem.W.Frag} {c : C} {g : G} {σ : L2.St} {H : Hp} {st : S} {p l cc : Addr} {o1 o2 : HO} {d1 d2 : D} {w' : W} (r : Rel K c g σ H st) (h0 : st.w = none) (n1 : NewAt K c g σ H st p o1 d1) (n2 : NewAt K c g σ H st l o2 d2) {H' : Hp} (hH : ∀ a, a ≠ p → H' a = H a) {o' : HO} (hHp : H' = L2.upd H p o') (co : Core o')
    (hw : WRel { g with hm := some (p, l, cc) } H' w') : g.Le { g with hm := some (p, l, cc) } ∧ Rel K c { g with hm := some (p, l, cc) } σ H' { st with w := w' } := by
  have f := r.toFin
  have hm : g.hm = none := by have := f.wr; rw [h0] at this; exact this
  have hm0 : c.g0.hm = none := by
    cases q : c.g0.hm with
    | none => rfl
    | some t => have := f.le.hm t q; rw [hm] at this; cases this
  have le : g.Le { g with hm := some (p, l, cc) } := ⟨fun _ _ _ h => h, fun _ _ h => h, fun _ _ h => h, fun t h => (by rw [hm] at h; cases h), fun _ o h => ⟨o, h⟩, fun _ _ _ h => h, rfl⟩
  have wa : ∀ a, G.wa { g with hm := some (p, l, cc) } a → a = p ∨ a = l := fun a ⟨x, y, z, e, h⟩ => by cases e; exact h
  have nwa : ∀ a, ¬ g.wa a := fun a ⟨x, y, z, e, h⟩ => by rw [hm] at e; cases e
  have old : ∀ a, H a = some o1 ∨ a ≠ p := fun a => by
    by_cases e : a = p
    · subst e; exact .inl n1.h
    · exact .inr e
  refine ⟨le, ⟨fun a u e => ?_, fun a u e t m n => ?_, f.le.trans le, f.nf, hw, fun a x => ?_, fun _ a x => ?_, f.kt, (by rw [hHp]; exact f.tt.core n1.h n1.ho.core), fun a ps e => ?_, f.nt⟩, fun i s e => (r.sl i s e).mono le fun q u d e1 e2 e3 _ e5 _ e7 => ⟨?_, e5, fun x => ?_⟩, r.len, r.dj⟩
  · have q : a ≠ p := fun q => by subst q; have e : g.F a = some u := e; rw [n1.F] at e; cases e
    rw [hH a q]; exact f.fh a u e
  · have q : a ≠ p := fun q => by subst q; rw [n1.H0] at e; cases e
    rw [hH a q]; exact f.kp a u e t m (nwa a)
  · rcases wa a x with rfl | rfl
    · exact n1.F
    · exact n2.F
  · rcases wa a x with rfl | rfl
    · exact n1.H0
    · exact n2.H0
  · by_cases q : a = p
    · subst q; rw [hHp, upd_same] at e; cases e; exact absurd rfl (core_ntbl co ps)
    · rw [hH a q] at e; exact f.th a ps e
  · have q' : q ≠ p := fun z => n1.own i ⟨⟨d, by rw [e, e2]⟩, by rw [e1, z]⟩
    rw [hH q q']; exact e3
  · rcases wa q x with z | z
    · exact n1.own i ⟨⟨d, by rw [e, e2]⟩, by rw [e1, z]⟩
    · exact n2.own i ⟨⟨d, by rw [e, e2]⟩, by rw [e1, z]⟩
theorem sE_wnew {f : DE} {ec : Expr} {j1 j2 j3 j4 j5 j6 : Nat} {q1 q2 q3 q4 q5 q6 : Pos} (hn : PE X nm (tVar i)) (hc : PE X ec (tS X.K x f)) :
    PE X (.Dict [some (.Constant (.str "large") j1 q1), some (.Constant (.str "cells") j2 q2), some (.Constant (.str "rest") j3 q3), some (.Constant (.str "turn") j4 q4)] [nm, ec, .Constant (.int 0) j5 q5, .Constant (.int 0) j6 q6] pos) (tS X.K x (wnewE i f)) :=
  (pe_disp (pps_cons pe_str hn (pps_cons pe_str hc (pps_cons pe_str pe_int (pps_cons pe_str pe_int pps_nil)))) rfl rfl (fun z => nomatch z) (show 4 ≤ 15 by omega)).imp fun σ H Q ⟨c, g, st, r, q⟩ => by
    unfold wnewE at q
    cases e1 : st.env[i]? with
    | none => rw [e1] at q; exact q.elim
    | some sl =>
      rw [e1] at q
      cases sl with
      | no => exact q.elim
      | fz d => exact q.elim
      | ow d =>
        cases d with
        | lst ls =>
          dsimp only at q
          intro p hp
          obtain ⟨l, o, e2, hl, ho, hF, hH0, hwa⟩ := r.sl i _ e1
          obtain ⟨r1, n1⟩ := NewAt.new r hp (o := .dK []) (d := .dK [] []) (.dK rfl .nil)
          -- the list moves out of its name
          have r2 : Rel X.K c g σ (L2.upd H p (.dK [])) { st with env := st.env.set i .no } := r1.slot (fun _ z => nomatch z) trivial
          have nlp : l ≠ p := ne_of_none hl hp
          have n2 : NewAt X.K c g σ (L2.upd H p (.dK [])) { st with env := st.env.set i .no } l o (.lst ls) := ⟨by rw [upd_ne nlp]; exact hl, ho, hF, hH0, hwa, fun k z => by
            have z' := ownAt_set z (fun _ q => nomatch q)
            have w : i = k := r.dj i k l ⟨⟨_, e1⟩, e2⟩ z'
            subst w
            obtain ⟨⟨d', z1⟩, _⟩ := z
            rcases get_set_cases (show (st.env.set i .no)[i]? = some (.ow d') from z1) with ⟨_, w⟩ | ⟨w, _⟩
            · cases w
            · exact w rfl⟩
          have n1' : NewAt X.K c g σ (L2.upd H p (.dK [])) { st with env := st.env.set i .no } p (.dK []) (.dK [] []) := ⟨n1.h, n1.ho, n1.F, n1.H0, n1.wa, fun k z => n1.own k (ownAt_set z (fun _ q => nomatch q))⟩
          have r3 := r2.guard n1'
          have n3 : NewAt X.K (c.wth p (.dK [])) g σ (L2.upd H p (.dK [])) { st with env := st.env.set i .no } l o (.lst ls) := ⟨n2.h, n2.ho, n2.F, by show L2.upd c.H0 p _ l = none; rw [upd_ne nlp]; exact n2.H0, n2.wa, n2.own⟩
          have r4 := r3.guard n3
          refine ⟨.ref l, e2, ?_⟩
          refine ⟨_, g, _, r4, ?_⟩
          cases z : f { st with env := st.env.set i .no } with
          | bad => rw [z] at q; exact q
          | ex e w => rw [z] at q; exact fun cls dx g' H' l' f xr => q cls dx g' H' l' (r2.toFin.unguard n1' l' (r3.toFin.unguard n3 l' f)) xr
          | ok a st2 =>
            rw [z] at q
            intro v g2 H2 l2 r5 h5
            obtain ⟨g3, l3, r6, d6⟩ := h5.fz r5
            obtain ⟨r7, n7⟩ := Rel.unguard r3.toFin n3 (l2.trans l3) r6
            obtain ⟨r8, n8⟩ := Rel.unguard r2.toFin n1' (l2.trans l3) r7
            have n9 : NewAt X.K c g3 σ H2 st2 l o (.lst ls) := ⟨n7.h, n7.ho, n7.F, n2.H0, n7.wa, n7.own⟩
            have qq := Post.mono q (l2.trans l3)
            clear q
            obtain ⟨fr, d⟩ := a
            dsimp only [R.bind_ok] at qq
            cases hls : dints ls with
            | none => rw [hls] at qq; exact qq.elim
            | some ns =>
              rw [hls] at qq
              cases d with
              | lst cs =>
                cases hw : st2.w with
                | some dr => rw [hw] at qq; exact qq.elim
                | none =>
                  rw [hw] at qq
                  replace qq : Post X.K x c g3 σ (fun g' H' st' a v => VlR X.K c g' H' σ st' v a) Q (match dints cs with
                    | some ms => R.ok (false, D.hnd) { st2 with w := some ⟨ns, ms, 0, 0⟩ }
                    | none => .bad) := qq
                  cases hcs : dints cs with
                  | none => rw [hcs] at qq; exact qq.elim
                  | some ms =>
                    rw [hcs] at qq
                    cases d6 with
                    | @lst cc xs _ hF6 ra6 =>
                      obtain rfl := dints_map hcs
                      obtain rfl := ra6.ints
                      cases ho with
                      | @lst vs _ ra =>
                        obtain rfl := dints_map hls
                        obtain rfl := ra.ints
                        refine ⟨n8.h, drKv ⟨ns, ms, 0, 0⟩ l cc, rfl, by show 4 ≤ 15; omega, ?_⟩
                        have em : mergeK [] (drKv ⟨ns, ms, 0, 0⟩ l cc) = drKv ⟨ns, ms, 0, 0⟩ l cc := by
                          have e1 : putK [((Sum.inr ("large" : Str) : Key), V.ref l)] (Sum.inr ("cells" : Str) : Key) (.ref cc) = [((Sum.inr ("large" : Str) : Key), V.ref l), ((Sum.inr ("cells" : Str) : Key), V.ref cc)] := by rw [put_cons_ne k_ne6]; rfl
                          have e2 : putK [((Sum.inr ("large" : Str) : Key), V.ref l), ((Sum.inr ("cells" : Str) : Key), V.ref cc)] (Sum.inr ("rest" : Str) : Key) (.int 0) = [((Sum.inr ("large" : Str) : Key), V.ref l), ((Sum.inr ("cells" : Str) : Key), V.ref cc), ((Sum.inr ("rest" : Str) : Key), V.int 0)] := by rw [put_cons_ne k_ne1, put_cons_ne k_ne2]; rfl
                          have e3 : putK [((Sum.inr ("large" : Str) : Key), V.ref l), ((Sum.inr ("cells" : Str) : Key), V.ref cc), ((Sum.inr ("rest" : Str) : Key), V.int 0)] (Sum.inr ("turn" : Str) : Key) (.int 0) = drKv ⟨ns, ms, 0, 0⟩ l cc := by rw [put_cons_ne k_ne3, put_cons_ne k_ne4, put_cons_ne k_ne5]; rfl
                          show putK (putK (putK [((Sum.inr ("large" : Str) : Key), V.ref l)] (Sum.inr ("cells" : Str) : Key) (.ref cc)) (Sum.inr ("rest" : Str) : Key) (.int 0)) (Sum.inr ("turn" : Str) : Key) (.int 0) = _
                          rw [e1, e2, e3]
                        rw [em]
                        obtain ⟨le, rr⟩ := r8.worldNew (cc := cc) (w' := some ⟨ns, ms, 0, 0⟩) hw n8 n9 (H' := L2.upd H2 p (.dK (drKv ⟨ns, ms, 0, 0⟩ l cc))) (fun a ha => upd_ne ha) rfl trivial ⟨p, l, cc, rfl, upd_same, by rw [upd_ne nlp]; exact n9.h, hF6⟩
                        exact qq (.ref p) _ _ le rr (.hnd rfl)
              | _ => exact qq.elim
        | _ => exact q.elim
end
end PV
set_option maxHeartbeats 4000000
/-! The rules in the shape in which the printing program writes them. -/
namespace PV
open PySem PySem.Spec PyProof.Rows L2

/-- the built-in names that a module leaves alone -/
structure Blt (mg : Str → Option Value) : Prop where
  len : mg "len" = none
  abs : mg "abs" = none
  int : mg "int" = none
  str : mg "str" = none
  list : mg "list" = none
  tuple : mg "tuple" = none
  bool : mg "bool" = none
  dict : mg "dict" = none
  all : mg "all" = none
  any : mg "any" = none
  sum : mg "sum" = none
  min : mg "min" = none
  max : mg "max" = none
  sorted : mg "sorted" = none
  repr : mg "repr" = none
  range : mg "range" = none
  isinstance : mg "isinstance" = none

/-- a def of the text, as the top has made it -/
structure TxtDef (K : PySem.W.Frag) (mg : Str → Option Value) (y : Str) (st : Stmt) : Prop where
  ex : ∃ f fd, Fun K y y st f fd ∧ mg y = some (.ref f)
/-- a def that is known to give what fs says -/
structure Df (P : Program) (w : World) (K : PySem.W.Frag) (mg : Str → Option Value) (base : Heap) (xr : Exn → Value → Option Addr → Hp → Prop) (cx : CXT) (k : Nat) (y : Str) (st : Stmt) (ps : List Str) (fs : FS) : Prop where
  ex : ∃ f fd, Fun K y y st f fd ∧ mg y = some (.ref f) ∧ FnG P w K mg base cx k f fd ps (spOf K xr ps.length fs) ∧ Binds K fd ps []
section
variable {P : Program} {w : World} {K : PySem.W.Frag} {mg : Str → Option Value} {base : Heap}
theorem Df.of {xr : Exn → Value → Option Addr → Hp → Prop} {y : Str} {st : Stmt} {N ps : List Str} {k : Nat} {b : DS} (T : TxtDef K mg y st) (S : FnScope N ps (defScope st))
    (hb : ∀ (kV doc pm : Value) (an : Option Addr) (cdv ct : Value) (us : List Value), us.length = ps.length → bindArgs (PySem.W.fnOf y y (defArgs st) (defBody st) (defScope st) .none kV doc pm an cdv ct) ⟨us, []⟩ = pure (ps.zip us))
    (hbody : ∀ (f : Addr) (cdv : Value) (A : Around) (outer : List Env) (s : Shared) (H : Hp) (E : XK), Room k (A.deeper (envOfC y (defScope st) s.heap.objs.size f cdv)) → A.guards = some [] →
      PSs (cxOf CX0 P w K mg base N y (defScope st) f cdv A outer s H E).nox (defBody st) (tSt K ⟨xr, E⟩ b)) : Df P w K mg base xr CX0 (k + 1) y st ps (runDef N.length b) := by
  obtain ⟨f, fd, F, hm⟩ := T.ex
  exact ⟨f, fd, F, hm, okG F S (hbody f), F.binds hb⟩
theorem Df.up {xr : Exn → Value → Option Addr → Hp → Prop} {cx : CXT} {j k : Nat} {y : Str} {st : Stmt} {ps : List Str} {fs : FS} (D : Df P w K mg base xr cx j y st ps fs) (h : j ≤ k) : Df P w K mg base xr cx k y st ps fs := by
  obtain ⟨f, fd, F, hm, G, hb⟩ := D.ex
  exact ⟨f, fd, F, hm, G.up h, hb⟩
end

section
variable {X : Cx} {x : XC} {e a b ec : Expr} {es : List Expr} {pos p p' p2 p3 : Pos} {k : Nat} {oa ob : Opn} {f h j : DE} {t u : DT}
theorem wN (i : Nat) {y : Str} (hN : X.N[i]? = some y := by rfl) (hv : Vis X.env.scope y := by first | exact Or.inl rfl | exact Or.inr (Or.inl rfl) | exact Or.inr (Or.inr rfl)) (hd : (y == ("__debug__" : Str)) = false := by decide)
    (hcd : (y == ("__classdict__" : Str)) = false := by decide) : PE X (.Name y pos) (tS X.K x (nE i)) := sE_name hN hv hd hcd
theorem wM (i : Nat) {y : Str} (hN : X.N[i]? = some y := by rfl) (hv : Vis X.env.scope y := by first | exact Or.inl rfl | exact Or.inr (Or.inl rfl) | exact Or.inr (Or.inr rfl)) (hd : (y == ("__debug__" : Str)) = false := by decide)
    (hcd : (y == ("__classdict__" : Str)) = false := by decide) : PE X (.Name y pos) (tS X.K x (mE i)) := sE_move hN hv hd hcd
/-- an operand that is a name -/
theorem oV (i : Nat) {y : Str} (hN : X.N[i]? = some y := by rfl) (hv : Vis X.env.scope y := by first | exact Or.inl rfl | exact Or.inr (Or.inl rfl) | exact Or.inr (Or.inr rfl)) (hd : (y == ("__debug__" : Str)) = false := by decide)
    (hcd : (y == ("__classdict__" : Str)) = false := by decide) : PE X (.Name y pos) (tO X.K x (.var i)) := pe_var hN hv hd hcd
/-- an operand that is an expression -/
theorem oX (he : PE X e (tS X.K x f)) : PE X e (tO X.K x (.ex f)) := he
/-! lists of arguments -/
theorem aN : PA X [] (tA X.K x aNil) := sA_nil
theorem aC {g : DA} (he : PE X e (tS X.K x f)) (hr : PA X es (tA X.K x g)) (hs : isStar e = false := by rfl) : PA X (e :: es) (tA X.K x (aCons f g)) := sA_cons he hr hs
/-! comparisons, tests -/
theorem wCmp (hr : Room k X.A) {op : CmpOp} (ha : PE X a (tO X.K x oa)) (hb : PE X b (tO X.K x ob)) (hm : behindInMarks op b = false := by first | exact nomark _ | with_unfolding_all rfl) : PE X (.Compare a [op] [b] pos) (tS X.K x (oE2 (kCmp op) oa ob)) := sE_compare hr ha hb hm
theorem qCmp (hr : Room k X.A) {op : CmpOp} (ha : PE X a (tO X.K x oa)) (hb : PE X b (tO X.K x ob)) (hm : behindInMarks op b = false := by first | exact nomark _ | with_unfolding_all rfl) : PT X (.Compare a [op] [b] pos) (tT X.K x (bT (oE2 (kCmp op) oa ob))) := sT_cmp hr ha hb hm
theorem wChn (hr : Room k X.A) {q q' : CmpOp} (ha : PE X a (tS X.K x f)) (hb : PE X b (tS X.K x h)) (hc : PE X ec (tS X.K x j)) (hp : chOp q = true := by rfl) (hm : lastMarks [q, q'] [b, ec] = false := by with_unfolding_all rfl) :
    PE X (.Compare a [q, q'] [b, ec] pos) (tS X.K x (chE q q' f h j)) := sE_chain hr ha hb hc hp hm
theorem qChn (hr : Room k X.A) {q q' : CmpOp} (ha : PE X a (tS X.K x f)) (hb : PE X b (tS X.K x h)) (hc : PE X ec (tS X.K x j)) (hp : chOp q = true := by rfl) (hm : lastMarks [q, q'] [b, ec] = false := by with_unfolding_all rfl) :
    PT X (.Compare a [q, q'] [b, ec] pos) (tT X.K x (bT (chE q q' f h j))) := sT_chain hr ha hb hc hp hm
theorem qVal (he : PE X e (tS X.K x f)) (hp : plainTest e = true := by rfl) : PT X e (tT X.K x (bT f)) := sT_val he hp
theorem qBool (hh : PW X e (tT X.K x t)) : PT X e (tT X.K x t) := hh.pt
/-! items, slices -/
theorem wIx (hr : Room k X.A) (ha : PE X a (tO X.K x oa)) (hb : PE X b (tO X.K x ob)) (hs : isSl b = false := by rfl) : PE X (.Subscript a b pos) (tS X.K x (oE2 kIx oa ob)) := sE_item hr ha hb hs
theorem wS (ha : PE X a (tO X.K x oa)) {lo hi : Option Expr} {fl fh : Option DE} (hl : POf X x lo fl) (hh : POf X x hi fh) : PE X (.Subscript a (.Slice lo hi none p2) pos) (tS X.K x (slE oa fl fh)) := sE_slice ha hl hh
/-! built-in functions -/
def kLenA : D → Option Vl := fun d => (kLen d).orElse fun _ => kLenS d
theorem wLen (B : Blt X.mg) (ha : PE X a (tO X.K x oa)) (hg : Gl X "len" := by rfl) (hs : isStar a = false := by rfl) : PE X (.Call (.Name "len" p) [a] [] pos) (tS X.K x (oE1 kLenA oa)) :=
  sE_call1 (callR_or call_len_seq call_len) (c1_len.or c1_lenS) (.inl ⟨_, rfl⟩) hg B.len boot_len (by decide) (by decide) hs ha
theorem wAbs (B : Blt X.mg) (ha : PE X a (tO X.K x oa)) (hg : Gl X "abs" := by rfl) (hs : isStar a = false := by rfl) : PE X (.Call (.Name "abs" p) [a] [] pos) (tS X.K x (oE1 kAbs oa)) :=
  sE_call1 call_abs c1_abs (.inl ⟨_, rfl⟩) hg B.abs (by decide +kernel) (by decide) (by decide) hs ha
theorem wInt (B : Blt X.mg) (ha : PE X a (tO X.K x oa)) (hg : Gl X "int" := by rfl) (hs : isStar a = false := by rfl) : PE X (.Call (.Name "int" p) [a] [] pos) (tS X.K x (oE1 kInt oa)) :=
  sE_call1 (callR_or call_int1 call_int_str) c1_int (.inr ⟨_, rfl⟩) hg B.int (by decide +kernel) (by decide) (by decide) hs ha
theorem wStr (B : Blt X.mg) (ha : PE X a (tO X.K x oa)) (hg : Gl X "str" := by rfl) (hs : isStar a = false := by rfl) : PE X (.Call (.Name "str" p) [a] [] pos) (tS X.K x (oE1 kStr oa)) :=
  sE_call1 call_str_int c1_str (.inr ⟨_, rfl⟩) hg B.str (by decide +kernel) (by decide) (by decide) hs ha
theorem wList (B : Blt X.mg) (ha : PE X a (tO X.K x oa)) (hg : Gl X "list" := by rfl) (hs : isStar a = false := by rfl) : PE X (.Call (.Name "list" p) [a] [] pos) (tS X.K x (oE1 kList oa)) :=
  sE_call1 call_list_of c1_list (.inr ⟨_, rfl⟩) hg B.list (by decide +kernel) (by decide) (by decide) hs ha
theorem wTup (B : Blt X.mg) (ha : PE X a (tO X.K x oa)) (hg : Gl X "tuple" := by rfl) (hs : isStar a = false := by rfl) : PE X (.Call (.Name "tuple" p) [a] [] pos) (tS X.K x (oE1 kTuple oa)) :=
  sE_call1 call_tuple_of c1_tuple (.inr ⟨_, rfl⟩) hg B.tuple (by decide +kernel) (by decide) (by decide) hs ha
end
end PV
set_option maxHeartbeats 4000000
/-! The rules as the printing program writes them, the rest. -/
namespace PV
open PySem PySem.Spec PyProof.Rows L2
section
variable {X : Cx} {x : XC} {e a b ec o : Expr} {es : List Expr} {pos p p' p2 p3 apos cpos : Pos} {k : Nat} {oa ob : Opn} {f h j : DE} {t u : DT} {st : Stmt} {sts sts' : List Stmt} {q r : DS} {g : DA}
theorem wSort (hr : Room k X.A) (B : Blt X.mg) (ha : PE X a (tO X.K x oa)) (hg : Gl X "sorted" := by rfl) (hs : isStar a = false := by rfl) : PE X (.Call (.Name "sorted" p) [a] [] pos) (tS X.K x (oE1 kSorted oa)) :=
  sE_call1 (callR_sorted hr.units) c1_sorted (.inl ⟨_, rfl⟩) hg B.sorted (by decide +kernel) (by decide) (by decide) hs ha
theorem wRepr (hr : Room k X.A) (hgd : X.A.guards = some []) (B : Blt X.mg) (ha : PE X a (tO X.K x oa)) (hg : Gl X "repr" := by rfl) (hs : isStar a = false := by rfl) : PE X (.Call (.Name "repr" p) [a] [] pos) (tS X.K x (oE1 kRepr oa)) :=
  sE_call1 (callR_repr hr.units hgd) c1_repr (.inl ⟨_, rfl⟩) hg B.repr (by decide +kernel) (by decide) (by decide) hs ha
theorem wAll (B : Blt X.mg) (ha : PE X a (tO X.K x oa)) (hc : X.calm = true := by rfl) (hg : Gl X "all" := by rfl) (hs : isStar a = false := by rfl) : PE X (.Call (.Name "all" p) [a] [] pos) (tS X.K x (oE1 kAll oa)) :=
  sE_call1 (cr_all hc) c1_all (.inl ⟨_, rfl⟩) hg B.all (by decide +kernel) (by decide) (by decide) hs ha
theorem wAny (B : Blt X.mg) (ha : PE X a (tO X.K x oa)) (hc : X.calm = true := by rfl) (hg : Gl X "any" := by rfl) (hs : isStar a = false := by rfl) : PE X (.Call (.Name "any" p) [a] [] pos) (tS X.K x (oE1 kAny oa)) :=
  sE_call1 (cr_any hc) c1_any (.inl ⟨_, rfl⟩) hg B.any (by decide +kernel) (by decide) (by decide) hs ha
theorem wSum (B : Blt X.mg) (ha : PE X a (tO X.K x oa)) (hc : X.calm = true := by rfl) (hg : Gl X "sum" := by rfl) (hs : isStar a = false := by rfl) : PE X (.Call (.Name "sum" p) [a] [] pos) (tS X.K x (oE1 kSum oa)) :=
  sE_call1 (cr_sum hc) c1_sum (.inl ⟨_, rfl⟩) hg B.sum (by decide +kernel) (by decide) (by decide) hs ha
theorem wMin (B : Blt X.mg) (ha : PE X a (tS X.K x f)) (hb : PE X b (tS X.K x h)) (hc : X.calm = true := by rfl) (hg : Gl X "min" := by rfl) (hs : isStar a = false := by rfl) (hs' : isStar b = false := by rfl) : PE X (.Call (.Name "min" p) [a, b] [] pos) (tS X.K x (bE kMin f h)) :=
  sE_call2 (id := "min") (callR_or (call_min2 hc) (call_min2S hc)) c2_min hg B.min (by decide +kernel) (by decide) (by decide) hs hs' ha hb
theorem wMax (B : Blt X.mg) (ha : PE X a (tS X.K x f)) (hb : PE X b (tS X.K x h)) (hc : X.calm = true := by rfl) (hg : Gl X "max" := by rfl) (hs : isStar a = false := by rfl) (hs' : isStar b = false := by rfl) : PE X (.Call (.Name "max" p) [a, b] [] pos) (tS X.K x (bE kMax f h)) :=
  sE_call2 (id := "max") (callR_or (call_max2 hc) (call_max2S hc)) c2_max hg B.max (by decide +kernel) (by decide) (by decide) hs hs' ha hb
/-! isinstance -/
theorem iStr (B : Blt X.mg) (ha : PE X a (tO X.K x oa)) (hg : Gl X "isinstance" := by rfl) (hgT : Gl X "str" := by rfl) (hs : isStar a = false := by rfl) : PE X (.Call (.Name "isinstance" p) [a, .Name "str" p'] [] pos) (tS X.K x (oE1 (kIsa "str") oa)) :=
  sE_isa hg B.isinstance hgT B.str (by decide +kernel) (by decide) (by decide) hs ha
theorem iInt (B : Blt X.mg) (ha : PE X a (tO X.K x oa)) (hg : Gl X "isinstance" := by rfl) (hgT : Gl X "int" := by rfl) (hs : isStar a = false := by rfl) : PE X (.Call (.Name "isinstance" p) [a, .Name "int" p'] [] pos) (tS X.K x (oE1 (kIsa "int") oa)) :=
  sE_isa hg B.isinstance hgT B.int (by decide +kernel) (by decide) (by decide) hs ha
theorem iBool (B : Blt X.mg) (ha : PE X a (tO X.K x oa)) (hg : Gl X "isinstance" := by rfl) (hgT : Gl X "bool" := by rfl) (hs : isStar a = false := by rfl) : PE X (.Call (.Name "isinstance" p) [a, .Name "bool" p'] [] pos) (tS X.K x (oE1 (kIsa "bool") oa)) :=
  sE_isa hg B.isinstance hgT B.bool (by decide +kernel) (by decide) (by decide) hs ha
theorem iTup (B : Blt X.mg) (ha : PE X a (tO X.K x oa)) (hg : Gl X "isinstance" := by rfl) (hgT : Gl X "tuple" := by rfl) (hs : isStar a = false := by rfl) : PE X (.Call (.Name "isinstance" p) [a, .Name "tuple" p'] [] pos) (tS X.K x (oE1 (kIsa "tuple") oa)) :=
  sE_isa hg B.isinstance hgT B.tuple (by decide +kernel) (by decide) (by decide) hs ha
/-! calls of defs -/
theorem wCall {jj : Nat} {y : Str} {sty : Stmt} {ps : List Str} {fs : FS} {cx : CXT} (D : Df X.prog X.w X.K X.mg X.base x.xr cx jj y sty ps fs) (hr : Room k X.A) (hgd : X.A.guards = some []) (ha : PA X (e :: es) (tA X.K x g)) (hx : Passes cx X x.E)
    (hn : ∀ st ds st', g st = .ok ds st' → ds.length = ps.length) (hj : jj ≤ k := by decide) (hg : Gl X y := by rfl) (hdb : (y == ("__debug__" : Str)) = false := by decide) (hs : isStar e = false := by rfl) (hpl : (backTo pos (starEach es X.env)).any (·.1) = false := by rfl) :
    PE X (.Call (.Name y p) (e :: es) [] pos) (tS X.K x (callE fs g)) := by
  obtain ⟨f, fd, F, hm, G, hb⟩ := D.ex
  exact sE_call G hgd (hr.mono hj) hg hm F.kp hb hx hn ha hdb hs hpl
theorem wCall0 {jj : Nat} {y : Str} {sty : Stmt} {fs : FS} {cx : CXT} (D : Df X.prog X.w X.K X.mg X.base x.xr cx jj y sty [] fs) (hr : Room k X.A) (hgd : X.A.guards = some []) (hx : Passes cx X x.E)
    (hj : jj ≤ k := by decide) (hg : Gl X y := by rfl) (hdb : (y == ("__debug__" : Str)) = false := by decide) : PE X (.Call (.Name y p) [] [] pos) (tS X.K x (callE fs aNil)) := by
  obtain ⟨f, fd, F, hm, G, hb⟩ := D.ex
  exact sE_call0 G hgd (hr.mono hj) hg hm F.kp hb hx hdb
theorem noX {E : XK} : Passes CX0 X E := fun _ _ _ _ _ _ _ h => h.elim
theorem len0 : ∀ st ds st', aNil st = .ok ds st' → ds.length = 0 := fun st ds st' z => by cases z; rfl
theorem len1 : ∀ st ds st', aCons f aNil st = .ok ds st' → ds.length = 1 := aCons_len len0
theorem len2 : ∀ st ds st', aCons f (aCons h aNil) st = .ok ds st' → ds.length = 2 := aCons_len len1
theorem len3 : ∀ st ds st', aCons f (aCons h (aCons j aNil)) st = .ok ds st' → ds.length = 3 := aCons_len len2
theorem len4 {f' : DE} : ∀ st ds st', aCons f' (aCons f (aCons h (aCons j aNil))) st = .ok ds st' → ds.length = 4 := aCons_len len3
theorem len5 {f' f2 : DE} : ∀ st ds st', aCons f2 (aCons f' (aCons f (aCons h (aCons j aNil)))) st = .ok ds st' → ds.length = 5 := aCons_len len4
/-! methods of an owned list -/
theorem wAppend {i : Nat} (ho : PE X o (tVar i)) (he : PE X e (tS X.K x f)) (hbase : attributeBase o "append" X.env (eval o X.env) = eval o X.env := by rfl) (hline : (apos.endLine == cpos.line) = true := by rfl) (hs : isStar e = false := by rfl)
    (hfew : ((backTo cpos (starEach [e] X.env)).all (fun x => !x.1) && (backToKw cpos (keywordEach [] X.env)).all (fun x => x.1.isSome) && decide (([e] : List Expr).length + ([] : List Keyword).length + (if ([] : List Keyword).isEmpty then 0 else 1) < 30)) = true := by rfl) :
    PE X (.Call (.Attribute o "append" apos) [e] [] cpos) (tS X.K x (meE isL i kAppend (aCons f aNil))) :=
  sE_me PySem.F.plainAttrs_list PySem.F.slot_list_append PySem.F.type_list_append mt_append me_append ty_list ho (aC he aN hs) hbase hfew hline hs rfl
theorem wPopAt {i : Nat} (hc : X.calm = true) (ho : PE X o (tVar i)) (he : PE X e (tS X.K x f)) (hbase : attributeBase o "pop" X.env (eval o X.env) = eval o X.env := by rfl) (hline : (apos.endLine == cpos.line) = true := by rfl) (hs : isStar e = false := by rfl)
    (hfew : ((backTo cpos (starEach [e] X.env)).all (fun x => !x.1) && (backToKw cpos (keywordEach [] X.env)).all (fun x => x.1.isSome) && decide (([e] : List Expr).length + ([] : List Keyword).length + (if ([] : List Keyword).isEmpty then 0 else 1) < 30)) = true := by rfl) :
    PE X (.Call (.Attribute o "pop" apos) [e] [] cpos) (tS X.K x (meE isL i kPopAt (aCons f aNil))) :=
  sE_me PySem.F.plainAttrs_list PySem.F.slot_list_pop PySem.F.type_list_pop mt_popAt me_popAt ty_list ho (aC he aN hs) hbase hfew hline hs rfl
theorem wPop {i : Nat} (ho : PE X o (tVar i)) (hbase : attributeBase o "pop" X.env (eval o X.env) = eval o X.env := by rfl) (hline : (apos.endLine == cpos.line) = true := by rfl) : PE X (.Call (.Attribute o "pop" apos) [] [] cpos) (tS X.K x (meE isL i kPop aNil)) :=
  sE_me0 PySem.F.plainAttrs_list PySem.F.slot_list_pop PySem.F.type_list_pop mt_pop me_pop ty_list ho hbase hline
theorem wJoin (ho : PE X o (tS X.K x f)) (he : PE X e (tS X.K x h)) (hs : isStar e = false := by rfl) (hbase : attributeBase o "join" X.env (eval o X.env) = eval o X.env := by rfl) (hline : (apos.endLine == pos.line) = true := by rfl) : PE X (.Call (.Attribute o "join" apos) [e] [] pos) (tS X.K x (m1S kJoin f h)) := sE_join ho he hs hbase hline
theorem wSplit (ho : PE X o (tS X.K x f)) (he : PE X e (tS X.K x h)) (hs : isStar e = false := by rfl) (hbase : attributeBase o "split" X.env (eval o X.env) = eval o X.env := by rfl) (hline : (apos.endLine == pos.line) = true := by rfl) : PE X (.Call (.Attribute o "split" apos) [e] [] pos) (tS X.K x (m1S kSplit f h)) := sE_split ho he hs hbase hline
theorem wGet2 (hr : Room k X.A) (ho : PE X o (tO X.K x oa)) (ha : PE X a (tS X.K x f)) (hb : PE X b (tS X.K x h)) (m : M2 X o "get" apos a b pos := by exact ⟨rfl, rfl, rfl, rfl⟩) : PE X (.Call (.Attribute o "get" apos) [a, b] [] pos) (tS X.K x (get2E oa f h)) := sE_get2 hr ho ha hb m
theorem wGet1 (hr : Room k X.A) (ho : PE X o (tO X.K x oa)) (ha : PE X a (tS X.K x f)) (m : M1 X o "get" apos a pos := by exact ⟨rfl, rfl, rfl, rfl⟩) : PE X (.Call (.Attribute o "get" apos) [a] [] pos) (tS X.K x (get1E oa f)) := sE_get1 hr ho ha m
/-! statements -/
theorem stO (nd : X.N.Nodup) (i : Nat) {y : Str} (at_ : X.N[i]? = some y := by rfl) (loc : Loc X.env.scope y := by first | exact Or.inl rfl | exact Or.inr rfl) (own : X.fn y = true ∨ X.env.scope.names.lookup y = some .local := by first | exact Or.inr rfl | exact Or.inl rfl) : StOk X i y := ⟨nd, at_, loc, own⟩
theorem zSet {i : Nat} {y : Str} (ok : StOk X i y) (he : PE X e (tS X.K x f)) (hs : swapsWith e (some (.Name y p)) pos.line X.env = pure false := by rfl) : PS X (.Assign [.Name y p] e pos) (tSt X.K x (setS i f)) := s_set ok he hs
theorem zExpr (he : PE X e (tS X.K x f)) (hs : swapsWith e none pos.line X.env = pure false := by rfl) : PS X (.Expr e pos) (tSt X.K x (dropS f)) := s_expr he hs
theorem zPar (nd : X.N.Nodup) (i i' : Nat) {y z : Str} {px py pt pt2 : Pos} {kt k2 : Nat} (ha : PE X a (tS X.K x f)) (hb : PE X b (tS X.K x h)) (hc : X.calm = true := by rfl) (hi : X.N[i]? = some y := by rfl) (hj : X.N[i']? = some z := by rfl) (hij : i ≠ i' := by decide)
    (hy : X.env.scope.names.lookup y = some .local := by rfl) (hz : X.env.scope.names.lookup z = some .local := by rfl) (hsa : isStar a = false := by rfl) (hsb : isStar b = false := by rfl)
    (hw : swappedStores [.Tuple [.Name y px, .Name z py] kt pt] (.Tuple [a, b] k2 pt2) X.env = pure (some [y, z]) := by rfl) (hs : swapsWithSole [.Tuple [.Name y px, .Name z py] kt pt] (.Tuple [a, b] k2 pt2) pos.line X.env = pure false := by rfl) :
    PS X (.Assign [.Tuple [.Name y px, .Name z py] kt pt] (.Tuple [a, b] k2 pt2) pos) (tSt X.K x (parS i i' f h)) := s_par hc nd hi hj hij hy hz ha hb hsa hsb hw hs
theorem zFor {tg : Expr} {tt : Tg} {it : DI} {body : List Stmt} (hi : PI X tg e (tI X.K x it)) (ht : TgOk X tg tt) (hb : PSs X body (tSt X.K x q)) (hp : PassesOwn (model X.prog X.w) X.A X.env X.xe) (hc : X.calm = true := by rfl) (hs : ∀ v, foldedSetIterable e X.env v = pure v := by intro v; rfl) :
    PS X (.For tg e body [] pos) (tSt X.K x (forS it tt q)) := s_for hp hc hi ht hb hs
theorem zOne (h1 : PS X st (tSt X.K x q)) : PSs X [st] (tSt X.K x (seqS q nxS)) := s_cons h1 s_nil
/-! comprehensions -/
theorem wLc {tg iter : Expr} {ifs : List Expr} {scope : Scope} (own : List (Str × Nat)) {it : DI} {tt : Tg} {ct : DT} {te : DE} (nd : X.N.Nodup) (hi : PI X tg iter (tI X.K x it)) (hg : ∀ s H C cl fp, TgOk (Blk X scope s H C cl fp) tg tt)
    (ht : ∀ s H C cl fp, PTs (Blk X scope s H C cl fp) ifs (tT X.K x.no ct)) (he : ∀ s H C cl fp, PE (Blk X scope s H C cl fp) e (tS X.K x.no te)) (hc : X.calm = true := by rfl) (hb : blkC X.N X.env.scope scope own = true := by kernel_rfl) (hv : ∀ i ∈ tt.ix, i ∈ own.map (·.2) := by decide) (hs : ∀ v, foldedSetIterable iter X.env v = pure v := by intro v; rfl) :
    PE X (.ListComp e [⟨tg, iter, ifs, 0⟩] scope pos) (tS X.K x (lcD (own.map (·.2)) it tt ct te)) := sE_lc hc nd hi (blkOk_by hb) hv hg ht he hs
theorem zLc {i : Nat} {y : Str} {py spos : Pos} {tg iter : Expr} {ifs : List Expr} {scope : Scope} (own : List (Str × Nat)) {it : DI} {tt : Tg} {ct : DT} {te : DE} (nd : X.N.Nodup) (hi : PI X tg iter (tI X.K x it)) (hg : ∀ s H C cl fp, TgOk (Blk X scope s H C cl fp) tg tt)
    (ht : ∀ s H C cl fp, PTs (Blk X scope s H C cl fp) ifs (tT X.K x.no ct)) (he : ∀ s H C cl fp, PE (Blk X scope s H C cl fp) e (tS X.K x.no te)) (hc : X.calm = true := by rfl) (hy : X.N[i]? = some y := by rfl) (hyl : X.env.scope.names.lookup y = some .local := by rfl)
    (hsw : swapsWith (.ListComp e [⟨tg, iter, ifs, 0⟩] scope pos) (some (.Name y py)) spos.line X.env = pure true := by rfl) (hb : blkC X.N X.env.scope scope own = true := by kernel_rfl) (hv : ∀ i ∈ tt.ix, i ∈ own.map (·.2) := by decide) (hs : ∀ v, foldedSetIterable iter X.env v = pure v := by intro v; rfl) :
    PS X (.Assign [.Name y py] (.ListComp e [⟨tg, iter, ifs, 0⟩] scope pos) spos) (tSt X.K x (setS i (lcD (own.map (·.2)) it tt ct te))) := s_setLc hc nd hy hyl hsw hi (blkOk_by hb) hv hg ht he hs
theorem qOne (hh : PT X e (tT X.K x t)) : PTs X [e] (tT X.K x t) := pts_one hh
/-! more -/
def negE (f : DE) : DE := fun st => (f st).bind fun a st => match a.2 with
  | .int i => .ok (false, .int (-i)) st
  | _ => .bad
theorem wNeg (ha : PE X a (tS X.K x f)) : PE X (.UnaryOp .USub a pos) (tS X.K x (negE f)) := (pe_un un_neg ha).imp fun σ H Q ⟨c, g, st, r, q⟩ => by
  unfold negE at q
  refine ⟨c, g, st, r, q.bind fun a st1 v g1 H1 l1 r1 h1 q1 => ?_⟩
  obtain ⟨g2, l2, r2, d2⟩ := h1.fz r1
  have q1 := q1.mono l2
  obtain ⟨b, d⟩ := a
  cases d with
  | int i => cases d2; exact ⟨i, rfl, q1 _ g2 H1 (.refl g2) r2 (.int _)⟩
  | _ => exact q1.elim
/-- a name of the module that keeps a value -/
structure GlobC (K : PySem.W.Frag) (mg : Str → Option Value) (y : Str) (d : D) : Prop where
  ex : ∃ u v, mg y = some u ∧ RelV v u ∧ ∀ g, Dn K g v d
theorem wGlob {y : Str} {d : D} (G : GlobC X.K X.mg y d) (hg : Gl X y := by rfl) (hd : (y == ("__debug__" : Str)) = false := by decide) : PE X (.Name y p) (tS X.K x (cE d)) := by
  obtain ⟨u, v, hm, rv, dn⟩ := G.ex
  exact sE_glob hg hm rv hd dn
theorem iR1 (B : Blt X.mg) (ha : PE X a (tS X.K x f)) {tg : Expr} (hg : Gl X "range" := by rfl) (hs : isStar a = false := by rfl) : PI X tg (.Call (.Name "range" p) [a] [] pos) (tI X.K x (rngI (aCons f aNil))) := sI_range1 hg B.range (aC ha aN hs) hs len1
theorem iR2 (B : Blt X.mg) (ha : PE X a (tS X.K x f)) (hb : PE X b (tS X.K x h)) {tg : Expr} (hg : Gl X "range" := by rfl) (hs : isStar a = false := by rfl) (hs2 : isStar b = false := by rfl) : PI X tg (.Call (.Name "range" p) [a, b] [] pos) (tI X.K x (rngI (aCons f (aCons h aNil)))) := sI_range2 hg B.range (aC ha (aC hb aN hs2) hs) hs hs2 len2
theorem noE : Passes (L2.CX X.prog X.w) X (fun _ _ _ => False) := fun _ _ _ _ _ _ _ ⟨_, _, _, _, _, _, _, _, _, _, _, _, z⟩ => z.elim
end
/-- a body that lets nothing out -/
def runDef0 (n : Nat) (b : DS) : FS := fun ds w => match runDef n b ds w with
  | .ok a w => .ok a w
  | _ => .bad
section
variable {P : Program} {w : World} {K : PySem.W.Frag} {mg : Str → Option Value} {base : Heap}
theorem sp0_of {xr : Exn → Value → Option Addr → Hp → Prop} {n m : Nat} {b : DS} {vs : List V} {H : Hp} {Q : VK} {E : XK} (h : spOf K xr n (runDef0 m b) vs H Q E) : spOf K xr n (runDef m b) vs H Q (fun _ _ _ => False) := by
  obtain ⟨l, g, ds, ww, dn, ok, q⟩ := h
  refine ⟨l, g, ds, ww, dn, ok, ?_⟩
  unfold runDef0 at q
  cases z : runDef m b ds ww with
  | ok a w2 => rw [z] at q; exact q
  | ex e w2 => rw [z] at q; exact q.elim
  | bad => rw [z] at q; exact q.elim
theorem Df.of0 {xr : Exn → Value → Option Addr → Hp → Prop} {y : Str} {st : Stmt} {N ps : List Str} {k : Nat} {b : DS} (T : TxtDef K mg y st) (S : FnScope N ps (defScope st))
    (hb : ∀ (kV doc pm : Value) (an : Option Addr) (cdv ct : Value) (us : List Value), us.length = ps.length → bindArgs (PySem.W.fnOf y y (defArgs st) (defBody st) (defScope st) .none kV doc pm an cdv ct) ⟨us, []⟩ = pure (ps.zip us))
    (hbody : ∀ (f : Addr) (cdv : Value) (A : Around) (outer : List Env) (s : Shared) (H : Hp) (E : XK), Room k (A.deeper (envOfC y (defScope st) s.heap.objs.size f cdv)) → A.guards = some [] →
      PSs (cxOf CX0 P w K mg base N y (defScope st) f cdv A outer s H E).nox (defBody st) (tSt K ⟨xr, fun _ _ _ => False⟩ b)) : Df P w K mg base xr CX0 (k + 1) y st ps (runDef0 N.length b) := by
  obtain ⟨f, fd, F, hm⟩ := T.ex
  exact ⟨f, fd, F, hm, run_body F S (fnG_len rfl) fun cdv A outer s H vs Q E hr hg hsp => ⟨_, (hbody f cdv A outer s H E hr hg).nox, body_start S.le (sp0_of hsp)⟩, F.binds hb⟩
end
end PV
set_option maxHeartbeats 4000000
/-! An error with a place: class BadText(PlaceError) with super().__init__(at); self.at = at. -/
namespace PV
open PySem PySem.W PySem.Spec PySem.Calls PyProof.Rows L2

/-! ### the text -/
def btA : Arguments := { posonlyargs := [], args := [{ arg := "self", annotation := none, pos := ⟨54, 17, 54, 21⟩ }, { arg := "at", annotation := none, pos := ⟨54, 23, 54, 25⟩ }], vararg := none, kwonlyargs := [], kw_defaults := [], kwarg := none, defaults := [] }
def btB : List Stmt :=
  [.Expr (.Call (.Attribute (.Call (.Name "super" ⟨55, 8, 55, 13⟩) [] [] ⟨55, 8, 55, 15⟩) "__init__" ⟨55, 8, 55, 24⟩) [.Name "at" ⟨55, 25, 55, 27⟩] [] ⟨55, 8, 55, 28⟩) ⟨55, 8, 55, 28⟩,
    .Assign [.Attribute (.Name "self" ⟨56, 8, 56, 12⟩) "at" ⟨56, 8, 56, 15⟩] (.Name "at" ⟨56, 18, 56, 20⟩) ⟨56, 8, 56, 20⟩]
def btS : Scope := { kind := .function, names := [(PySem.Str.ofString "self", .local), (PySem.Str.ofString "at", .local), (PySem.Str.ofString "__class__", .free), (PySem.Str.ofString "super", .globalImplicit)], isGenerator := false, isCoroutine := false, more := [] }
/-- what the top has written of the class at C and of its __init__ at f -/
structure BtTxt (p : Program) (K : Frag) (mg : Str → Option Value) (C f : Addr) : Prop where
  gC : mg "BadText" = some (.ref C)
  cls : ∃ nm q N bs bm sn sub ab col dd k0 k1 k2 k3 k5, K.lookup C = some (excClassObj nm q C N bs bm true sn sub ab col dd k0 k1 k2 k3 k5 "ValueError.__new__") ∧ HandSPX.refsVE bm = true
  sa : findIn K (.ref C) "__setattr__" = some (some (.builtin "object.__setattr__"))
  noN : findIn K (.ref C) "at" = some none
  iC : findIn K (.ref C) "__init__" = some (some (.ref f))
  tC : typeIn K (.ref f) = some (.type "function")
  kC : keepIn K (.ref C) = true
  exC : subIn K (.ref C) (.type "BaseException") = some true
  vaC : subIn K (.ref C) (.type "ValueError") = some true
  meC : mroIn K C (.ref C) = some true
  tyC : typeIn K (.ref C) = some (.type "type")
  hdC : hasDictIn K C = true
  sup : ks_superIn K C C "__init__" = some (some (.builtin "ValueError.__init__"))
  opq : nsIn K cStatics "thirdparty.any" = some none
  spr : mg "super" = none
  top : (p.main.scope.names.lookup ("super" : Str)).isSome = false
  fn : ∃ (oc : Value) (od : Option Addr) (doc pm : Value) (an : Option Addr) (cda : Addr) (ct : Value) (cc : Addr) (osl : Array (Option Value)),
    K.lookup f = some ⟨oc, od, .func (ksFn "__init__" "BadText.__init__" btA btB btS .none .none doc pm an (.ref cda) ct cc), osl⟩ ∧ codeIn K (.ref cda) "BadText.__init__" = true ∧
    (∃ (c1 : Value) (d1 : Option Addr) (vs : Array Value) (s1 : Array (Option Value)) (file : Str) (tf : Tok), K.lookup cda = some ⟨c1, d1, .fields vs, s1⟩ ∧ vs[2]? = some (.str file tf) ∧ ((p.main.file : Str) == file) = true) ∧
    (∃ (c2 : Value) (d2 : Option Addr) (s2 : Array (Option Value)), K.lookup cc = some ⟨c2, d2, .cell (some (.ref C)), s2⟩)
/-- what __init__ leaves of the fresh object at x -/
structure BtEnd (h h' : Heap) (x C dx t1 : Addr) (v : Value) : Prop where
  keep : ∀ b o, b ≠ x → h.get? b = some o → h'.get? b = some o
  obj : h'.get? x = some { cls := .ref C, dict := some dx, data := .fields #[.ref t1, .none, .none, .none, .bool false, .none] }
  dbig : h.objs.size ≤ dx
  dne : dx ≠ x
  ns : h'.Ns1 dx (fun y => if y = "at" then some v else none)
structure BtMade (h h' : Heap) (e C d : Addr) (v : Value) : Prop where
  keep : ∀ b o, h.get? b = some o → h'.get? b = some o
  new : h.objs.size ≤ e
  obj : ∃ oe vs, h'.get? e = some oe ∧ oe.cls = .ref C ∧ oe.dict = some d ∧ oe.data = .fields vs ∧ vs[1]? = some .none
  dbig : h.objs.size ≤ d
  dne : d ≠ e
  ns : h'.Ns1 d (fun y => if y = "at" then some v else none)
section
variable {prog : Program} {w : World} {A : Around} {E : Value → Shared → Prop} {R : Result → Shared → Prop} {s : Shared} {K : Frag} {mg : Str → Option Value} {C f : Addr}
theorem ld_at {M : Model} {name : Str} {L a : Addr} {cd : Value} {cc : Addr} {m : Str → Option Value} {x : Str} {pos : Pos} {v : Value} {Q : Value → Shared → Prop} (hn : s.heap.Ns L m) (hv : m x = some v) (h : Q v s)
    (hl : (ksEnv name btS L a cd cc).kindOf x = some .local := by rfl) (hd : (x == ("__debug__" : Str)) = false := by decide) : wpAny M A (eval (.Name x pos) (ksEnv name btS L a cd cc)) Q E s := wpAny_Name (wpAny_loadName_local rfl hl hn hv h) hd
theorem ve_call {h : Heap} {g : Array GenState} {d : Drawn} {t : Nat} {os : OsState} {nm q : Str} {N : Addr} {bs bm : List Value} {hdct : Bool} {sn : List Str} {sub : List Value} {ab : Bool} {col : Option Bool} {dd : Option Addr} {k0 k1 k2 k3 k5 : Option Value} {u e t0 : Addr} {v : Value} {Q : Value → Shared → Prop}
    (hC : h.get? C = some (excClassObj nm q C N bs bm hdct sn sub ab col dd k0 k1 k2 k3 k5 "ValueError.__new__")) (he : h.get? e = some (HandSPX.excO C t0)) (hu : h.get? u = some (kxs_mw "ValueError.__init__" e))
    (hq : ∀ h' t1, (∀ b o, b ≠ e → h.get? b = some o → h'.get? b = some o) → h'.get? e = some (HandSPX.excO C t1) → Q .none ⟨h', g, d, t, os⟩) : wpAny (model prog w) A (call (.ref u) [v]) Q E ⟨h, g, d, t, os⟩ := by
  refine wpAny_call (codeAny_of_tree ?_)
  show wpAny _ A.in1 (callAny (.ref u) ⟨[v], []⟩) _ _ _
  simp only [callAny]
  refine wpAny_bind (wpAny_load hu ?_); simp only [kxs_mw, show (Value.type "method-wrapper" == Value.type "method" || Value.type "method-wrapper" == Value.type "builtin_function_or_method" || Value.type "method-wrapper" == Value.type "method-wrapper") = true by decide, if_true]
  refine KFB.if_so (by decide) (wpAny_bind (check_bound_init F.excBase_ValueError.toExcCallFacts hC he rfl (wpAny_bind (wpAny_pure (wpAny_pure ⟨plainId_quiet F.excBase_ValueError.init.plain _, codeAny_builtin F.excBase_ValueError.initEntry ?_⟩)))))
  exact exc_init_tree (cls := .ref C) (t0 := t0) (dv := none) (c2 := .none) (c3 := .none) (b4 := .bool false) he (by rw [sizeLine_eq]; exact (by decide : 1 ≤ 16777216)) fun h3 k3 hx₃ ht₃ => hq h3 _ k3 hx₃
theorem bt_init (T : BtTxt prog K mg C f) {x t0 : Addr} {v : Value} (X : K.In s.heap) (G : s.heap.Ns mainGlobals mg) (B : ∃ mb, s.heap.Ns builtinsNs mb ∧ ∀ x : Str, x ≠ "__name__" → mb x = bootBuiltins x) (hlim : s.heap.NoLimit) (hx : s.heap.get? x = some (HandSPX.excO C t0)) (hnx : K.lookup x = none) (hroom : A.depth < recursionLimit)
    (hq : ∀ h' tk dx t1, BtEnd s.heap h' x C dx t1 v → R (.ok (.ret .none)) { s with heap := h', toks := tk }) : codeAny (model prog w) A (.call (.ref f) ⟨[.ref x, v], []⟩) R s := by
  obtain ⟨oc, od, doc, pm, an, cda, ct, cc, osl, ho, hcd, ⟨c1, d1, vs, s1, file, tf, hcode, hvs, hfile⟩, ⟨c2, d2, s2, hcell⟩⟩ := T.fn
  obtain ⟨nm, q, N, bs, bm, sn, sub, ab, col, dd, k0, k1, k2, k3, k5, hC, hbm⟩ := T.cls
  obtain ⟨mb, hmb, hbo⟩ := B
  have hcl : clsIn K C = some { name := nm, bases := bs, mro := .ref C :: bm, ns := N, qualname := q, hasDict := true, slotNames := sn, subclasses := sub, abstract := ab, collection := col, hasDel := false } := by unfold clsIn; rw [hC] <;> rfl
  have hloc : ∀ y ∈ [(("self" : Str), Value.ref x), (("at" : Str), v)], btS.names.lookup y.1 = some .local := fun y hy => by
    rcases List.mem_cons.mp hy with rfl | hy
    · rfl
    · rcases List.mem_cons.mp hy with rfl | hy
      · rfl
      · cases hy
  refine ks_codeAny_call_defAt (binds := [("self", .ref x), ("at", v)]) hroom (X _ _ ho) rfl hlim (codeRec_of X hcd) rfl (BindsTo.of_eq (by first | rfl | with_unfolding_all rfl)) (show ∀ y ∈ btS.names, y.2 ≠ .cell by decide) hloc (fun h₁ hns kp => ?_)
  have X₁ : K.In h₁ := X.keeps kp
  have hx₁ := kp _ _ hx
  have hxL : x < s.heap.objs.size := Heap.lt_size hx
  have ex : (fun y => ([(("self" : Str), Value.ref x), (("at" : Str), v)] : List (Str × Value)).reverse.lookup y) ("self" : Str) = some (.ref x) := by first | rfl | with_unfolding_all rfl | kernel_rfl
  have ea : (fun y => ([(("self" : Str), Value.ref x), (("at" : Str), v)] : List (Str × Value)).reverse.lookup y) ("at" : Str) = some v := by first | rfl | with_unfolding_all rfl | kernel_rfl
  have I₁ : InstAt h₁ x (HandSPX.excO C t0) C none := ⟨hx₁, rfl, rfl, trivial⟩
  obtain ⟨hg0, gens, dr, tk0, os⟩ := s
  dsimp only at *
  generalize tk0 + ([(("self" : Str), Value.ref x), (("at" : Str), v)] : List (Str × Value)).length = tk1
  show _root_.PySem.wpAt (model prog w) (A.deeper (ksEnv "BadText.__init__" btS hg0.objs.size f (.ref cda) cc)) (.func btB (ksEnv "BadText.__init__" btS hg0.objs.size f (.ref cda) cc)) (execs btB (ksEnv "BadText.__init__" btS hg0.objs.size f (.ref cda) cc)) _ _ _
  unfold btB
  refine ks_wpAt_execs_cons (ks_wpAt_Expr_any (ks_wpAt_MethodCall ?_))
  -- super()
  have hsub : mroIn K C (.ref C) = some true := T.meC
  refine ks_wpAt_super_base (env := ksEnv "BadText.__init__" btS hg0.objs.size f (.ref cda) cc) rfl rfl (by decide) rfl (X₁ _ _ ho) rfl rfl rfl (X₁ _ _ hcode) rfl hvs hfile T.top ?_
  refine ks_loadName_global rfl rfl (loadGlobal_builtin (env := ksEnv "BadText.__init__" btS hg0.objs.size f (.ref cda) cc) (G.keeps kp) T.spr (hmb.keeps kp) ((hbo _ (by decide)).trans (by first | boot_by_name | rfl | kernel_rfl)) ⟨rfl, ?_⟩)
  refine wpAny_loadName_free rfl rfl rfl ⟨_, X₁ _ _ hcell, rfl⟩ ?_
  refine wpAny_loadName_local rfl rfl hns ex ?_
  have hD1 := X₁ _ _ hC
  refine ks_wpAny_isType_cls hD1 rfl ⟨rfl, ?_⟩
  refine ks_wpAny_call_super hD1 rfl hx₁ rfl (fun c e => by cases e) (looks_mroIn X₁ hsub) (fun h2 hso k2 => ?_)
  -- the built-in __init__, bound to the object
  have X₂ : K.In h2 := X₁.keeps k2
  have hx₂ := k2 _ _ hx₁
  have I₂ : InstAt h2 x (HandSPX.excO C t0) C none := ⟨hx₂, rfl, rfl, trivial⟩
  have hI : Looks (model prog w) h2 (isInstance (.ref x) (.type "ValueError")) true := I₂.type.andThen (looks_subIn X₂ T.vaC)
  have sup := T.sup; unfold ks_superIn at sup; rw [hcl] at sup
  refine kxs_getMethod kxs_ValueError hso (looks_opaque X₂ T.opq) (l₀ := .ref C :: bm) (fun A Q E s k q => wpAny_bind ((looks_clsIn X₂ hcl) A _ E s k (wpAny_pure q))) rfl X₂ sup hI (ks_ne X₂ I₂ hcl) (by decide) ?_
  have kw : ∀ b o, h2.get? b = some o → (h2.push (kxs_mw "ValueError.__init__" x)).get? b = some o := fun b o e => Heap.get?_push_of_some _ e
  refine kxs_callWith (i := "ValueError.__init__") (x := x) (by rfl) ?_
  refine evalArgs_plain ?_
  show wpAny _ _ (spliced ((false, eval (.Name "at" ⟨55, 25, 55, 27⟩) (ksEnv "BadText.__init__" btS hg0.objs.size f (.ref cda) cc)) :: [])) _ _ _
  refine Calls.spliced_cons (ld_at (hns.keeps fun b o e => kw b o (k2 b o e)) ea (Calls.spliced_nil ?_))
  have hu : (h2.push (kxs_mw "ValueError.__init__" x)).get? h2.objs.size = some (kxs_mw "ValueError.__init__" x) := Heap.get?_push_at rfl rfl
  refine ⟨hu, ?_⟩
  show wpAny _ _ (call (.ref h2.objs.size) [v] []) _ _ _
  have hxw := kw _ _ hx₂
  have hCw := (X₂.keeps kw) _ _ hC
  refine ve_call hCw hxw hu fun h3 t1 k3 hx₃ => ?_
  show _root_.PySem.wpAt (model prog w) (A.deeper (ksEnv "BadText.__init__" btS hg0.objs.size f (.ref cda) cc)) _ _ _ _ _
  -- self.at = at
  have old : ∀ b o, b ≠ x → hg0.get? b = some o → h3.get? b = some o := fun b o hb e => k3 b o hb (kw b o (k2 b o (kp b o e)))
  have X₃ : K.In h3 := fun b o e => old b o (fun z => by rw [z, hnx] at e; cases e) (X b o e)
  have hns₃ : h3.Ns hg0.objs.size (fun y => ([(("self" : Str), Value.ref x), (("at" : Str), v)] : List (Str × Value)).reverse.lookup y) := by
    obtain ⟨oL, es, ep, hL, r⟩ := hns
    exact ⟨oL, es, ep, k3 _ _ (Nat.ne_of_gt hxL) (kw _ _ (k2 _ _ hL)), r⟩
  refine ks_wpAt_execs_cons (ks_wpAt_Assign_Attr (wpAt_of_wpAny (ld_at hns₃ ea (ld_at hns₃ ex ?_))))
  refine set_plain X₃ (ox := HandSPX.excO C t1) (od := none) ⟨hx₃, rfl, rfl, trivial⟩ T.sa ?_
  refine HandSPX.exc_osa X₃ hx₃ hcl (show HandSPX.refsVE (.ref C :: bm) = true from hbm) rfl T.noN (fun h₄ tk₄ dx k₄ dn dne hx₄ hn₄ => ?_)
  have big : hg0.objs.size ≤ h3.objs.size := by
    obtain ⟨oL, es, ep, hL, r⟩ := hns₃
    exact Nat.le_of_lt (Heap.lt_size hL)
  refine wpAt_of_wpAny (wpAny_execs_nil ?_)
  exact hq h₄ tk₄ dx t1 ⟨fun b o hb e => k₄ b o hb (old b o hb e), hx₄, Nat.le_trans big dn, dne, hn₄⟩
theorem bt_made (T : BtTxt prog K mg C f) {v : Value} (X : K.In s.heap) (G : s.heap.Ns mainGlobals mg) (B : ∃ mb, s.heap.Ns builtinsNs mb ∧ ∀ x : Str, x ≠ "__name__" → mb x = bootBuiltins x) (hlim : s.heap.NoLimit) (hroom : A.depth + 1 < recursionLimit)
    (hq : ∀ h' tk e d, BtMade s.heap h' e C d v → R (.ok (.ret (.ref e))) { s with heap := h', toks := tk }) : codeAny (model prog w) A (.call (.ref C) ⟨[v], []⟩) R s := by
  obtain ⟨nm, q, N, bs, bm, sn, sub, ab, col, dd, k0, k1, k2, k3, k5, hC, hbm⟩ := T.cls
  obtain ⟨mb, hmb, hbo⟩ := B
  obtain ⟨hp, g, d, tk, os⟩ := s
  dsimp only at *
  have k : ∀ b o, hp.get? b = some o → ((hp.push (kdv_tup [v])).push (HandSPX.excO C hp.objs.size)).get? b = some o := fun b o e => Heap.get?_push_of_some _ (Heap.get?_push_of_some _ e)
  have hget : ((hp.push (kdv_tup [v])).push (HandSPX.excO C hp.objs.size)).get? (hp.objs.size + 1) = some (HandSPX.excO C hp.objs.size) := by heap_get
  have hnx : K.lookup (hp.objs.size + 1) = none := by
    cases e : K.lookup (hp.objs.size + 1) with
    | none => rfl
    | some o => exact absurd (Nat.lt_of_succ_lt (Heap.lt_size (X _ _ e))) (Nat.lt_irrefl _)
  refine HandSPX.call_own F.excBase_ValueError (fun X => HandSPX.refsVE_contains X bm hbm) (X _ _ hC) (looks_findIn X T.iC) (fun self => bind_fn X self T.tC) (by rw [sizeLine_eq]; exact (by decide : 1 ≤ 16777216)) ?_
  refine bt_init (s := ⟨(hp.push (kdv_tup [v])).push (HandSPX.excO C hp.objs.size), g, d, tk, os⟩) T (X.keeps k) (G.keeps k) ⟨mb, hmb.keeps k, hbo⟩ (hlim.keeps k) hget hnx (show A.depth + 1 < recursionLimit from hroom) fun h' tk' dx t1 ⟨k', hx, dn, dne, hns⟩ => ?_
  have old : ∀ b o, hp.get? b = some o → h'.get? b = some o := fun b o e => k' b o (Nat.ne_of_lt (Nat.lt_succ_of_lt (Heap.lt_size e))) (k b o e)
  have z : hp.objs.size ≤ dx := by
    have q := dn
    dsimp only at q
    rw [Heap.size_push, Heap.size_push] at q
    omega
  exact ⟨rfl, hq h' tk' (hp.objs.size + 1) dx ⟨old, Nat.le_succ _, ⟨_, _, hx, rfl, rfl, rfl, rfl⟩, z, dne, hns⟩⟩
end
end PV
set_option maxHeartbeats 4000000
/-! raise BadText(k), and the defs that do. -/
namespace PV
open PySem PySem.Spec PyProof.Rows L2

theorem relO_at {v : V} {v' : Value} (r : RelV v v') (y : Str) : RelO (List.lookup y [(("at" : Str), v)]) (if y = "at" then some v' else none) := by
  by_cases h : y = "at"
  · subst h
    have q : List.lookup ("at" : Str) [(("at" : Str), v)] = some v := by simp [List.lookup]
    rw [if_pos rfl, q]; exact r
  · have q : (y == ("at" : Str)) = false := by simpa using h
    have q2 : List.lookup y [(("at" : Str), v)] = none := by simp [List.lookup, q]
    rw [if_neg h, q2]; trivial
section
variable {X : Cx} {C fI : Addr} {p pos pos2 : Pos} {a : Expr}
/-- BadText(e) -/
def tMkBt (C : Addr) (ta : TA) : L2.St → Hp → XK → Prop := fun σ H Q => ta σ H fun vs H1 => ∃ v, vs = [v] ∧ ∀ d, H1 d = none → Q (.ref C) (some d) (upd H1 d (.xd [(("at" : Str), v)]))
theorem pmk_bt {ta : TA} {k : Nat} (T : BtTxt X.prog X.K X.mg C fI) (hr : Room k X.A) (ha : PA X [a] ta) (hg : Gl X "BadText") (hs : isStar a = false) : PMk X (.Call (.Name "BadText" p) [a] [] pos) (tMkBt C ta) := by
  intro pins s σ H Q I h
  refine wpAny_Call_Name_kw (ld_glob I hg T.gC ?_)
  refine PySem.W.callWith_K (h₀ := X.base) I.ok.mod.kin T.kC (thn (ha.run pos pins s σ H _ I h) fun us s1 hh => ?_) (starEach_cons hs) rfl
  obtain ⟨vs, H1, I1, r1, v, rfl, q1⟩ := hh
  refine ⟨I1.kIn, ?_⟩
  obtain ⟨u, rfl, rv⟩ := vals1 r1
  show wpAny _ _ (call (.ref C) [u]) _ _ _
  have hlim := I1.nolimit
  have hglob := I1.mod.glob.keeps I1.bk
  have hblt : ∃ mb, s1.heap.Ns builtinsNs mb ∧ ∀ x : Str, x ≠ "__name__" → mb x = bootBuiltins x := by
    obtain ⟨mb, b1, b2⟩ := I1.mod.blt
    exact ⟨mb, b1.keeps I1.bk, b2⟩
  obtain ⟨hp, g, dr, tk, os⟩ := s1
  refine wpAny_call (bt_made T I1.kIn hglob hblt hlim (by have := hr.dp; omega) fun h' tk' e d M => ?_)
  show MkP X pins σ Q (.ref e) ⟨h', g, dr, tk', os⟩
  obtain ⟨oe, fv, hoe, hc, hd, hdat, h1⟩ := M.obj
  obtain ⟨G', g1, g2⟩ := restrict h' fun b => decide (b ≠ e)
  have gk : ∀ b, b ≠ e → G'.get? b = h'.get? b := fun b hb => g1 b (decide_eq_true hb)
  have ge : G'.get? e = none := g2 e (by simp)
  have old : ∀ b o, hp.get? b = some o → G'.get? b = some o := fun b o q => by
    have nb : b ≠ e := Nat.ne_of_lt (Nat.lt_of_lt_of_le (Heap.lt_size q) M.new)
    rw [gk b nb]; exact M.keep b o q
  have ob : ObjOk X.prog X.w (upd H1 d (.xd [(("at" : Str), v)])) G' d (.xd [(("at" : Str), v)]) := ⟨_, M.ns.at (fun o q => by rw [gk d M.dne]; exact q), fun y => relO_at rv y⟩
  have J : Inv X pins σ (upd H1 d (.xd [(("at" : Str), v)])) ⟨G', g, dr, tk', os⟩ := I1.laid (t' := tk') old M.dbig ob
  refine ⟨e, oe, fv, ⟨G', g, dr, tk', os⟩, _, .ref C, some d, rfl, J, fun b o q => ?_, ge, hoe, ⟨hc, hd⟩, hdat, h1, ?_, rfl, I1.bare, raises_own T.exC T.tyC, q1 d (I1.hok.fresh M.dbig)⟩
  · have nb : b ≠ e := fun z => by
      have q' : G'.get? b = some o := q
      rw [z, ge] at q'; cases q'
    rw [← gk b nb]; exact q
  · rw [upd_ne (fun z => M.dne z.symm)]
    exact I1.hok.fresh M.new
/-- raise BadText(e) -/
def raiseAt (f : DE) : DS := fun st => (f st).bind fun a st => match a.2 with
  | .int n => .ex ⟨"BadText", some n⟩ st.w
  | _ => .bad
theorem zRaise {x : XC} {f : DE} {k : Nat} (hc : X.calm = true) (T : BtTxt X.prog X.K X.mg C fI) (hr : Room k X.A) (tk : Takes X fun cls d _ H => x.E cls d H) (hxr : ∀ n d H, H d = some (.xd [(("at" : Str), V.int n)]) → x.xr ⟨"BadText", some n⟩ (.ref C) (some d) H)
    (ha : PE X a (tS X.K x f)) (hg : Gl X "BadText" := by rfl) (hs : isStar a = false := by rfl) : PS X (.Raise (some (.Call (.Name "BadText" p) [a] [] pos)) none pos2) (tSt X.K x (raiseAt f)) :=
  (ps_raise hc tk (pmk_bt T hr (sA_cons ha sA_nil hs) hg hs)).imp fun D σ H ⟨c, g, st, r, q⟩ => by
    unfold raiseAt at q
    refine ⟨c, g, st, r, ?_⟩
    cases z : f st with
    | bad => unfold aCons; rw [z] at q ⊢; exact q
    | ex e w => unfold aCons; rw [z] at q ⊢; exact q
    | ok av st1 =>
      unfold aCons
      rw [z] at q ⊢
      intro vs g1 H1 l1 r1 hd
      cases hd with
      | @cons v _ _ _ dv hd =>
      cases hd
      refine ⟨v, rfl, fun d hd => ?_⟩
      obtain ⟨b, dd⟩ := av
      cases dd with
      | int n =>
        cases dv
        exact q (.ref C) (some d) g1 _ l1 (r1.new hd).toFin (hxr n d _ upd_same)
      | _ => exact q.elim
end
section
variable {P : Program} {w : World} {K : PySem.W.Frag} {mg : Str → Option Value} {base : Heap}
/-- a def that may raise -/
theorem Df.ofX {xr : Exn → Value → Option Addr → Hp → Prop} {y : Str} {st : Stmt} {N ps : List Str} {k : Nat} {b : DS} (T : TxtDef K mg y st) (S : FnScope N ps (defScope st))
    (hb : ∀ (kV doc pm : Value) (an : Option Addr) (cdv ct : Value) (us : List Value), us.length = ps.length → bindArgs (PySem.W.fnOf y y (defArgs st) (defBody st) (defScope st) .none kV doc pm an cdv ct) ⟨us, []⟩ = pure (ps.zip us))
    (hbody : ∀ (f : Addr) (cdv : Value) (A : Around) (outer : List Env) (s : Shared) (H : Hp) (E : XK), Room k (A.deeper (envOfC y (defScope st) s.heap.objs.size f cdv)) → A.guards = some [] →
      PSs (cxOf (L2.CX P w) P w K mg base N y (defScope st) f cdv A outer s H E) (defBody st) (tSt K ⟨xr, E⟩ b)) : Df P w K mg base xr (L2.CX P w) (k + 1) y st ps (runDef N.length b) := by
  obtain ⟨f, fd, F, hm⟩ := T.ex
  exact ⟨f, fd, F, hm, run_body F S (fnG_len rfl) fun cdv A outer s H vs Q E hr hg hsp => ⟨_, hbody f cdv A outer s H E hr hg, body_start S.le hsp⟩, F.binds hb⟩
/-- in such a def what is raised goes out -/
theorem takesX {y : Str} {N : List Str} {sc : Scope} {f : Addr} {cdv : Value} {A : Around} {outer : List Env} {s : Shared} {H : Hp} {E : XK} : Takes (cxOf (L2.CX P w) P w K mg base N y sc f cdv A outer s H E) fun cls d _ H => E cls d H := takes_of rfl rfl rfl rfl
end
end PV
namespace PV
open PySem PySem.Spec PyProof.Rows L2
/-- what the top has written of the errors -/
structure TxtX (P : Program) (K : PySem.W.Frag) (mg : Str → Option Value) (xr : Exn → Value → Option Addr → Hp → Prop) (C fI : Addr) : Prop where
  bt : BtTxt P K mg C fI
  pl : ∀ n d H, H d = some (.xd [(("at" : Str), V.int n)]) → xr ⟨"BadText", some n⟩ (.ref C) (some d) H
end PV
set_option maxHeartbeats 4000000
/-! An exception that is caught and kept. -/
namespace PV
open PySem PySem.Spec PyProof.Rows L2

/-- a kept exception of the class cls, its dict at d -/
def ExD (cls : Value) (d a : Addr) : HO := .ext fun h => ∃ (oe : Obj) (vs : Array Value), h.get? a = some oe ∧ Zc cls (some d) oe ∧ oe.data = .fields vs
theorem exD_ok {P : Program} {w : World} {H : Hp} {h : Heap} {a d : Addr} {cls : Value} {oe : Obj} {vs : Array Value} (e : h.get? a = some oe) (z : Zc cls (some d) oe) (dt : oe.data = .fields vs) : ObjOk P w H h a (ExD cls d a) :=
  ⟨⟨oe, vs, e, z, dt⟩, ⟨oe, e⟩, fun h1 h2 ⟨o1, v1, a1, a2, a3⟩ st => ⟨o1, v1, st _ a1, a2, a3⟩⟩
theorem exD_ntbl {cls : Value} {d a : Addr} : ∀ ps, ExD cls d a ≠ .tbl ps := fun ps z => by unfold ExD at z; cases z
section
variable {X : Cx} {pins : List (Addr × Obj)} {σ : L2.St} {H : Hp} {s : Shared}
/-- an object of the heap, not known till now, is known from now on -/
theorem adopt {a d : Addr} {cls : Value} {oe : Obj} {vs : Array Value} (I : Inv X pins σ H s) (hn : H a = none) (e : s.heap.get? a = some oe) (z : Zc cls (some d) oe) (dt : oe.data = .fields vs) (n0 : X.s_0.heap.get? a = none) (nL : a ≠ X.env.locals) (hp : ∀ p ∈ X.pn ++ pins, p.1 ≠ a) :
    Inv X pins σ (upd H a (ExD cls d a)) s := by
  have ne : ∀ {b : Addr} {o : HO}, H b = some o → b ≠ a := fun {b o} q => ne_of_none q hn
  refine ⟨I.ok, I.os, I.bare, ⟨I.base.keep, I.base.slot, fun b o q n hx => ?_, I.base.there, fun b xs q => ?_, fun b o u q => ?_, fun b ps q => ?_⟩, I.loc, I.cell, ?_, fun y c q => ?_, fun p q => ?_, I.hok.laidN (fun _ _ z => z) hn (exD_ok e z dt), I.len⟩
  · rw [upd_ne (fun w => by rw [w, n0] at q; cases q)]
    exact I.base.free b o q n hx
  · have q' := I.base.tups b xs q
    rw [upd_ne (ne q')]; exact q'
  · have q' := I.base.frzs b o u q
    rw [upd_ne (ne q')]; exact q'
  · obtain ⟨more, q'⟩ := I.base.tbls b ps q
    exact ⟨more, by rw [upd_ne (ne q')]; exact q'⟩
  · rw [upd_ne (fun w => nL w.symm)]; exact I.free
  · rw [upd_ne (fun w => ?_)]
    · exact I.freeC y c q
    · obtain ⟨v, o, ho, hd⟩ := I.cell y c q
      rw [w, e] at ho; cases ho
      rw [dt] at hd; cases hd
  · obtain ⟨p1, p2, p3, p4, p5⟩ := I.pin p q
    exact ⟨p1, by rw [upd_ne (hp p q)]; exact p2, p3, p4, p5⟩
end
/-- what the clause 'except x as n: y = n' wishes: n in slot i, y in slot j -/
def wKeep (K : PySem.W.Frag) (c : Value) (i j : Nat) (D : Ends) : WX := fun cls d σ H =>
  PySem.W.exmOne K cls c = some true ∧ ∃ dd, d = some dd ∧ ∀ a, H a = none → D.nx (((σ.set i (some (.ref a))).set j (some (.ref a))).set i none) (upd H a (ExD cls dd a))
section
variable {X : Cx} {x n y : Str} {c : Value} {i j : Nat} {body : List Stmt} {np py p1 p2 pos pos' : Pos} {tb : WX → TS}
theorem ps_try_keep (hs : X.stack = X.env :: X.outer) (hf : X.env.frame = some X.env.locals) (hex : X.ex = []) (hN : X.N.Nodup) (hi : X.N[i]? = some n) (hj : X.N[j]? = some y) (hln : X.env.kindOf n = some .local) (hly : X.env.scope.names.lookup y = some .local) (hc : Names X x c)
    (hnd : (n == ("__debug__" : Str)) = false) (hnc : (n == ("__classdict__" : Str)) = false)
    (hb : ∀ (W : WX) (pn : List (Addr × Obj)) (xe : Value → Shared → Prop), Takes (X.tr pn xe) W → PassesOwn (model X.prog X.w) X.A X.env xe → PSs (X.tr pn xe) body (tb W)) :
    PS X (.Try body [.ExceptHandler (some (.Name x np)) (some n) [.Assign [.Name y py] (.Name n p1) p2] pos'] [] [] pos) (fun D σ H => tb (wKeep X.K c i j D) D σ H) := by
  refine ⟨fun pins s σ H D I h => ?_⟩
  have ok := I.ok
  have hfr : X.A.frames = some (X.env :: X.outer) := by rw [ok.frames, hs]
  have hloc : Loc X.env.scope n := .inl hln
  refine wpAny_Try_except ?_
  refine wpAny_mono ((hb (wKeep X.K c i j D) (X.pn ++ pins) _ (fun u s' xx => ?_) PassesOwn.looking).run [] s σ H D (I.toTry _) h) (fun f s1 hsp => ?_) (fun e s1 he => he)
  · obtain ⟨a, B, sI, pins', σ', H', cls, d, rfl, J', nb, up, sky, na, os, ag, hb1, dd, rfl, hgo⟩ := xx
    have J : Inv X pins σ' H' sI := J'.ofTry ok
    have sky' : Sky B (X.env :: X.outer) a (Zc cls (some dd)) X.env.locals s'.heap := hs ▸ sky
    show wpAny (model X.prog X.w) X.A (noteFrame (.ref a) X.env) _ _ _
    refine Sky.land Zc.steady hfr hf sky' fun h3 fl3 up3 => ?_
    have J3 : Inv X pins σ' H' { s' with heap := h3 } := J.landed nb fl3.1 (up.trans up3) os ag
    obtain ⟨oe3, vs3, he3, hz3, hd3⟩ := fl3.there
    have notFr : ∀ {h : Heap} {o : Obj} {vs : Array Value}, h.FunFrames B (X.env :: X.outer) → h.get? a = some o → o.data = .fields vs → a ∉ frs (X.env :: X.outer) := fun ff e dq hm => by
      obtain ⟨_, o', e', hnf⟩ := ff.mem hm
      rw [e] at e'; cases e'; exact hnf _ dq
    have nfr := notFr fl3.2.2.1 he3 hd3
    have nI : sI.heap.get? a = none := by
      cases q : sI.heap.get? a with
      | none => rfl
      | some o =>
        have z := nb a o q (by rw [hs]; exact nfr)
        rw [fl3.2.1] at z; cases z
    have n0 : X.s_0.heap.get? a = none := by
      cases q : X.s_0.heap.get? a with
      | none => rfl
      | some o =>
        obtain ⟨o', z⟩ := J.base.there a o q (by rw [hex]; exact fun w => nomatch w)
        rw [nI] at z; cases z
    have npin : ∀ p ∈ X.pn ++ pins, p.1 ≠ a := fun p hp w => by
      have z := (J.pin p hp).1
      rw [w, nI] at z; cases z
    have nL : a ≠ X.env.locals := fun z => nfr (List.mem_filterMap.mpr ⟨X.env, List.mem_cons_self, by rw [hf, z]⟩)
    have nF : a ∉ X.fs := fun hm => by
      obtain ⟨e, he, q⟩ := List.mem_filterMap.mp hm
      exact nfr (List.mem_filterMap.mpr ⟨e, List.mem_cons_of_mem _ he, q⟩)
    have S3 := J3.suite he3 hd3 na nL nF
    refine wpAny_handleBy_cons (codeAny_handlers_test ?_) (by intro q; cases q)
    have LT : PySem.W.Looks (model X.prog X.w) h3 (typeOf (.ref a)) cls := fun A Q E s k q => wpAny_typeOf_ref (k _ _ he3) (by rw [hz3.1]; exact q)
    have LM := PySem.W.exm_one (M := model X.prog X.w) (J3.kIn) LT hb1
    have test : ∀ {Q : Value → Shared → Prop} {E : Value → Shared → Prop}, Q c { s' with heap := h3 } → wpAny (model X.prog X.w) (X.A.mark (some (.ref a))) (eval (.Name x np) X.env) Q E { s' with heap := h3 } := fun {Q E} q => by
      obtain ⟨hg, hdb, hm | ⟨hm, hv, hnn⟩⟩ := hc
      · exact ld_glob (X := X.suite a ((a, oe3) :: (X.pn ++ pins))) S3 hg hm q hdb
      · exact ld_blt (X := X.suite a ((a, oe3) :: (X.pn ++ pins))) S3 hg hm hv q hnn hdb
    refine test (LM.here (codeAny_handlers_suite_as (HandSPX.lands_againZ fl3 fun h4 fl4 up4 => ?_)))
    have J4 : Inv X pins σ' H' { s' with heap := h4 } := J.landed nb fl4.1 ((up.trans up3).trans up4) os ag
    obtain ⟨oe4, vs4, he4, hz4, hd4⟩ := fl4.there
    have S4 := J4.suite he4 hd4 na nL nF
    refine store_ok (X := X.suite a ((a, oe4) :: (X.pn ++ pins))) (v := .ref a) S4 hN hi hloc rfl (fun s5 S5 => ?_) (.inr hln)
    have hsu : PSs (X.suite a ((a, oe4) :: (X.pn ++ pins))) [.Assign [.Name y py] (.Name n p1) p2] (tSeq (tAsg (tVar i) (gName j)) fun D σ H => D.nx σ H) :=
      pss_cons (ps_set (i := j) hN hj (.inl hly) (pe_var hi (.inl hln) hnd hnc) (by first | rfl | kernel_rfl) (.inr hly)) pss_nil
    refine wpAny_mono (hsu.run [] s5 _ H' { nx := fun σ6 H6 => σ6 = (σ'.set i (some (.ref a))).set j (some (.ref a)) ∧ H6 = H', rt := fun _ _ => False } S5 ?_) (fun f s6 hsp => ?_) (fun _ _ z => False.elim z)
    · have hlt : i < σ'.length := by rw [J.len]; exact (List.getElem?_eq_some_iff.mp hi).1
      exact ⟨.ref a, by rw [List.getElem?_set_self hlt], rfl, rfl⟩
    · cases f with
      | next =>
        obtain ⟨σ6, H6, S6, rfl, rfl⟩ := hsp
        obtain ⟨pa, pb, pc, pd, _⟩ := S6.pin (a, oe4) (List.mem_append_left _ List.mem_cons_self)
        have J6 : Inv X pins ((σ'.set i (some (.ref a))).set j (some (.ref a))) H6 s6 := S6.unsuite ok
        have K6 := adopt J6 pb pa hz4 hd4 n0 nL npin
        exact gone_ok K6 hN hi hln fun s7 J7 => ⟨_, _, J7, hgo a pb⟩
      | brk => obtain ⟨_, _, _, z⟩ := hsp; exact z.elim
      | cont => obtain ⟨_, _, _, z⟩ := hsp; exact z.elim
      | ret u => obtain ⟨_, _, _, _, _, z⟩ := hsp; exact z.elim
  · cases f with
    | next =>
      obtain ⟨σ', H', J', q⟩ := hsp
      exact wpAny_execs_nil ⟨σ', H', J'.ofTry ok, q⟩
    | brk => obtain ⟨σ', H', J', q⟩ := hsp; exact ⟨σ', H', J'.ofTry ok, q⟩
    | cont => obtain ⟨σ', H', J', q⟩ := hsp; exact ⟨σ', H', J'.ofTry ok, q⟩
    | ret u => obtain ⟨v, σ', H', J', r, q⟩ := hsp; exact ⟨v, σ', H', J'.ofTry ok, r, q⟩
end
end PV
set_option maxHeartbeats 4000000
/-! A lambda is made: what the abstract heap is then. -/
namespace PV
open PySem PySem.Spec PyProof.Rows L2 LamX

/-- behind the making: the heap as it was, or the table longer and the code object new -/
def LamH (P : Addr) (q : Str) (c : Addr) (H H1 : Hp) : Prop := (H1 = H ∧ H c = some (CodeO c q)) ∨ ∃ ps more, H P = some (.tbl ps) ∧ H c = none ∧ H1 = upd (upd H P (.tbl (ps ++ more))) c (CodeO c q)
section
variable {X : Cx} {pins : List (Addr × Obj)} {σ : L2.St} {H : Hp} {s : Shared}
theorem lam_make3 {T : List (Addr × Str)} {c P : Addr} {params : Arguments} {body : Expr} {scope : Scope} {pos : Pos} {E : Value → Shared → Prop} {Q : Value → Shared → Prop} (I : Inv X pins σ H s) (TB : TabB X.base X.mg c P) (hcode : X.env.code = .ref c)
    (hm : (P, X.env.qual ++ "<lambda>") ∈ T) (hu : ∀ p ∈ T, p.1 = P → p.2 = X.env.qual ++ "<lambda>") (hT : Tabs T H) (hdef : defaultsOf params X.env = ([], [])) (hfree : ∀ y ∈ scope.names, y.2 = .free → ∃ c, X.env.cells.lookup y.1 = some c)
    (h : ∀ (f c' : Addr) (pm ctv : Value) (H1 : Hp) (s' : Shared), Inv X pins σ H1 s' → LamH P (X.env.qual ++ "<lambda>") c' H H1 → Tabs T H1 →
      s'.heap.get? f = some (PySem.W.kla_obj "<lambda>" (X.env.qual ++ "<lambda>") params body scope (cloFrom X.env.cells scope.names []) pm c' ctv) → H1 f = none → f ∉ frs X.stack → Q (.ref f) s') :
    wpAny (model X.prog X.w) X.A (eval (.Lambda params body scope pos) X.env) Q E s := by
  obtain ⟨ps, hP, ht, ha⟩ := hT _ hm
  refine PySem.W.kla_eval hdef ?_
  have bP : s.heap.BuiltinsAt X.mg P := TB.bm.keeps I.bk
  have hP' : s.heap.get? P = some { cls := .none, data := .fields ps } := I.hok P _ hP
  have away : ∀ f, s.heap.objs.size ≤ f → f ∉ frs X.stack := fun f hf z => by
    rcases List.mem_cons.mp (I.stkSub _ z) with e | e
    · have := I.lt
      rw [← e] at this
      exact absurd (Nat.lt_of_lt_of_le this hf) (Nat.lt_irrefl _)
    · exact I.nofs hf e
  cases hc : codeAmong pos ps.toList with
  | some cv =>
    obtain ⟨c', rfl, hco⟩ := ha pos cv hc
    refine PySem.W.kla_makeFunctionHit (mg := X.mg) (c := c) (P := P) (ps := ps) (closure_ok hfree) I.ok.glob (I.mod.glob.keeps I.bk) hcode (TB.code.keeps I.bk) hP' ht hc bP fun ctv h' tk hx hsz => ?_
    exact h h'.objs.size c' _ ctv H _ (I.kept fun b o e => Heap.get?_push_of_some _ (hx b o e)) (.inl ⟨rfl, hco⟩) hT (Heap.get?_push_size _ rfl) (I.hok.fresh hsz) (away _ hsz)
  | none =>
    refine PySem.W.kla_makeFunction (mg := X.mg) (c := c) (P := P) (ps := ps) (closure_ok hfree) I.ok.glob (I.mod.glob.keeps I.bk) hcode (TB.code.keeps I.bk) hP' ht hc TB.gP bP fun c' ctv h' tk hx hge hlt hrec htb => ?_
    obtain ⟨_, oc, vs, t, e2, hoc, hd, hv⟩ := hrec
    cases e2
    have nC : H c' = none := I.hok.fresh hge
    have hsz : s.heap.objs.size ≤ h'.objs.size := Nat.le_trans hge (Nat.le_of_lt hlt)
    have nPc : P ≠ c' := ne_of_none hP nC
    have kept : ∀ b o, H b = some o → (∀ ps, o ≠ .tbl ps) → upd (upd H P (.tbl (ps ++ #[rawInt pos.line, rawInt pos.col, .ref c']))) c' (CodeO c' (X.env.qual ++ "<lambda>")) b = some o := fun b o e n => by
      rw [upd_ne (ne_of_none e nC), upd_ne (fun z => n ps (by rw [z, hP] at e; cases e; rfl))]; exact e
    refine h h'.objs.size c' _ ctv _ _ (inv_table (t' := tk) (more := #[rawInt pos.line, rawInt pos.col, .ref c']) (h' := h'.push _) I hP (fun b o hb e => Heap.get?_push_of_some _ (hx b o hb e)) (Heap.get?_push_of_some _ htb) hge ⟨oc, vs, t, Heap.get?_push_of_some _ hoc, hd, hv⟩)
      (.inr ⟨ps, _, hP, nC, rfl⟩) (fun p hp => ?_) (Heap.get?_push_size _ rfl) ?_ (away _ hsz)
    · by_cases hb : p.1 = P
      · rw [hu p hp hb, hb]
        have eL : (ps ++ #[rawInt pos.line, rawInt pos.col, .ref c']).toList = ps.toList ++ [rawInt pos.line, rawInt pos.col, .ref c'] := by simp
        refine ⟨_, by rw [upd_ne nPc.symm.symm, upd_same], by rw [eL]; exact PySem.TriplesOk_snoc _ _ _ _ ht, fun p' cv hcv => ?_⟩
        rw [eL] at hcv
        rcases among_app _ ht hcv with z | z
        · obtain ⟨c0, e1, e2⟩ := ha p' cv z
          exact ⟨c0, e1, kept _ _ e2 codeO_ne⟩
        · exact ⟨c', z, upd_same⟩
      · obtain ⟨qs, a1, a2, a3⟩ := hT p hp
        refine ⟨qs, by rw [upd_ne (ne_of_none a1 nC), upd_ne hb]; exact a1, a2, fun p' cv hcv => ?_⟩
        obtain ⟨c0, e1, e2⟩ := a3 p' cv hcv
        exact ⟨c0, e1, kept _ _ e2 codeO_ne⟩
    · rw [upd_ne (Nat.ne_of_gt hlt), upd_ne (Nat.ne_of_gt (Nat.lt_of_lt_of_le (Heap.lt_size hP') hsz))]
      exact I.hok.fresh hsz
end
section
variable {K : PySem.W.Frag} {c : C} {g : G} {σ : L2.St} {H H1 : Hp} {st : S} {P ca : Addr} {q : Str}
/-- a state of data stands over it -/
theorem LamH.rel (L : LamH P q ca H H1) (r : Rel K c g σ H st) (hT : Tabs g.tb H1) : Rel K c g σ H1 st := by
  rcases L with ⟨rfl, _⟩ | ⟨ps, more, hP, nC, rfl⟩
  · exact r
  have kp : ∀ b o, H b = some o → (∀ ps, o ≠ .tbl ps) → upd (upd H P (.tbl (ps ++ more))) ca (CodeO ca q) b = some o := fun b o e n => by
    rw [upd_ne (ne_of_none e nC), upd_ne (fun z => n ps (by rw [z, hP] at e; cases e; rfl))]; exact e
  have f := r.toFin
  have nP : ¬ g.wa P := fun x => by
    obtain ⟨w1, w2, w3, e, h⟩ := x
    have hw := f.wr
    cases hww : st.w with
    | none => rw [hww] at hw; rw [show g.hm = none from hw] at e; cases e
    | some dr =>
      rw [hww] at hw
      obtain ⟨a', l', c', e', h1, h2, _⟩ := hw
      rw [e] at e'; cases e'
      rcases h with rfl | rfl
      · rw [hP] at h1; unfold drO at h1; cases h1
      · rw [hP] at h2; cases h2
  refine ⟨⟨fun a o e => kp a o (f.fh a o e) (fun ps z => f.nt a ps (by rw [e, z])), fun a o e n z w => kp a o (f.kp a o e n z w) n, f.le, f.nf, ?_, f.wf, f.wn, f.kt, ⟨hT, f.tt.2⟩, fun a ps' e => ?_, f.nt⟩, fun i s e => ?_, r.len, r.dj⟩
  · have hw := f.wr
    cases hww : st.w with
    | none => rw [hww] at hw; exact hw
    | some dr =>
      rw [hww] at hw
      obtain ⟨a, l, c', e', h1, h2, h3⟩ := hw
      exact ⟨a, l, c', e', kp _ _ h1 (by unfold drO; exact fun _ z => nomatch z), kp _ _ h2 (fun _ z => nomatch z), h3⟩
  · by_cases ea : a = ca
    · rw [ea, upd_same] at e
      exact absurd (Option.some.inj e) (codeO_ne ps')
    · rw [upd_ne ea] at e
      by_cases eb : a = P
      · rw [eb]; exact f.th P ps hP
      · rw [upd_ne eb] at e; exact f.th a ps' e
  · have h0 := r.sl i s e
    cases s with
    | no => trivial
    | fz d => exact h0
    | ow d =>
      obtain ⟨p, o, a1, a2, a3, a4, a5, a6⟩ := h0
      exact ⟨p, o, a1, kp p o a2 (core_ntbl a3.core), a3, a4, a5, a6⟩
theorem LamH.code (L : LamH P q ca H H1) : H1 ca = some (CodeO ca q) := by
  rcases L with ⟨rfl, h⟩ | ⟨ps, more, hP, nC, rfl⟩
  · exact h
  · exact upd_same
end
end PV
set_option maxHeartbeats 4000000
/-! The lambda is called, two frames above its maker. -/
namespace PV
open PySem PySem.Spec PyProof.Rows L2 LamX

/-- the maker's ground, seen through one frame more -/
theorem un_chain {fs : List Addr} {L1 : Addr} {H H1 H2 : Hp} {h h1 h2 : Heap} (a : Un fs [] H H1 h h1) (b : Un (L1 :: fs) [] H1 H2 h1 h2) (hL : h.get? L1 = none) : Un fs [] H H2 h h2 := by
  have ne : ∀ {x : Addr} {o : Obj}, h.get? x = some o → x ≠ L1 := fun {x o} e z => by rw [z, hL] at e; cases e
  have no : ∀ {x : Addr}, x ∉ ([] : List Addr) := fun z => nomatch z
  refine ⟨fun x o e n f _ => ?_, fun x o e n f _ => ?_, fun x o e n _ => ?_, fun x o e _ => ?_, fun x xs e => b.tups x xs (a.tups x xs e), fun x o u e => b.frzs x o u (a.frzs x o u e), fun x ps e => ?_⟩
  · exact b.keep x o (a.keep x o e n f no) (a.free x o e n no) (fun z => (List.mem_cons.mp z).elim (ne e) f) no
  · obtain ⟨sl, e1⟩ := a.slot x o e n f no
    obtain ⟨sl2, e2⟩ := b.slot x _ e1 (a.free x o e n no) (List.mem_cons_of_mem _ f) no
    exact ⟨sl2, e2⟩
  · by_cases f : x ∈ fs
    · obtain ⟨sl, e1⟩ := a.slot x o e n f no
      exact b.free x _ e1 (a.free x o e n no) no
    · exact b.free x o (a.keep x o e n f no) (a.free x o e n no) no
  · obtain ⟨o1, e1⟩ := a.there x o e no
    exact b.there x o1 e1 no
  · obtain ⟨m1, e1⟩ := a.tbls x ps e
    obtain ⟨m2, e2⟩ := b.tbls x _ e1
    exact ⟨m1 ++ m2, by rw [e2, Array.append_assoc]⟩
section
variable {X : Cx} {pins : List (Addr × Obj)} {σ : L2.St} {H : Hp} {s : Shared}
/-- work(), in a def whose entry at s2 sees the maker's state -/
theorem pe_act2 {CXg : CXT} {Eg : XK} {Ng : List Str} {qg : Str} {sg : Scope} {g f c' : Addr} {cdg pm ctv : Value} {params : Arguments} {body : Expr} {scope : Scope} {k i : Nat} {a : Str} {pn : List (Addr × Obj)} {xe : Value → Shared → Prop} {W : WX} {tb : XK → TE} {p1 p2 : Pos}
    {A2 : Around} {o2 : List Env} {s2 : Shared} {H2 : Hp} (hun : ∀ {HZ : Hp} {hz : Heap}, Un (frs o2) [] H2 HZ s2.heap hz → Un (frs X.stack) [] H HZ s.heap hz)
    (I : Inv X pins σ H s) (L : LamS X.env.scope scope) (hf : s.heap.get? f = some (PySem.W.kla_obj "<lambda>" (X.env.qual ++ "<lambda>") params body scope (cloFrom X.env.cells scope.names []) pm c' ctv)) (hfn : H f = none) (hfr : f ∉ frs X.stack)
    (hbind : bindArgs (PySem.W.kla_fn "<lambda>" (X.env.qual ++ "<lambda>") params body scope (cloFrom X.env.cells scope.names []) pm (.ref c') ctv) ⟨[], []⟩ = pure [])
    (tk : Takes ((cxOf CXg X.prog X.w X.K X.mg X.base Ng qg sg g cdg A2 o2 s2 H2 Eg).tr pn xe) W) (hr : Room (k + 1) (A2.deeper (envOfC qg sg s2.heap.objs.size g cdg))) (hgd : A2.guards = some [])
    (hbody : ∀ (A : Around) (outer : List Env) (s : Shared) (H : Hp) (E : XK), A.guards = some [] → Room k (A.deeper (lamEnv X scope s.heap.objs.size f c')) → PE (lamCx X A outer s H E scope f c') body (tb E))
    (hN : Ng[i]? = some a) (hv : Vis sg a) (hd : (a == ("__debug__" : Str)) = false := by decide) (hcd : (a == ("__classdict__" : Str)) = false := by decide) :
    PE ((cxOf CXg X.prog X.w X.K X.mg X.base Ng qg sg g cdg A2 o2 s2 H2 Eg).tr pn xe) (.Call (.Name a p1) [] [] p2)
      (fun σZ HZ Q => σZ[i]? = some (some (.ref f)) ∧ HZ c' = some (CodeO c' (X.env.qual ++ "<lambda>")) ∧ tb (WE W σZ) σ HZ Q) := by
  refine ⟨fun pz sz σZ HZ Q IZ h => ?_⟩
  obtain ⟨hs, hc, ht⟩ := h
  refine wpAny_Call_Name_kw (thn ((pe_var (pos := p1) (i := i) hN hv hd hcd).run pz sz σZ HZ (fun v H1 => v = .ref f ∧ H1 = HZ) IZ ⟨.ref f, hs, rfl, rfl⟩) fun u s1 ⟨v, H1, I1, r1, q1, q2⟩ => ?_)
  subst q1 q2
  obtain rfl : u = Value.ref f := r1
  have un : Un (frs X.stack) [] H H1 s.heap s1.heap := hun I1.base
  have of1 : s1.heap.get? f = some (PySem.W.kla_obj "<lambda>" (X.env.qual ++ "<lambda>") params body scope (cloFrom X.env.cells scope.names []) pm c' ctv) := un.keep f _ hf hfn hfr (fun z => nomatch z)
  refine PySem.W.callWith_F0 ⟨_, _, _, _, of1⟩ ?_
  obtain ⟨⟨oc, vs, t, hoc, hdc, hvc⟩, _, _⟩ := I1.hok c' _ hc
  have rc : codeAny (model X.prog X.w) (A2.deeper (envOfC qg sg s2.heap.objs.size g cdg)) (.call (.ref f) ⟨[], []⟩) (CR (L2.CX X.prog X.w) (envOfC qg sg s2.heap.objs.size g cdg :: o2) X.prog X.w H1 s1 Q (WE W σZ)) s1 := by
    refine PySem.W.kla_callFunE hr.depth of1 rfl L.co L.gen rfl ⟨c', oc, vs, t, rfl, hoc, hdc, hvc⟩ ?_
    rw [hbind]
    refine wpAny_pure (wpAny_newFunctionEnv (fun y hy => (L.own y hy).2) (fun y hy => absurd hy (by simp)) (fun h₁ hns hsb => ⟨I1.nolimit.fresh _ hsb, ?_⟩) L.kind)
    show codeAny _ _ (.expr body (lamEnv X scope s1.heap.objs.size f c')) _ _
    have kp : ∀ b o, s1.heap.get? b = some o → h₁.get? b = some o := fun b o e => hsb.extBut b o (Nat.ne_of_lt (Heap.lt_size e)) (Heap.get?_push_of_some _ e)
    have J : Inv (lamCx X (A2.deeper (envOfC qg sg s2.heap.objs.size g cdg)) (envOfC qg sg s2.heap.objs.size g cdg :: o2) s1 H1 (WE W σZ) scope f c') [] σ H1 { s1 with heap := h₁, toks := s1.toks + ([] : List (Str × Value)).length } :=
      lam_start2 I L I1.env0 hr.hd un hns kp
    refine PySem.W.kla_codeExpr (wpAny_mono ((hbody (A2.deeper (envOfC qg sg s2.heap.objs.size g cdg)) _ s1 H1 _ hgd (hr.deeper _)).run [] _ _ H1 Q J ht) (fun v s' hq => ?_) fun e s' hq => hq)
    obtain ⟨w', H', J', rv, q⟩ := hq
    exact ⟨w', H', J'.os, J'.bare, J'.base, J'.hok, rv, q⟩
  refine wpAny_call (codeAny_mono rc fun r s' hq => ?_)
  match r, hq with
  | .error e, hq => exact passAt tk σZ pz H1 s1 e s' I1 hq
  | .ok (.ret u), hq => exact I1.after hq
  | .ok .next, hq => exact False.elim hq
  | .ok .brk, hq => exact False.elim hq
  | .ok .cont, hq => exact False.elim hq
end
end PV
set_option maxHeartbeats 4000000
/-! `_law_caught(work)`, work a lambda that raises. -/
namespace PV
open PySem PySem.Spec PyProof.Rows L2 LamX

theorem tS_mono {K : PySem.W.Frag} {xr : Exn → Value → Option Addr → Hp → Prop} {E E' : XK} {f : DE} {σ : L2.St} {H : Hp} {Q Q' : VK} (hE : ∀ c d H, E c d H → E' c d H) (hQ : ∀ v H, Q v H → Q' v H) (h : tS K ⟨xr, E⟩ f σ H Q) : tS K ⟨xr, E'⟩ f σ H Q' := by
  obtain ⟨c, g, st, r, q⟩ := h
  refine ⟨c, g, st, r, ?_⟩
  cases z : f st with
  | bad => rw [z] at q; exact q
  | ex e w => rw [z] at q; exact fun cls dx g' H' l f x => hE _ _ _ (q cls dx g' H' l f x)
  | ok a st' => rw [z] at q; exact fun b g' H' l r a => hQ _ _ (q b g' H' l r a)
/-- the text of `_law_caught` -/
def cgB (a1 a2 a3 t1 t2 t3 t4 t5 t6 t7 t8 t9 r1 r2 : Pos) : List Stmt :=
  [.Assign [.Name "caught" a1] (.Constant .none 0 a2) a3,
   .Try [.Expr (.Call (.Name "work" t1) [] [] t2) t3] [.ExceptHandler (some (.Name "PlaceError" t4)) (some "problem") [.Assign [.Name "caught" t5] (.Name "problem" t6) t7] t8] [] [] t9,
   .Return (some (.Name "caught" r1)) r2]
def cgN : List Str := ["work", "caught", "problem"]
/-- `_law_caught` and PlaceError as the top has made them -/
structure CgTxt (K : PySem.W.Frag) (mg : Str → Option Value) (st : Stmt) (CP : Addr) : Prop where
  d : TxtDef K mg "_law_caught" st
  sc : FnScope cgN ["work"] (defScope st)
  loc : (defScope st).names.lookup ("caught" : Str) = some .local
  prb : (defScope st).names.lookup ("problem" : Str) = some .local
  wrk : (defScope st).names.lookup ("work" : Str) = some .local
  gpe : (defScope st).names.lookup ("PlaceError" : Str) = some .globalImplicit
  body : ∃ a1 a2 a3 t1 t2 t3 t4 t5 t6 t7 t8 t9 r1 r2, defBody st = cgB a1 a2 a3 t1 t2 t3 t4 t5 t6 t7 t8 t9 r1 r2
  bind : ∀ (kV doc pm : Value) (an : Option Addr) (cdv ct : Value) (us : List Value), us.length = 1 → bindArgs (PySem.W.fnOf "_law_caught" "_law_caught" (defArgs st) (defBody st) (defScope st) .none kV doc pm an cdv ct) ⟨us, []⟩ = pure ((["work"] : List Str).zip us)
  gP : mg "PlaceError" = some (.ref CP)
/-- what is wished of the exception that is kept -/
def Ek (K : PySem.W.Frag) (CP : Addr) (Q : VK) : XK := fun cls d H => PySem.W.exmOne K cls (.ref CP) = some true ∧ ∃ dd, d = some dd ∧ ∀ a, H a = none → Q (.ref a) (upd H a (ExD cls dd a))
section
variable {X : Cx} {pins : List (Addr × Obj)} {σ : L2.St} {H : Hp} {s : Shared}
theorem pe_caught {N1 : List Str} {q1 : Str} {sc1 : Scope} {g1 : Addr} {cd1 : Value} {E1 : XK} {st2 : Stmt} {CP : Addr} {f c' : Addr} {pm ctv : Value} {params : Arguments} {body : Expr} {scope : Scope} {k i : Nat} {a : Str} {xr : Exn → Value → Option Addr → Hp → Prop} {fe : DE} {p p' pos : Pos}
    (CT : CgTxt X.K X.mg st2 CP) (I : Inv X pins σ H s) (L : LamS X.env.scope scope) (hf : s.heap.get? f = some (PySem.W.kla_obj "<lambda>" (X.env.qual ++ "<lambda>") params body scope (cloFrom X.env.cells scope.names []) pm c' ctv)) (hfn : H f = none) (hfr : f ∉ frs X.stack)
    (hbind : bindArgs (PySem.W.kla_fn "<lambda>" (X.env.qual ++ "<lambda>") params body scope (cloFrom X.env.cells scope.names []) pm (.ref c') ctv) ⟨[], []⟩ = pure [])
    (hr : Room (k + 2) (X.A.deeper (envOfC q1 sc1 s.heap.objs.size g1 cd1))) (hgd : X.A.guards = some [])
    (hbody : ∀ (A : Around) (outer : List Env) (s : Shared) (H : Hp) (E : XK), A.guards = some [] → Room k (A.deeper (lamEnv X scope s.heap.objs.size f c')) → PE (lamCx X A outer s H E scope f c') body (tS X.K ⟨xr, E⟩ fe))
    (hN : N1[i]? = some a) (hv : Vis sc1 a) (hgl : sc1.names.lookup ("_law_caught" : Str) = some .globalImplicit) (hd : (a == ("__debug__" : Str)) = false := by decide) (hcd : (a == ("__classdict__" : Str)) = false := by decide) :
    PE (cxOf CX0 X.prog X.w X.K X.mg X.base N1 q1 sc1 g1 cd1 X.A X.stack s H E1).nox (.Call (.Name "_law_caught" p) [.Name a p'] [] pos)
      (fun σZ HZ Q => σZ[i]? = some (some (.ref f)) ∧ HZ c' = some (CodeO c' (X.env.qual ++ "<lambda>")) ∧ tS X.K ⟨xr, Ek X.K CP Q⟩ fe σ HZ fun _ _ => False) := by
  obtain ⟨g2, fd2, F2, hm2⟩ := CT.d.ex
  obtain ⟨oc, od, kV, doc, pm2, an, cdv, ct, osl, rfl, lk, hcd2⟩ := F2.ex
  refine ⟨fun pz sz σZ HZ Q IZ h => ?_⟩
  obtain ⟨h1, h2, h3⟩ := h
  refine wpAny_Call_Name_kw (ld_glob IZ hgl hm2 ?_)
  refine PySem.W.callWith_K (h₀ := X.base) IZ.ok.mod.kin F2.kp (thn ((pa_cons (pe_var (pos := p') (i := i) (X := (cxOf CX0 X.prog X.w X.K X.mg X.base N1 q1 sc1 g1 cd1 X.A X.stack s H E1).nox) hN hv hd hcd) pa_nil).run pos pz sz σZ HZ (fun vs H1 => vs = [.ref f] ∧ H1 = HZ) IZ ⟨.ref f, h1, rfl, rfl⟩) fun us s3 ⟨vs, H3, I3, r3, e1, e2⟩ => ⟨I3.kIn, ?_⟩) rfl rfl
  subst e1 e2
  obtain ⟨u, rfl, ru⟩ := vals1 r3
  obtain rfl : u = Value.ref f := ru
  show wpAny _ _ (call (.ref g2) [.ref f]) _ _ _
  have hL : s.heap.get? s.heap.objs.size = none := by
    cases q : s.heap.get? s.heap.objs.size with
    | none => rfl
    | some o => exact absurd (Heap.lt_size q) (Nat.lt_irrefl _)
  have hr3 : Room (k + 1 + 1) (X.A.deeper (envOfC q1 sc1 s.heap.objs.size g1 cd1)) := hr
  have hun : ∀ {HZ : Hp} {hz : Heap}, Un (frs (envOfC q1 sc1 s.heap.objs.size g1 cd1 :: X.stack)) [] H3 HZ s3.heap hz → Un (frs X.stack) [] H HZ s.heap hz := fun {HZ hz} un => un_chain (L1 := s.heap.objs.size) I3.base un hL
  have rc : codeAny (model X.prog X.w) (X.A.deeper (envOfC q1 sc1 s.heap.objs.size g1 cd1)) (.call (.ref g2) ⟨[.ref f], []⟩) (CR CX0 (envOfC q1 sc1 s.heap.objs.size g1 cd1 :: X.stack) X.prog X.w H3 s3 Q (fun _ _ _ => False)) s3 := by
    refine run_ofS (N := cgN) (ps := ["work"]) (us := [.ref f]) (vs := [.ref f]) lk hcd2 CT.sc hr3 I3.env0 (.of_eq (CT.bind kV doc pm2 an cdv ct [.ref f] rfl)) (.cons rfl .nil) rfl fun hr4 => ?_
    obtain ⟨a1, a2, a3, t1, t2, t3, t4, t5, t6, t7, t8, t9, r1, r2, eb⟩ := CT.body
    rw [eb]
    have nd : cgN.Nodup := CT.sc.nd
    refine ⟨_, PSs.nox (pss_cons (ps_set (i := 1) nd rfl (.inl CT.loc) pe_non rfl (.inr CT.loc)) (pss_cons
      (ps_try_keep (i := 2) (j := 1) rfl rfl rfl nd rfl rfl CT.prb CT.loc ⟨CT.gpe, by decide, .inl CT.gP⟩ (by decide) (by decide) (fun W pn xe tk _ =>
        pss_one (ps_expr (pe_act2 (X := X) (s := s) (H := H) (CXg := CX0) (Eg := fun _ _ _ => False) (i := 0) (tb := fun E => tS X.K ⟨xr, E⟩ fe) (A2 := X.A.deeper (envOfC q1 sc1 s.heap.objs.size g1 cd1)) (o2 := envOfC q1 sc1 s.heap.objs.size g1 cd1 :: X.stack) (s2 := s3) (H2 := H3) hun I L hf hfn hfr hbind tk hr4 hgd hbody rfl (.inl CT.wrk)) rfl)))
      (pss_one (ps_ret (pe_var (i := 1) rfl (.inl CT.loc) (by decide) (by decide)))))), ?_⟩
    refine ⟨rfl, h2, tS_mono (fun cls d H' ⟨x1, dd, x2, x3⟩ => ⟨x1, dd, x2, fun b hb => ⟨_, rfl, x3 b hb⟩⟩) (fun _ _ z => z.elim) h3⟩
  refine wpAny_call (codeAny_mono rc fun r s' hq => ?_)
  match r, hq with
  | .error e, hq => exact False.elim hq
  | .ok (.ret u), hq => exact I3.after hq
  | .ok .next, hq => exact False.elim hq
  | .ok .brk, hq => exact False.elim hq
  | .ok .cont, hq => exact False.elim hq
end
end PV
set_option maxHeartbeats 4000000
/-! `_law_error(lambda: e)`, e raising a BadText. -/
namespace PV
open PySem PySem.Spec PyProof.Rows L2 LamX

/-- what is asked of a kept exception -/
def rIsD (K : PySem.W.Frag) (D : Addr) : List V → Hp → VK → Prop := fun xs H Q => ∃ (a d : Addr) (c : V) (cv : Value) (b : Bool) (fs : List (Str × V)), xs = [.ref a, c] ∧ H a = some (ExD (.ref D) d a) ∧ H d = some (.xd fs) ∧ (∀ u, RelV c u → u = cv) ∧ PySem.W.kitOne K (.ref D) cv = some b ∧ Q (.bl b) H
section
variable {X : Cx} {D : Addr}
theorem exD_get {pins : List (Addr × Obj)} {σ : L2.St} {H : Hp} {s : Shared} {a d : Addr} {fs : List (Str × V)} (I : Inv X pins σ H s) (h : H a = some (ExD (.ref D) d a)) (hd : H d = some (.xd fs)) :
    ∃ oe od, PySem.W.InstAt s.heap a oe D (some od) ∧ ∀ y, ∃ o, PySem.W.lookIn y od = some o ∧ RelO (fs.lookup y) o := by
  obtain ⟨⟨oe, vs, e1, ⟨z1, z2⟩, e3⟩, _, _⟩ := I.hok a _ h
  obtain ⟨mA, hns, hr⟩ : ObjOk X.prog X.w H s.heap d (.xd fs) := I.hok d _ hd
  obtain ⟨od, ho, hl⟩ := lookIn_ns hns
  exact ⟨oe, od, ⟨e1, z1, by unfold PySem.W.notCls; rw [e3] <;> rfl, by rw [z2]; exact ho⟩, fun y => ⟨mA y, hl y, hr y⟩⟩
theorem call_isD (C : L2.ExcC X.K D) : CallR X (.builtin "isinstance") (rIsD X.K D) := by
  intro pins s σ H xs us Q I r h
  obtain ⟨a, d, c, cv, b, fs, rfl, ha, hd, hcv, e, q⟩ := h
  obtain ⟨u1, u2, rfl, r1, r2⟩ := vals2 r
  obtain rfl : u1 = Value.ref a := r1
  have ec := hcv _ r2
  subst ec
  obtain ⟨oe, od, J, _⟩ := exD_get I ha hd
  have hcl : (PySem.W.clsIn X.K D).isSome = true := by
    obtain ⟨cd, hc, _⟩ := PySem.W.any_some C.hd
    rw [hc]; rfl
  exact PySem.W.kia_one (PySem.W.kitx_exc (od := some od) hcl C.hg C.hk C.hs C.ha C.hn C.ht C.hm) I.kIn J e (fun z => nomatch z) fun tk => ⟨.bl b, H, I.kept (t' := tk) fun _ _ z => z, rfl, q⟩
/-- e.n, e a kept exception -/
theorem pe_xfD {e : Expr} {te : TE} {pos : Pos} {n : Str} (T : L2.XfC X.K D) (hno : PySem.W.findIn X.K (.ref D) n = some none) (he : PE X e te) (hb : attributeBase e n X.env (eval e X.env) = eval e X.env) :
    PE X (.Attribute e n pos) (fun σ H Q => te σ H fun x H1 => ∃ (a d : Addr) (fs : List (Str × V)) (v : V), x = .ref a ∧ H1 a = some (ExD (.ref D) d a) ∧ H1 d = some (.xd fs) ∧ fs.lookup n = some v ∧ Q v H1) := by
  refine ⟨fun pins s σ H Q I h => attr_of hb (thn (he.run pins s σ H _ I h) fun u s1 hh => ?_)⟩
  obtain ⟨x, H1, I1, rx, a, d, fs, v, rfl, ha, hd, l, q⟩ := hh
  obtain rfl : u = Value.ref a := rx
  obtain ⟨oe, od, J, look⟩ := exD_get I1 ha hd
  obtain ⟨o, l1, l2⟩ := look n
  rw [l] at l2
  obtain ⟨u, hu, ru⟩ := RelO.some_of (v := v) (o := o) l2
  exact HandSPX.exc_get I1.kIn J T.ga T.gg T.exC (PySem.W.findObj_own T.hdC hno rfl (by rw [l1, hu])) (handed_of ru) ⟨v, H1, I1.tok _, ru, q⟩
end
theorem pss_dead {X : Cx} {sts : List Stmt} : PSs X sts fun _ _ _ => False := ⟨fun pins s σ H D I h => h.elim⟩
end PV
set_option maxHeartbeats 4000000
/-! `_law_error(lambda: e)` as a function of data. -/
namespace PV
open PySem PySem.Spec PyProof.Rows L2 LamX

def frzSl : Sl → Sl
  | .ow d => .fz d
  | s => s
/-- every owned thing is given away -/
def frz (st : S) : S := { st with env := st.env.map frzSl }
section
variable {K : PySem.W.Frag} {c : C} {g g' : G} {σ : L2.St} {H H' : Hp} {st : S} {w : W}
theorem frz_step : ∀ {l : List Sl} {n : Nat} (h : n < l.length), (l.take (n + 1)).map frzSl ++ l.drop (n + 1) = ((l.take n).map frzSl ++ l.drop n).set n (frzSl l[n]) := by
  intro l
  induction l with
  | nil => intro n h; cases h
  | cons a l ih =>
    intro n h
    cases n with
    | zero => rfl
    | succ n => simp only [List.take_succ_cons, List.map_cons, List.drop_succ_cons, List.cons_append, List.set_cons_succ, List.getElem_cons_succ]; rw [ih (by simpa using h)]
theorem Rel.frzN (r : Rel K c g σ H st) : ∀ n, n ≤ st.env.length → ∃ g', g.Le g' ∧ Rel K c g' σ H { st with env := (st.env.take n).map frzSl ++ st.env.drop n } := by
  intro n
  induction n with
  | zero => intro _; exact ⟨g, .refl g, r⟩
  | succ n ih =>
    intro h
    obtain ⟨g1, l1, r1⟩ := ih (Nat.le_of_succ_le h)
    rw [frz_step h]
    have e : ((st.env.take n).map frzSl ++ st.env.drop n)[n]? = some st.env[n] := by
      rw [List.getElem?_append_right (by rw [List.length_map, List.length_take]; omega), List.length_map, List.length_take, Nat.min_eq_left (Nat.le_of_succ_le h), Nat.sub_self, List.getElem?_drop, Nat.add_zero, List.getElem?_eq_getElem h]
    cases q : st.env[n] with
    | ow d =>
      rw [q] at e
      obtain ⟨p, g2, _, l2, r2, _⟩ := r1.freeze (i := n) e
      exact ⟨g2, l1.trans l2, r2⟩
    | no =>
      rw [q] at e
      refine ⟨g1, l1, ?_⟩
      rw [show (((st.env.take n).map frzSl ++ st.env.drop n).set n (frzSl .no)) = (st.env.take n).map frzSl ++ st.env.drop n from by
        obtain ⟨hl, e'⟩ := List.getElem?_eq_some_iff.mp e
        show List.set _ n Sl.no = _
        rw [← e', List.set_getElem_self]]
      exact r1
    | fz d =>
      rw [q] at e
      refine ⟨g1, l1, ?_⟩
      rw [show (((st.env.take n).map frzSl ++ st.env.drop n).set n (frzSl (.fz d))) = (st.env.take n).map frzSl ++ st.env.drop n from by
        obtain ⟨hl, e'⟩ := List.getElem?_eq_some_iff.mp e
        show List.set _ n (Sl.fz d) = _
        rw [← e', List.set_getElem_self]]
      exact r1
theorem Rel.frzAll (r : Rel K c g σ H st) : ∃ g', g.Le g' ∧ Rel K c g' σ H (frz st) := by
  obtain ⟨g', l, r'⟩ := Rel.frzN r st.env.length (Nat.le_refl _)
  rw [List.take_length, List.drop_length, List.append_nil] at r'
  exact ⟨g', l, r'⟩
theorem frz_no {i : Nat} {d : D} (h : (frz st).env[i]? = some (.ow d)) : False := by
  have h : (st.env.map frzSl)[i]? = some (.ow d) := h
  rw [List.getElem?_map, Option.map_eq_some_iff] at h
  obtain ⟨s, _, e⟩ := h
  cases s <;> cases e
/-- behind what an exception left -/
theorem Rel.out (r : Rel K c g σ H (frz st)) (l : g.Le g') (f : Fin K c g' H' w) : Rel K c g' σ H' { frz st with w := w } := by
  refine ⟨f, fun i s e => ?_, r.len, fun i j p a _ => ?_⟩
  · have h := r.sl i s e
    cases s with
    | no => trivial
    | fz d => obtain ⟨v, e1, dv⟩ := h; exact ⟨v, e1, dv.mono l⟩
    | ow d => exact (frz_no e).elim
  · obtain ⟨⟨d, e⟩, _⟩ := a
    exact (frz_no e).elim
end
/-- the text of `_law_error`, as far as it is read -/
def erB (a1 a2 a3 a4 a5 b1 b2 b3 b4 b5 b6 b7 b8 b9 b10 : Pos) (k k2 : Nat) (rest : List Stmt) : List Stmt :=
  .Assign [.Name "caught" a1] (.Call (.Name "_law_caught" a2) [.Name "work" a3] [] a4) a5 ::
  .If (.Call (.Name "isinstance" b1) [.Name "caught" b2, .Name "BadText" b3] [] b4) [.Return (some (.Tuple [.Constant (.str "BadText") k b5, .Attribute (.Name "caught" b6) "at" b7] k2 b8)) b9] [] b10 :: rest
def erN : List Str := ["work", "caught"]
structure ErTxt (K : PySem.W.Frag) (mg : Str → Option Value) (st1 st2 : Stmt) (C CP : Addr) : Prop where
  cg : CgTxt K mg st2 CP
  d : TxtDef K mg "_law_error" st1
  sc : FnScope erN ["work"] (defScope st1)
  wrk : (defScope st1).names.lookup ("work" : Str) = some .local
  loc : (defScope st1).names.lookup ("caught" : Str) = some .local
  gcg : (defScope st1).names.lookup ("_law_caught" : Str) = some .globalImplicit
  gis : (defScope st1).names.lookup ("isinstance" : Str) = some .globalImplicit
  gbt : (defScope st1).names.lookup ("BadText" : Str) = some .globalImplicit
  body : ∃ a1 a2 a3 a4 a5 b1 b2 b3 b4 b5 b6 b7 b8 b9 b10 k k2 rest, defBody st1 = erB a1 a2 a3 a4 a5 b1 b2 b3 b4 b5 b6 b7 b8 b9 b10 k k2 rest
  bind : ∀ (kV doc pm : Value) (an : Option Addr) (cdv ct : Value) (us : List Value), us.length = 1 → bindArgs (PySem.W.fnOf "_law_error" "_law_error" (defArgs st1) (defBody st1) (defScope st1) .none kV doc pm an cdv ct) ⟨us, []⟩ = pure ((["work"] : List Str).zip us)
  isi : mg "isinstance" = none
  gC : mg "BadText" = some (.ref C)
  ex : L2.ExcC K C
  xf : L2.XfC K C
  noN : PySem.W.findIn K (.ref C) "at" = some none
  kit : PySem.W.kitOne K (.ref C) (.ref C) = some true
  exm : PySem.W.exmOne K (.ref C) (.ref CP) = some true
/-- what an exception of the walk is -/
def xrB (C : Addr) : Exn → Value → Option Addr → Hp → Prop := fun e cls dx H => ∃ n d, e = ⟨"BadText", some n⟩ ∧ cls = .ref C ∧ dx = some d ∧ H d = some (.xd [(("at" : Str), V.int n)])
def errE (f : DE) : DE := fun st => match f (frz st) with
  | .ex e w => (match e.at' with
    | some n => .ok (false, .tup [.str "BadText", .int n]) { frz st with w := w }
    | none => .bad)
  | _ => .bad
section
variable {X : Cx} {x : XC}
theorem sE_err {st1 st2 : Stmt} {C CP c P : Addr} {params : Arguments} {body : Expr} {scope : Scope} {k : Nat} {fe : DE} {p lpos pos : Pos} (ET : ErTxt X.K X.mg st1 st2 C CP) (hxr : x.xr = xrB C)
    (TB : TabB X.base X.mg c P) (hcode : X.env.code = .ref c) (htb : tbOf X.K = [(P, X.env.qual ++ "<lambda>")]) (hr : Room (k + 3) X.A) (hgd : X.A.guards = some []) (L : LamS X.env.scope scope) (hdef : defaultsOf params X.env = ([], []))
    (hbind : ∀ (q : Str) (cl : List (Str × Addr)) (pm cv ctv : Value), bindArgs (PySem.W.kla_fn "<lambda>" q params body scope cl pm cv ctv) ⟨[], []⟩ = pure [])
    (hbody : ∀ (A : Around) (outer : List Env) (s : Shared) (H : Hp) (E : XK) (f c' : Addr), A.guards = some [] → Room k (A.deeper (lamEnv X scope s.heap.objs.size f c')) → PE (lamCx X A outer s H E scope f c') body (tS X.K ⟨x.xr, E⟩ fe)) (hg : Gl X "_law_error") :
    PE X (.Call (.Name "_law_error" p) [.Lambda params body scope lpos] [] pos) (tS X.K x (errE fe)) := by
  obtain ⟨g1, fd1, F1, hm1⟩ := ET.d.ex
  obtain ⟨oc, od, kV, doc, pm1, an, cdv, ct, osl, rfl, lk, hcd1⟩ := F1.ex
  refine ⟨fun pins s σ H Q I ⟨c0, g0, st, r0, q⟩ => ?_⟩
  obtain ⟨g, l0, r⟩ := r0.frzAll
  have q := Post.mono q l0
  unfold errE at q
  cases z : fe (frz st) with
  | ok a st' => rw [z] at q; exact q.elim
  | bad => rw [z] at q; exact q.elim
  | ex e w =>
    rw [z] at q
    have T := r.toFin.tt
    have tm : (P, X.env.qual ++ "<lambda>") ∈ g.tb := by rw [T.2, htb]; exact List.mem_singleton.mpr rfl
    have tu : ∀ p ∈ g.tb, p.1 = P → p.2 = X.env.qual ++ "<lambda>" := fun p hp _ => by
      rw [T.2, htb] at hp
      rw [List.mem_singleton.mp hp]
    refine wpAny_Call_Name_kw (ld_glob I hg hm1 ?_)
    refine PySem.W.callWith_K (h₀ := X.base) I.ok.mod.kin F1.kp ?_ (by rfl) (by rfl)
    show wpAny _ _ (spliced ((false, eval (.Lambda params body scope lpos) X.env) :: backTo pos (starEach [] X.env))) _ _ s
    refine Calls.spliced_cons (lam_make3 I TB hcode tm tu T.1 hdef (L.has I.ok) fun f c' pm ctv H1 s' I1 LH T1 hf hfn hfr => Calls.spliced_nil ⟨I1.kIn, ?_⟩)
    have r1 := LH.rel r T1
    have rc : codeAny (model X.prog X.w) X.A (.call (.ref g1) ⟨[.ref f], []⟩) (CR CX0 X.stack X.prog X.w H1 s' Q (fun _ _ _ => False)) s' := by
      refine run_ofS (N := erN) (ps := ["work"]) (us := [.ref f]) (vs := [.ref f]) (k := k + 2) lk hcd1 ET.sc hr I1.env0 (.of_eq (ET.bind kV doc pm1 an cdv ct [.ref f] rfl)) (.cons rfl .nil) rfl fun hr2 => ?_
      obtain ⟨a1, a2, a3, a4, a5, b1, b2, b3, b4, b5, b6, b7, b8, b9, b10, k1, k2, rest, eb⟩ := ET.body
      rw [eb]
      have nd : erN.Nodup := ET.sc.nd
      refine ⟨_, PSs.nox (pss_cons (ps_set (i := 1) nd rfl (.inl ET.loc) (pe_caught (i := 0) ET.cg I1 L hf hfn hfr (hbind _ _ _ _ _) hr2 hgd (fun A outer s H E hg hr => hbody A outer s H E f c' hg hr) rfl (.inl ET.wrk) ET.gcg (by decide) (by decide)) rfl (.inr ET.loc))
        (pss_cons (ps_if (pt_val (pe_callB (call_isD ET.ex) ET.gis ET.isi (by decide +kernel) (pa_cons (pe_var (i := 1) rfl (.inl ET.loc) (by decide) (by decide)) (pa_cons (pe_glob (v := .ref C) ET.gbt ET.gC rfl) pa_nil))) (isTrue_of rfl))
          (pss_one (ps_ret (pe_tup (pa_cons pe_str (pa_cons (pe_xfD ET.xf ET.noN (pe_var (i := 1) rfl (.inl ET.loc) (by decide) (by decide)) rfl) pa_nil))))) pss_nil) pss_dead)), ?_⟩
      refine ⟨rfl, LH.code, c0, g, frz st, r1, ?_⟩
      rw [z]
      intro cls dx g' H' l f' hx
      rw [hxr] at hx
      obtain ⟨n, d, rfl, rfl, rfl, hd⟩ := hx
      refine ⟨ET.exm, d, rfl, fun a ha => ?_⟩
      have hne : d ≠ a := ne_of_none hd ha
      have hd2 : upd H' a (ExD (.ref C) d a) d = some (.xd [(("at" : Str), V.int n)]) := by rw [upd_ne hne]; exact hd
      refine ⟨.ref a, rfl, a, d, .ref C, .ref C, true, _, rfl, upd_same, hd2, fun u ru => ru, ET.kit, true, rfl, ?_⟩
      refine ⟨.ref a, rfl, a, d, _, .int n, rfl, upd_same, hd2, by simp [List.lookup], by show 2 ≤ sizeLine; decide, fun p hp => ?_⟩
      have f2 := f'.new (o := ExD (.ref C) d a) ha exD_ntbl
      have r3 := Rel.out r1 l f2
      obtain ⟨g4, l4, r4, d4⟩ := new_tup r3 hp (xs := [.str "BadText", .int n]) (ds := [.str "BadText", .int n]) (.cons (.str _) (.cons (.int _) .nil))
      exact q (.ref p) g4 _ (l.trans l4) r4 d4
    refine wpAny_call (codeAny_mono rc fun r s2 hq => ?_)
    match r, hq with
    | .error e, hq => exact False.elim hq
    | .ok (.ret u), hq => exact I1.after hq
    | .ok .next, hq => exact False.elim hq
    | .ok .brk, hq => exact False.elim hq
    | .ok .cont, hq => exact False.elim hq
end
end PV
set_option maxHeartbeats 4000000
/-! The law's def, which makes lambdas; calls by keyword, as the printing program writes them. -/
namespace PV
open PySem PySem.Spec PyProof.Rows L2 LamX

/-- a def that makes lambdas: its code object at c, the table at Q -/
structure TxtLaw (K : PySem.W.Frag) (mg : Str → Option Value) (y : Str) (st : Stmt) (c Q : Addr) : Prop where
  ex : ∃ f fd, Fun K y y st f fd ∧ mg y = some (.ref f) ∧ fd.code = .ref c
  tbl : tbOf K = [(Q, lamQ y)]
section
variable {P : Program} {w : World} {K : PySem.W.Frag} {mg : Str → Option Value} {base : Heap}
theorem Df.ofL0 {xr : Exn → Value → Option Addr → Hp → Prop} {y : Str} {st : Stmt} {N ps : List Str} {k : Nat} {b : DS} {c Qt : Addr} (T : TxtLaw K mg y st c Qt) (S : FnScope N ps (defScope st))
    (hb : ∀ (kV doc pm : Value) (an : Option Addr) (cdv ct : Value) (us : List Value), us.length = ps.length → bindArgs (PySem.W.fnOf y y (defArgs st) (defBody st) (defScope st) .none kV doc pm an cdv ct) ⟨us, []⟩ = pure (ps.zip us))
    (hbody : ∀ (f : Addr) (A : Around) (outer : List Env) (s : Shared) (H : Hp) (E : XK), Room k (A.deeper (envOfC y (defScope st) s.heap.objs.size f (.ref c))) → A.guards = some [] →
      PSs (cxOf CX0 P w K mg base N y (defScope st) f (.ref c) A outer s H E).nox (defBody st) (tSt K ⟨xr, fun _ _ _ => False⟩ b)) : Df P w K mg base xr CX0 (k + 1) y st ps (runDef0 N.length b) := by
  obtain ⟨f, fd, F, hm, hc⟩ := T.ex
  refine ⟨f, fd, F, hm, run_bodyC F S (fnG_len rfl) fun cdv A outer s H vs Q E ec hr hg hsp => ?_, F.binds hb⟩
  obtain rfl : cdv = .ref c := ec.symm.trans hc
  exact ⟨_, (hbody f A outer s H E hr hg).nox, body_start S.le (sp0_of hsp)⟩
end
section
variable {X : Cx} {x : XC} {kws : List Keyword} {p pos : Pos} {k : Nat} {g : DA}
theorem passL {A : Around} {outer : List Env} {s : Shared} {H : Hp} {E : XK} {scope : Scope} {f c' : Addr} : Passes (L2.CX X.prog X.w) (lamCx X A outer s H E scope f c') E := passes_call (takes_of rfl rfl rfl rfl) fun _ _ _ _ h => h
theorem wCallL {A : Around} {outer : List Env} {s : Shared} {H : Hp} {E : XK} {scope : Scope} {f c' : Addr} {xr : Exn → Value → Option Addr → Hp → Prop} {jj : Nat} {y : Str} {sty : Stmt} {ps : List Str} {fs : FS} {e : Expr} {es : List Expr}
    (D : Df X.prog X.w X.K X.mg X.base xr (L2.CX X.prog X.w) jj y sty ps fs) (hr : Room k (A.deeper (lamEnv X scope s.heap.objs.size f c'))) (hgd : A.guards = some []) (ha : PA (lamCx X A outer s H E scope f c') (e :: es) (tA X.K ⟨xr, E⟩ g))
    (hn : ∀ st ds st', g st = .ok ds st' → ds.length = ps.length) (hj : jj ≤ k := by decide) (hg : Gl (lamCx X A outer s H E scope f c') y := by rfl) (hdb : (y == ("__debug__" : Str)) = false := by decide) (hs : isStar e = false := by rfl) (hpl : (backTo pos (starEach es (lamCx X A outer s H E scope f c').env)).any (·.1) = false := by rfl) :
    PE (lamCx X A outer s H E scope f c') (.Call (.Name y p) (e :: es) [] pos) (tS X.K ⟨xr, E⟩ (callE fs g)) :=
  wCall (X := lamCx X A outer s H E scope f c') (x := ⟨xr, E⟩) D hr hgd ha passL hn hj hg hdb hs hpl
theorem wCallK {jj : Nat} {y : Str} {sty : Stmt} {ps : List Str} {fs : FS} {cx : CXT} {ix : List Nat} {ks : List Str} (D : Df X.prog X.w X.K X.mg X.base x.xr cx jj y sty ps fs) (hr : Room k X.A) (hgd : X.A.guards = some []) (hkw : PK X kws (tA X.K x g)) (hx : Passes cx X x.E)
    (hn : ∀ st ds st', g st = .ok ds st' → ds.length = ps.length) (hbk : ∀ (kV doc pm : Value) (an : Option Addr) (cdv ct : Value) (ws : List Value), ws.length = ks.length → bindArgs (PySem.W.fnOf y y (defArgs sty) (defBody sty) (defScope sty) .none kV doc pm an cdv ct) ⟨[], ks.zip ws⟩ = pure (ps.zip (perm ix ws)))
    (hp : (ix.all fun i => decide (i < ps.length)) = true ∧ ix.length = ps.length ∧ ks.length = ps.length := by decide) (hj : jj ≤ k := by decide) (hg : Gl X y := by rfl) (hdb : (y == ("__debug__" : Str)) = false := by decide)
    (hall : (backToKw pos (keywordEach kws X.env)).all (·.1.isSome) = true := by rfl) (hks : (backToKw pos (keywordEach kws X.env)).filterMap (·.1) = ks := by rfl)
    (hpl : ((backTo pos (starEach [] X.env)).any (·.1) || (backToKw pos (keywordEach kws X.env)).any (·.1.isNone)) = false := by rfl) : PE X (.Call (.Name y p) [] kws pos) (tS X.K x (callKE fs ix g)) := by
  obtain ⟨f, fd, F, hm, G, hb⟩ := D.ex
  obtain ⟨oc, od, kV, doc, pm, an, cdv, ct, osl, e, lk, hcd⟩ := F.ex
  refine sE_callK G hgd (hr.mono hj) hg hm F.kp (fun s ws hl => ?_) hx hp hn hkw hall hks hpl hdb
  rw [e]
  exact .of_eq (hbk kV doc pm an cdv ct ws hl)
end
end PV
set_option maxHeartbeats 4000000
/-! The functions of data, worked out: what the rules of this engine answer at numbers, texts, lists of these. -/
namespace PV
open PySem L2
theorem pl_int (n : Nat) (i : Int) : D.pl n (.int i) = true := by cases n <;> rfl
theorem pl_str (n : Nat) (i : Str) : D.pl n (.str i) = true := by cases n <;> rfl
theorem pl_bl (n : Nat) (i : Bool) : D.pl n (.bl i) = true := by cases n <;> rfl
theorem pl_non (n : Nat) : D.pl n .non = true := by cases n <;> rfl
theorem pl_lst (n : Nat) (xs : List D) : D.pl (n + 1) (.lst xs) = xs.all (D.pl n) := rfl
theorem pl_tup (n : Nat) (xs : List D) : D.pl (n + 1) (.tup xs) = xs.all (D.pl n) := rfl
theorem py_int (i : Int) : D.py (.int i) = .int i := by rw [D.py]
theorem py_str (i : Str) : D.py (.str i) = .str i := by rw [D.py]
theorem py_non : D.py .non = .none := by rw [D.py]
theorem py_bl (b : Bool) : D.py (.bl b) = .bool b := by rw [D.py]
theorem py_lst (xs : List D) : D.py (.lst xs) = .list (D.pyAll xs) := by rw [D.py]
theorem py_tup (xs : List D) : D.py (.tup xs) = .tuple (D.pyAll xs) := by rw [D.py]
theorem pyAll_nil : D.pyAll [] = [] := by rw [D.pyAll]
theorem pyAll_cons (x : D) (xs : List D) : D.pyAll (x :: xs) = x.py :: D.pyAll xs := by rw [D.pyAll]
theorem ev_int (i j : Int) : (PyData.int i).eqv (.int j) = (i == j) := by rw [PyData.eqv]
theorem ev_str (i j : Str) : (PyData.str i).eqv (.str j) = (i == j) := by rw [PyData.eqv]
theorem ev_lst (xs ys : List PyData) : (PyData.list xs).eqv (.list ys) = PyData.eqvAll xs ys := by rw [PyData.eqv]
theorem ev_tup (xs ys : List PyData) : (PyData.tuple xs).eqv (.tuple ys) = PyData.eqvAll xs ys := by rw [PyData.eqv]
theorem eva_nil : PyData.eqvAll [] [] = true := by rw [PyData.eqvAll]
theorem eva_cons (x y : PyData) (xs ys : List PyData) : PyData.eqvAll (x :: xs) (y :: ys) = (x.eqv y && PyData.eqvAll xs ys) := by rw [PyData.eqvAll]
theorem eva_nc (y : PyData) (ys : List PyData) : PyData.eqvAll [] (y :: ys) = false := by simp [PyData.eqvAll]
theorem eva_cn (x : PyData) (xs : List PyData) : PyData.eqvAll (x :: xs) [] = false := by simp [PyData.eqvAll]
/-- texts as data -/
abbrev dS (xs : List Str) : List D := xs.map D.str
theorem pl_strs (n : Nat) (xs : List Str) : (dS xs).all (D.pl n) = true := by
  rw [List.all_eq_true]; intro d h
  obtain ⟨x, _, rfl⟩ := List.mem_map.1 h
  exact pl_str n x
theorem eva_strs : ∀ xs ys : List Str, PyData.eqvAll (D.pyAll (dS xs)) (D.pyAll (dS ys)) = decide (xs = ys)
  | [], [] => by show PyData.eqvAll (D.pyAll []) (D.pyAll []) = _; rw [pyAll_nil, eva_nil]; rfl
  | [], y :: ys => by show PyData.eqvAll (D.pyAll []) (D.pyAll (.str y :: dS ys)) = _; rw [pyAll_nil, pyAll_cons, eva_nc]; simp
  | x :: xs, [] => by show PyData.eqvAll (D.pyAll (.str x :: dS xs)) (D.pyAll []) = _; rw [pyAll_nil, pyAll_cons, eva_cn]; simp
  | x :: xs, y :: ys => by
    show PyData.eqvAll (D.pyAll (.str x :: dS xs)) (D.pyAll (.str y :: dS ys)) = _
    rw [pyAll_cons, pyAll_cons, eva_cons, eva_strs xs ys, py_str, py_str, ev_str]
    rw [Bool.eq_iff_iff]; simp
theorem dd_of {k ok : PyData → PyData → Bool} {d e : D} {b : Bool} (h1 : d.pl deep = true) (h2 : e.pl deep = true) (h3 : ok d.py e.py = true) (h4 : k d.py e.py = b) : dd k ok d e = some (false, .bl b) := by
  unfold dd; rw [h1, h2, h3, h4]; rfl
@[simp] theorem kEq_int (i j : Int) : kEq (.int i) (.int j) = some (false, .bl (decide (i = j))) := dd_of (pl_int _ i) (pl_int _ j) rfl (by rw [py_int, py_int, ev_int]; rfl)
@[simp] theorem kEq_str (i j : Str) : kEq (.str i) (.str j) = some (false, .bl (decide (i = j))) := dd_of (pl_str _ i) (pl_str _ j) rfl (by rw [py_str, py_str, ev_str]; rfl)
@[simp] theorem kNe_int (i j : Int) : kNe (.int i) (.int j) = some (false, .bl (!decide (i = j))) := dd_of (pl_int _ i) (pl_int _ j) rfl (by rw [py_int, py_int, ev_int]; rfl)
@[simp] theorem kNe_str (i j : Str) : kNe (.str i) (.str j) = some (false, .bl (!decide (i = j))) := dd_of (pl_str _ i) (pl_str _ j) rfl (by rw [py_str, py_str, ev_str]; rfl)
theorem pl_strL (xs : List Str) : D.pl deep (.lst (dS xs)) = true := pl_strs 15 xs
@[simp] theorem kEq_strs (xs ys : List Str) : kEq (.lst (dS xs)) (.lst (dS ys)) = some (false, .bl (decide (xs = ys))) := dd_of (pl_strL xs) (pl_strL ys) rfl (by rw [py_lst, py_lst, ev_lst, eva_strs])
@[simp] theorem kEq_strs0 (xs : List Str) : kEq (.lst (dS xs)) (.lst []) = some (false, .bl (decide (xs = []))) := kEq_strs xs []
@[simp] theorem kNe_strs (xs ys : List Str) : kNe (.lst (dS xs)) (.lst (dS ys)) = some (false, .bl (!decide (xs = ys))) := dd_of (pl_strL xs) (pl_strL ys) rfl (by rw [py_lst, py_lst, ev_lst, eva_strs])
@[simp] theorem kNe_strs0 (xs : List Str) : kNe (.lst (dS xs)) (.lst []) = some (false, .bl (!decide (xs = []))) := kNe_strs xs []
theorem al_int (i j : Int) : PySem.W.alike (.int i) (.int j) = true := by rw [PySem.W.alike]
theorem cmpOk_int (i j : Int) : cmpOk (D.py (.int i)) (D.py (.int j)) = true := by rw [py_int, py_int]; unfold cmpOk; rw [al_int]; rfl
@[simp] theorem kLt_int (i j : Int) : kLt (.int i) (.int j) = some (false, .bl (decide (i < j))) := dd_of (pl_int _ i) (pl_int _ j) (cmpOk_int i j) (by rw [py_int, py_int, PySem.W.dataLt_int])
@[simp] theorem kGt_int (i j : Int) : kGt (.int i) (.int j) = some (false, .bl (decide (j < i))) := dd_of (pl_int _ i) (pl_int _ j) (cmpOk_int i j) (by rw [py_int, py_int, PySem.W.dataLt_int])
@[simp] theorem kLe_int (i j : Int) : kLe (.int i) (.int j) = some (false, .bl (!decide (j < i))) := dd_of (pl_int _ i) (pl_int _ j) (cmpOk_int i j) (by rw [py_int, py_int, PySem.W.dataLt_int])
@[simp] theorem kGe_int (i j : Int) : kGe (.int i) (.int j) = some (false, .bl (!decide (i < j))) := dd_of (pl_int _ i) (pl_int _ j) (cmpOk_int i j) (by rw [py_int, py_int, PySem.W.dataLt_int])
theorem inSeq_strs (x : Str) (ys : List Str) : inSeq (.str x) (dS ys) = some (decide (x ∈ ys)) := by
  unfold inSeq
  rw [pl_str, pl_strs]
  show some _ = _
  congr 1
  rw [Bool.eq_iff_iff, List.any_eq_true]
  simp only [decide_eq_true_eq]
  constructor
  · rintro ⟨d, h, e⟩
    obtain ⟨y, hy, rfl⟩ := List.mem_map.1 h
    rw [py_str, py_str, ev_str] at e
    rw [← eq_of_beq e]; exact hy
  · intro h
    refine ⟨.str x, List.mem_map.2 ⟨x, h, rfl⟩, ?_⟩
    rw [py_str, ev_str]; exact beq_self_eq_true _
@[simp] theorem kIn_tupS (x : Str) (ys : List Str) : kIn (.str x) (.tup (dS ys)) = some (false, .bl (decide (x ∈ ys))) := by
  have e : kInP false (.str x) (.tup (dS ys)) = some (false, .bl (xor false (decide (x ∈ ys)))) := by
    show (inSeq (.str x) (dS ys)).map _ = _
    rw [inSeq_strs]; rfl
  show (kInP false (.str x) (.tup (dS ys))).orElse _ = _
  rw [e]; simp
abbrev dI (xs : List Int) : List D := xs.map D.int
theorem pl_ints (n : Nat) (xs : List Int) : (dI xs).all (D.pl n) = true := by
  rw [List.all_eq_true]; intro d h
  obtain ⟨x, _, rfl⟩ := List.mem_map.1 h
  exact pl_int n x
theorem inSeq_ints (x : Int) (ys : List Int) : inSeq (.int x) (dI ys) = some (decide (x ∈ ys)) := by
  unfold inSeq
  rw [pl_int, pl_ints]
  show some _ = _
  congr 1
  rw [Bool.eq_iff_iff, List.any_eq_true]
  simp only [decide_eq_true_eq]
  constructor
  · rintro ⟨d, h, e⟩
    obtain ⟨y, hy, rfl⟩ := List.mem_map.1 h
    rw [py_int, py_int, ev_int] at e
    rw [← eq_of_beq e]; exact hy
  · intro h
    refine ⟨.int x, List.mem_map.2 ⟨x, h, rfl⟩, ?_⟩
    rw [py_int, ev_int]; exact beq_self_eq_true _
@[simp] theorem kIn_tupI (x : Int) (ys : List Int) : kIn (.int x) (.tup (dI ys)) = some (false, .bl (decide (x ∈ ys))) := by
  have e : kInP false (.int x) (.tup (dI ys)) = some (false, .bl (xor false (decide (x ∈ ys)))) := by
    show (inSeq (.int x) (dI ys)).map _ = _
    rw [inSeq_ints]; rfl
  show (kInP false (.int x) (.tup (dI ys))).orElse _ = _
  rw [e]; simp
@[simp] theorem kNotIn_tupI (x : Int) (ys : List Int) : kNotIn (.int x) (.tup (dI ys)) = some (false, .bl (!decide (x ∈ ys))) := by
  have e : kInP true (.int x) (.tup (dI ys)) = some (false, .bl (xor true (decide (x ∈ ys)))) := by
    show (inSeq (.int x) (dI ys)).map _ = _
    rw [inSeq_ints]; rfl
  show (kInP true (.int x) (.tup (dI ys))).orElse _ = _
  rw [e]; simp
/-- a sign in a text -/
@[simp] theorem kIn_sign (n : Nat) (z : Str) : kIn (.str ⟨#[n]⟩) (.str z) = some (false, .bl (decide (n ∈ z.cps.toList))) := by
  show (some (false, D.bl (xor false (decide (n ∈ z.cps.toList))))) = _
  rw [Bool.false_xor]
@[simp] theorem kNotIn_sign (n : Nat) (z : Str) : kNotIn (.str ⟨#[n]⟩) (.str z) = some (false, .bl (!decide (n ∈ z.cps.toList))) := by
  show (some (false, D.bl (xor true (decide (n ∈ z.cps.toList))))) = _
  rw [Bool.true_xor]
@[simp] theorem kIsa_int (T : String) (i : Int) : kIsa T (.int i) = (isaT "int" T).map fun b => (false, .bl b) := rfl
@[simp] theorem kIsa_str (T : String) (i : Str) : kIsa T (.str i) = (isaT "str" T).map fun b => (false, .bl b) := rfl
@[simp] theorem kIsa_tup (T : String) (i : List D) : kIsa T (.tup i) = (isaT "tuple" T).map fun b => (false, .bl b) := rfl
@[simp] theorem kIsa_non (T : String) : kIsa T .non = (isaT "NoneType" T).map fun b => (false, .bl b) := rfl
@[simp] theorem isa_ii : isaT "int" "int" = some true := rfl
@[simp] theorem isa_ib : isaT "int" "bool" = some false := rfl
@[simp] theorem isa_is : isaT "int" "str" = some false := rfl
@[simp] theorem isa_it : isaT "int" "tuple" = some false := rfl
@[simp] theorem isa_ss : isaT "str" "str" = some true := rfl
@[simp] theorem isa_si : isaT "str" "int" = some false := rfl
@[simp] theorem isa_sb : isaT "str" "bool" = some false := rfl
@[simp] theorem isa_st : isaT "str" "tuple" = some false := rfl
@[simp] theorem isa_tt : isaT "tuple" "tuple" = some true := rfl
@[simp] theorem isa_ti : isaT "tuple" "int" = some false := rfl
@[simp] theorem isa_tb : isaT "tuple" "bool" = some false := rfl
@[simp] theorem isa_ts : isaT "tuple" "str" = some false := rfl
@[simp] theorem kLenA_tup (xs : List D) : kLenA (.tup xs) = some (false, .int xs.length) := rfl
@[simp] theorem kLenA_lst (xs : List D) : kLenA (.lst xs) = some (false, .int xs.length) := rfl
@[simp] theorem kLenA_ro (xs : List Int) : kLenA (.ro xs) = some (false, .int xs.length) := rfl
theorem kLenA_str (x : Str) (h : x.length ≤ 16777216) : kLenA (.str x) = some (false, .int x.length) := by
  show (if x.length ≤ 16777216 then _ else _) = _
  rw [if_pos h]
@[simp] theorem isno_int (i : Int) : isNo (.int i) = false := rfl
@[simp] theorem isno_str (i : Str) : isNo (.str i) = false := rfl
@[simp] theorem isno_tup (i : List D) : isNo (.tup i) = false := rfl
@[simp] theorem isno_non : isNo .non = true := rfl
@[simp] theorem kIs_non (d : D) : kIs d .non = some (false, .bl (isNo d)) := rfl
@[simp] theorem kIsNot_non (d : D) : kIsNot d .non = some (false, .bl (!isNo d)) := rfl
theorem kIx_tup (xs : List D) (i : Nat) (d : D) (h : xs[i]? = some d) : kIx (.tup xs) (.int (i : Int)) = some (false, d) := by
  have hl : i < xs.length := by
    rcases Nat.lt_or_ge i xs.length with z | z
    · exact z
    · rw [List.getElem?_eq_none z] at h; cases h
  have e : atI xs (i : Int) = some d := by
    unfold atI ixN
    rw [if_pos (by omega), if_pos (by omega)]
    exact h
  have e2 : kIxT (.tup xs) (.int (i : Int)) = some (false, d) := by
    show (atI xs (i : Int)).map _ = _
    rw [e]; rfl
  show (kIxT (.tup xs) (.int (i : Int))).orElse _ = _
  rw [e2]; rfl
theorem kIx_lst (xs : List D) (i : Nat) (d : D) (h : xs[i]? = some d) : kIx (.lst xs) (.int (i : Int)) = some (false, d) := by
  have hl : i < xs.length := by
    rcases Nat.lt_or_ge i xs.length with z | z
    · exact z
    · rw [List.getElem?_eq_none z] at h; cases h
  have e : atI xs (i : Int) = some d := by
    unfold atI ixN
    rw [if_pos (by omega), if_pos (by omega)]
    exact h
  have e2 : kIxL (.lst xs) (.int (i : Int)) = some (false, d) := by
    show (atI xs (i : Int)).map _ = _
    rw [e]; rfl
  show (kIxL (.lst xs) (.int (i : Int))).orElse _ = _
  rw [e2]; rfl
@[simp] theorem kIx_t0 (x : D) (xs : List D) : kIx (.tup (x :: xs)) (.int 0) = some (false, x) := kIx_tup (x :: xs) 0 x rfl
@[simp] theorem kIx_t1 (x y : D) (xs : List D) : kIx (.tup (x :: y :: xs)) (.int 1) = some (false, y) := kIx_tup (x :: y :: xs) 1 y rfl
@[simp] theorem kIx_t2 (x y z : D) (xs : List D) : kIx (.tup (x :: y :: z :: xs)) (.int 2) = some (false, z) := kIx_tup (x :: y :: z :: xs) 2 z rfl
@[simp] theorem kIx_t3 (x y z u : D) (xs : List D) : kIx (.tup (x :: y :: z :: u :: xs)) (.int 3) = some (false, u) := kIx_tup (x :: y :: z :: u :: xs) 3 u rfl
@[simp] theorem kIx_l0 (x : D) (xs : List D) : kIx (.lst (x :: xs)) (.int 0) = some (false, x) := kIx_lst (x :: xs) 0 x rfl
@[simp] theorem kIx_l1 (x y : D) (xs : List D) : kIx (.lst (x :: y :: xs)) (.int 1) = some (false, y) := kIx_lst (x :: y :: xs) 1 y rfl
@[simp] theorem kIx_l2 (x y z : D) (xs : List D) : kIx (.lst (x :: y :: z :: xs)) (.int 2) = some (false, z) := kIx_lst (x :: y :: z :: xs) 2 z rfl
theorem kIx_sign0 (n : Nat) (l : List Nat) : kIx (.str ⟨(n :: l).toArray⟩) (.int 0) = some (false, .str ⟨#[n]⟩) := by
  have e2 : kIxS (.str ⟨(n :: l).toArray⟩) (.int 0) = some (false, .str ⟨#[n]⟩) := by
    show (if 0 ≤ (0 : Int) ∧ (0 : Int) < 2 ^ 63 ∧ (0 : Int) < (((⟨(n :: l).toArray⟩ : Str).length : Nat) : Int) then _ else _) = _
    rw [if_pos ⟨by omega, by decide, by show (0 : Int) < (((n :: l).toArray.size : Nat) : Int); simp⟩]
    rfl
  show (kIxS (.str ⟨(n :: l).toArray⟩) (.int 0)).orElse _ = _
  rw [e2]; rfl
theorem dints_of : ∀ xs : List Int, dints (dI xs) = some xs
  | [] => rfl
  | x :: xs => by show (dints (dI xs)).map _ = _; rw [dints_of xs]; rfl
theorem dstrs_of : ∀ xs : List Str, dstrs (dS xs) = some xs
  | [] => rfl
  | x :: xs => by show (dstrs (dS xs)).map _ = _; rw [dstrs_of xs]; rfl
theorem dbls_of {α : Type} (f : α → Bool) : ∀ xs : List α, dbls (xs.map fun x => D.bl (f x)) = some (xs.map f)
  | [] => rfl
  | x :: xs => by show (dbls (xs.map fun x => D.bl (f x))).map _ = _; rw [dbls_of f xs]; rfl
theorem kAll_map {α : Type} (f : α → Bool) (xs : List α) : kAll (.lst (xs.map fun x => D.bl (f x))) = some (false, .bl (xs.all f)) := by
  show (dbls (xs.map fun x => D.bl (f x))).map _ = _
  rw [dbls_of]; simp [List.all_map]
theorem kJoin_tup (z : Str) (xs : List Str) (h : joinOk z xs = true) : kJoin z (.tup (dS xs)) = some (false, .str (Txt.join z xs)) := by
  show (dstrs (dS xs)).bind _ = _
  rw [dstrs_of]; show (if joinOk z xs = true then _ else _) = _; rw [if_pos h]
theorem kJoin_lst (z : Str) (xs : List Str) (h : joinOk z xs = true) : kJoin z (.lst (dS xs)) = some (false, .str (Txt.join z xs)) := by
  show (dstrs (dS xs)).bind _ = _
  rw [dstrs_of]; show (if joinOk z xs = true then _ else _) = _; rw [if_pos h]
theorem kSplit_str (z y : Str) (h0 : y.length ≠ 0) (h : z.length + 2 ≤ 16777216) : kSplit z (.str y) = some (true, .lst (dS (Txt.split z y))) := by
  show (if (y.length == 0) = false ∧ z.length + 2 ≤ 16777216 then _ else _) = _
  rw [if_pos ⟨by simpa using h0, h⟩]
/-! ### comprehensions -/
theorem set_self {α : Type} : ∀ (l : List α) (i : Nat) (a : α), l[i]? = some a → l.set i a = l
  | [], _, _, h => by simp at h
  | x :: l, 0, a, h => by simp at h; rw [h]; rfl
  | x :: l, i + 1, a, h => by rw [List.set_cons_succ, set_self l i a (by simpa using h)]
def unOw (l : List Sl) (i : Nat) : Prop := l[i]? = some .no ∨ ∃ d, l[i]? = some (.fz d)
theorem back_one {i : Nat} {l : List Sl} (h : unOw l i) (d : Sl) : backL [i] l (l.set i d) = l := by
  unfold backL
  refine List.ext_getElem? fun j => ?_
  rw [List.getElem?_mapIdx]
  by_cases e : j = i
  · subst e
    have hl : j < l.length := by
      rcases Nat.lt_or_ge j l.length with z | z
      · exact z
      · have : l[j]? = none := List.getElem?_eq_none z
        rcases h with h | ⟨_, h⟩ <;> rw [this] at h <;> cases h
    rw [List.getElem?_set_self hl]
    rcases h with h | ⟨d', h⟩ <;> simp [h]
  · rw [List.getElem?_set_ne (fun z => e z.symm)]
    cases l[j]? with
    | none => rfl
    | some s => simp [e]
/-- a comprehension over one name that changes nothing else -/
theorem lcL_pure {i : Nat} {tt : DT} {te : DE} {st : S} {p : D → Bool} {f : D → D} : ∀ (ds : List D),
    (∀ d ∈ ds, tt { st with env := st.env.set i (.fz d) } = .ok (p d) { st with env := st.env.set i (.fz d) }) →
    (∀ d ∈ ds, p d = true → ∃ b, te { st with env := st.env.set i (.fz d) } = .ok (b, f d) { st with env := st.env.set i (.fz d) }) →
    lcL [i] (.nm i) tt te ds { st with env := st.env.set i .no } = .ok ((ds.filter p).map f) { st with env := st.env.set i .no }
  | [], _, _ => rfl
  | d :: ds, ht, he => by
    have ih := lcL_pure ds (fun e h => ht e (List.mem_cons_of_mem _ h)) (fun e h => he e (List.mem_cons_of_mem _ h))
    show (match (some (stS i (false, d) { st with env := st.env.set i .no }) : Option S) with
      | none => R.bad
      | some st1 => (tt st1).bind fun b st2 => if b = true then (te st2).bind fun a st3 => (lcL [i] (.nm i) tt te ds (wipeE [i] st3)).bind fun r st4 => .ok (a.2 :: r) st4
        else lcL [i] (.nm i) tt te ds (wipeE [i] st2)) = _
    have e1 : stS i (false, d) { st with env := st.env.set i .no } = { st with env := st.env.set i (.fz d) } := by
      show ({ st with env := (st.env.set i .no).set i (.fz d) } : S) = _
      rw [List.set_set]
    have e2 : wipeE [i] { st with env := st.env.set i (.fz d) } = { st with env := st.env.set i .no } := by
      show ({ st with env := (st.env.set i (.fz d)).set i .no } : S) = _
      rw [List.set_set]
    show (tt (stS i (false, d) { st with env := st.env.set i .no })).bind _ = _
    rw [e1, ht d List.mem_cons_self, R.bind_ok]
    cases hp : p d with
    | false =>
      rw [if_neg (by decide), e2, ih]
      simp [hp]
    | true =>
      obtain ⟨b, hb⟩ := he d List.mem_cons_self hp
      rw [if_pos rfl, hb, R.bind_ok, e2, ih, R.bind_ok]
      simp [hp]
theorem lcD_pure {i : Nat} {it : DI} {tt : DT} {te : DE} {st : S} {ds : List D} (p : D → Bool) (f : D → D) (hi : it st = .ok ds st) (hs : unOw st.env i)
    (ht : ∀ d ∈ ds, tt { st with env := st.env.set i (.fz d) } = .ok (p d) { st with env := st.env.set i (.fz d) })
    (he : ∀ d ∈ ds, p d = true → ∃ b, te { st with env := st.env.set i (.fz d) } = .ok (b, f d) { st with env := st.env.set i (.fz d) }) :
    lcD [i] it (.nm i) tt te st = .ok (true, .lst ((ds.filter p).map f)) st := by
  show (it st).bind _ = _
  rw [hi, R.bind_ok]
  have e2 : wipeE [i] st = { st with env := st.env.set i .no } := rfl
  rw [e2, lcL_pure ds ht he]
  show R.ok (true, id (D.lst ((ds.filter p).map f))) (back [i] st { st with env := st.env.set i .no }) = _
  unfold back
  rw [back_one hs]; rfl
/-- .. without a test -/
theorem lcD_map {i : Nat} {it : DI} {te : DE} {st : S} {ds : List D} (f : D → D) (hi : it st = .ok ds st) (hs : unOw st.env i)
    (he : ∀ d ∈ ds, ∃ b, te { st with env := st.env.set i (.fz d) } = .ok (b, f d) { st with env := st.env.set i (.fz d) }) :
    lcD [i] it (.nm i) yesT te st = .ok (true, .lst (ds.map f)) st := by
  have e := lcD_pure (tt := yesT) (fun _ => true) f hi hs (fun d _ => rfl) (fun d h _ => he d h)
  rw [List.filter_eq_self.2 (fun _ _ => rfl)] at e
  exact e
end PV
set_option maxHeartbeats 4000000
/-! Texts of numbers, of fractions: plain laws. -/
namespace PV
open PySem L2 TL
/-- the least number of 401 digits -/
abbrev lim400 : Nat := 10 ^ 400
/-- the text of a number -/
abbrev sI (p : Int) : Str := Str.ofString (toString p)
theorem tl_neg (n : Nat) (h : 0 < n) : tl (sI (-(n : Int))) = 45 :: numL n := by
  have e : toString (-(n : Int)) = "-" ++ toString ((n : Nat) : Int) := by
    rw [PyProof.Rows.toString_neg (by omega)]
    congr 2; omega
  show (Str.ofString (toString (-(n : Int)))).cps.toList = _
  rw [e, PyProof.Rows.signs_ofString, String.toList_append, List.map_append, ← PyProof.Rows.signs_ofString (toString (n : Int))]
  show _ ++ tl (sI (n : Int)) = _
  rw [tl_num]; rfl
/-- the signs behind the minus -/
def sgn : List Nat → List Nat
  | 45 :: r => r
  | l => l
theorem sgn_ne {c : Nat} {l : List Nat} (h : c ≠ 45) : sgn (c :: l) = c :: l := by
  unfold sgn; split
  · rename_i e; simp at e; exact absurd e.1 h
  · rfl
def digs : List Nat := [48, 49, 50, 51, 52, 53, 54, 55, 56, 57]
theorem mem_digs (c : Nat) : c ∈ digs ↔ 48 ≤ c ∧ c ≤ 57 := by
  unfold digs; simp; omega
def figL (l : List Nat) : Bool := decide (1 ≤ (sgn l).length) && decide ((sgn l).length ≤ 400) && (sgn l).all (fun c => decide (c ∈ digs)) && (decide (l = [48]) || decide ((sgn l).head? ≠ some 48))
def figB (x : Str) : Bool := figL (tl x)
def valL : List Nat → Int
  | 45 :: r => -((NumText.digitsVal r : Nat) : Int)
  | l => ((NumText.digitsVal l : Nat) : Int)
def valS (x : Str) : Int := valL (tl x)
theorem valL_ne {c : Nat} {l : List Nat} (h : c ≠ 45) : valL (c :: l) = ((NumText.digitsVal (c :: l) : Nat) : Int) := by
  unfold valL; split
  · rename_i e; simp at e; exact absurd e.1 h
  · rfl
structure FigOk (l : List Nat) : Prop where
  ne : sgn l ≠ []
  len : (sgn l).length ≤ 400
  ad : NumText.AllDigits (sgn l)
theorem figL_ok {l : List Nat} (h : figL l = true) : FigOk l := by
  unfold figL at h
  simp only [Bool.and_eq_true, decide_eq_true_eq, List.all_eq_true] at h
  refine ⟨fun e => ?_, h.1.1.2, fun c hc => (mem_digs c).1 (h.1.2 c hc)⟩
  have := h.1.1.1; rw [e] at this; simp at this
theorem sgn_cases (l : List Nat) : (∃ r, l = 45 :: r ∧ sgn l = r) ∨ (sgn l = l ∧ ∀ r, l ≠ 45 :: r) := by
  match l with
  | [] => right; exact ⟨rfl, fun r e => by cases e⟩
  | c :: r =>
    by_cases e : c = 45
    · subst e; exact .inl ⟨r, rfl, rfl⟩
    · right; exact ⟨sgn_ne e, fun r' e' => by simp at e'; exact e e'.1⟩
theorem fig_len {x : Str} (h : figB x = true) : x.length ≤ 401 := by
  have k := figL_ok h
  rw [len_tl]
  rcases sgn_cases (tl x) with ⟨r, e, s⟩ | ⟨s, _⟩
  · rw [e]; have := k.len; rw [s] at this; simp; omega
  · have := k.len; rw [s] at this; omega
theorem fig_int {x : Str} (h : figB x = true) : intText? x = some (valS x) := by
  have k := figL_ok h
  have hl := fig_len h
  rcases sgn_cases (tl x) with ⟨r, e, s⟩ | ⟨s, n⟩
  · have v : valS x = -((NumText.digitsVal r : Nat) : Int) := by unfold valS; rw [e]; rfl
    rw [v]
    exact PySem.intText_neg e (by rw [← s]; exact k.ad) (by rw [← s]; exact k.ne) (by omega)
  · have v : valS x = ((NumText.digitsVal (tl x) : Nat) : Int) := by
      unfold valS
      cases z : tl x with
      | nil => rfl
      | cons c r => exact valL_ne fun e => n r (by rw [z, e])
    rw [v]
    exact PySem.intText_digits (by have := k.ad; rw [s] at this; exact this) (by have := k.ne; rw [s] at this; exact this) (by omega)
theorem foldl_lt : ∀ (l : List Nat) (a : Nat), NumText.AllDigits l → l.foldl (fun acc c => acc * 10 + (c - 48)) a < (a + 1) * 10 ^ l.length
  | [], a, _ => by simp
  | c :: r, a, h => by
    have hc := h.head
    have ih := foldl_lt r (a * 10 + (c - 48)) h.tail
    rw [List.foldl_cons, List.length_cons, Nat.pow_succ]
    refine Nat.lt_of_lt_of_le ih ?_
    have : a * 10 + (c - 48) + 1 ≤ (a + 1) * 10 := by omega
    calc (a * 10 + (c - 48) + 1) * 10 ^ r.length ≤ ((a + 1) * 10) * 10 ^ r.length := Nat.mul_le_mul_right _ this
      _ = (a + 1) * (10 ^ r.length * 10) := by rw [Nat.mul_assoc, Nat.mul_comm 10]
theorem digitsVal_lt {l : List Nat} (h : NumText.AllDigits l) : NumText.digitsVal l < 10 ^ l.length := by
  have := foldl_lt l 0 h
  unfold NumText.digitsVal; simpa using this
theorem fig_lt {x : Str} (h : figB x = true) : (valS x).natAbs < lim400 := by
  have k := figL_ok h
  have b := digitsVal_lt k.ad
  have b2 : 10 ^ (sgn (tl x)).length ≤ lim400 := Nat.pow_le_pow_right (by decide) k.len
  have b3 := Nat.lt_of_lt_of_le b b2
  rcases sgn_cases (tl x) with ⟨r, e, s⟩ | ⟨s, n⟩
  · have v : valS x = -((NumText.digitsVal r : Nat) : Int) := by unfold valS; rw [e]; rfl
    rw [s] at b3
    rw [v, Int.natAbs_neg, Int.natAbs_natCast]; exact b3
  · have v : valS x = ((NumText.digitsVal (tl x) : Nat) : Int) := by
      unfold valS
      cases z : tl x with
      | nil => rfl
      | cons c r => exact valL_ne fun e => n r (by rw [z, e])
    rw [s] at b3
    rw [v, Int.natAbs_natCast]; exact b3
theorem numL_head : ∀ n : Nat, 0 < n → (numL n).head? ≠ some 48 := by
  intro n
  induction n using Nat.strongRecOn with
  | _ n ih =>
    intro hn
    by_cases h : n < 10
    · rw [numL_lt h]; simp; omega
    · rw [numL_step (by omega)]
      have := ih (n / 10) (by omega) (by omega)
      cases z : numL (n / 10) with
      | nil => exact absurd z (numL_ne _)
      | cons c r => rw [z] at this; simpa using this
theorem numL_not45 (n : Nat) : ∀ r, numL n ≠ 45 :: r := fun r e => numL_free (n := n) (s := 45) (by omega) (by rw [e]; exact List.mem_cons_self)
theorem sgn_num (n : Nat) : sgn (numL n) = numL n := by
  rcases sgn_cases (numL n) with ⟨r, e, _⟩ | ⟨s, _⟩
  · exact absurd e (numL_not45 n r)
  · exact s
theorem numL_all (n : Nat) : (numL n).all (fun c => decide (c ∈ digs)) = true := by
  rw [List.all_eq_true]; intro c hc
  exact decide_eq_true ((mem_digs c).2 (numL_digits n c hc))
theorem numL_pos (n : Nat) : 1 ≤ (numL n).length := by
  cases z : numL n with
  | nil => exact absurd z (numL_ne n)
  | cons c r => simp
/-- the signs of a text of a number -/
theorem tl_sI (p : Int) : (0 ≤ p ∧ tl (sI p) = numL p.natAbs) ∨ (p < 0 ∧ tl (sI p) = 45 :: numL p.natAbs) := by
  rcases Int.lt_or_le p 0 with h | h
  · right
    refine ⟨h, ?_⟩
    have e : p = -((p.natAbs : Nat) : Int) := by omega
    have := tl_neg p.natAbs (by omega)
    rw [← e] at this; exact this
  · left
    refine ⟨h, ?_⟩
    have e : p = ((p.natAbs : Nat) : Int) := by omega
    have := tl_num p.natAbs
    rw [← e] at this; exact this
theorem fig_num {p : Int} (h : p.natAbs < lim400) : figB (sI p) = true := by
  have l := numL_len (n := p.natAbs) (k := 400) (by decide) h
  unfold figB figL
  rcases tl_sI p with ⟨h0, e⟩ | ⟨h0, e⟩ <;> rw [e]
  · rw [sgn_num, numL_all]
    simp only [Bool.and_eq_true, decide_eq_true_eq, Bool.or_eq_true, Bool.and_true]
    refine ⟨⟨numL_pos _, l⟩, ?_⟩
    by_cases z : p.natAbs = 0
    · left; rw [z]; exact numL_lt (by decide)
    · right; exact numL_head _ (by omega)
  · show _ = _
    have s : sgn (45 :: numL p.natAbs) = numL p.natAbs := rfl
    rw [s, numL_all]
    simp only [Bool.and_eq_true, decide_eq_true_eq, Bool.or_eq_true, Bool.and_true]
    exact ⟨⟨numL_pos _, l⟩, .inr (numL_head _ (by omega))⟩
theorem val_num (p : Int) : valS (sI p) = p := by
  unfold valS
  rcases tl_sI p with ⟨h0, e⟩ | ⟨h0, e⟩ <;> rw [e]
  · cases z : numL p.natAbs with
    | nil => exact absurd z (numL_ne _)
    | cons c r =>
      rw [valL_ne (fun e => numL_not45 p.natAbs r (by rw [z, e])), ← z, numL_val]; omega
  · show -((NumText.digitsVal (numL p.natAbs) : Nat) : Int) = p
    rw [numL_val]; omega
theorem sI_len {p : Int} (h : p.natAbs < lim400) : (sI p).length ≤ 401 := fig_len (fig_num h)
theorem sI_free (p : Int) : 32 ∉ tl (sI p) := by
  rcases tl_sI p with ⟨_, e⟩ | ⟨_, e⟩ <;> rw [e]
  · exact numL_free (by omega)
  · intro h; rcases List.mem_cons.1 h with h | h
    · cases h
    · exact numL_free (by omega) h
theorem sI_small (p : Int) : ∀ c ∈ tl (sI p), c < 128 := by
  have k : ∀ c ∈ numL p.natAbs, c < 128 := fun c h => by have := numL_digits _ c h; omega
  rcases tl_sI p with ⟨_, e⟩ | ⟨_, e⟩ <;> rw [e]
  · exact k
  · intro c h; rcases List.mem_cons.1 h with h | h
    · omega
    · exact k c h
theorem log2_lt {n : Nat} (h : n < lim400) : n.log2 < 1920 := by
  by_cases z : n = 0
  · subst z; decide
  · rw [Nat.log2_lt z]
    exact Nat.lt_of_lt_of_le h (by decide)
theorem kStr_int {p : Int} (h : p.natAbs < lim400) : kStr (.int p) = some (false, .str (sI p)) := by
  show (if p.natAbs.log2 < 1920 then _ else _) = _
  rw [if_pos (log2_lt h)]
theorem kInt_fig {x : Str} (h : figB x = true) : kInt (.str x) = some (false, .int (valS x)) := by
  show (if x.length ≤ 640 then (PySem.intText? x).map _ else _) = _
  rw [if_pos (by have := fig_len h; omega), fig_int h]; rfl
/-- joined, cut at the blanks -/
abbrev spc : Str := ⟨#[32]⟩
theorem spc_eq : (" " : Str) = spc := by decide
theorem split_spc {parts : List Str} (hne : parts ≠ []) (hp : ∀ p ∈ parts, 32 ∉ tl p) : Txt.split (Txt.join spc parts) spc = parts := split_join (s := 32) (S := []) rfl (by decide +kernel) hne hp
theorem join_spc (x : Str) : Txt.join spc (Txt.split x spc) = x := by rw [join_eq]; exact StrLaws.join_split x spc
theorem free_spc (x : Str) : ∀ p ∈ Txt.split x spc, 32 ∉ tl p := StrLaws.split_free x 32
theorem join_cons2 (y x z : Str) (r : List Str) : Str.join y (x :: z :: r) = x ++ y ++ Str.join y (z :: r) := rfl
theorem app_assoc (x y z : Str) : x ++ y ++ z = x ++ (y ++ z) := ext_tl (by rw [tl_append, tl_append, tl_append, tl_append, List.append_assoc])
theorem join_app (y : Str) : ∀ (as bs : List Str), bs ≠ [] → Str.join y (as ++ [Str.join y bs]) = Str.join y (as ++ bs)
  | [], bs, _ => rfl
  | [a], b :: bs, _ => rfl
  | a :: c :: as, bs, h => by
    show a ++ y ++ Str.join y ((c :: as) ++ [Str.join y bs]) = a ++ y ++ Str.join y ((c :: as) ++ bs)
    rw [join_app y (c :: as) bs h]
theorem joinT_app (as bs : List Str) (h : bs ≠ []) : Txt.join spc (as ++ [Txt.join spc bs]) = Txt.join spc (as ++ bs) := by
  rw [join_eq, join_eq, join_eq]; exact join_app spc as bs h
theorem split_ne (x : Str) : Txt.split x spc ≠ [] := fun e => by
  have j := join_spc x
  rw [e] at j
  have z : x = Str.empty := j.symm
  subst z
  have k : Txt.split Str.empty spc = [Str.empty] := by
    unfold Txt.split
    rw [if_pos (by decide)]
  rw [k] at e; cases e
end PV
set_option maxHeartbeats 4000000
/-! The constructs, unfolded at a state: rewriting rules. -/
namespace PV
open PySem L2
def seqK (h : DS) : Fl → S → R Fl
  | .nx, st => h st
  | .bk, st => .ok .bk st
  | .ct, st => .ok .ct st
  | .rt a, st => .ok (.rt a) st
@[simp] theorem u_seqS (f h : DS) (st : S) : seqS f h st = (f st).bind (seqK h) := by
  unfold seqS
  congr 1; funext k st
  cases k <;> rfl
@[simp] theorem u_seqK1 (h : DS) (st : S) : seqK h .nx st = h st := rfl
@[simp] theorem u_seqK2 (h : DS) (st : S) : seqK h .bk st = .ok .bk st := rfl
@[simp] theorem u_seqK3 (h : DS) (st : S) : seqK h .ct st = .ok .ct st := rfl
@[simp] theorem u_seqK4 (h : DS) (a : Vl) (st : S) : seqK h (.rt a) st = .ok (.rt a) st := rfl
@[simp] theorem u_nxS (st : S) : nxS st = .ok .nx st := rfl
@[simp] theorem u_retS (f : DE) (st : S) : retS f st = (f st).bind fun a st => .ok (.rt a) st := rfl
def ifK {α : Type} (f h : S → R α) (b : Bool) (st : S) : R α := if b = true then f st else h st
@[simp] theorem u_ifT {α : Type} (f h : S → R α) (st : S) : ifK f h true st = f st := rfl
@[simp] theorem u_ifF {α : Type} (f h : S → R α) (st : S) : ifK f h false st = h st := rfl
@[simp] theorem u_ifS (t : DT) (f h : DS) (st : S) : ifS t f h st = (t st).bind (ifK f h) := rfl
@[simp] theorem u_ifE (t : DT) (f h : DE) (st : S) : ifE t f h st = (t st).bind (ifK f h) := rfl
@[simp] theorem u_dropS (f : DE) (st : S) : dropS f st = (f st).bind fun _ st => .ok .nx st := rfl
@[simp] theorem u_setS (i : Nat) (f : DE) (st : S) : setS i f st = (f st).bind fun a st => .ok .nx (stS i a st) := rfl
@[simp] theorem u_stF (i : Nat) (d : D) (l : List Sl) (w : W) (n : Nat) : stS i (false, d) ⟨l, w, n⟩ = ⟨l.set i (.fz d), w, n⟩ := rfl
@[simp] theorem u_stT (i : Nat) (d : D) (l : List Sl) (w : W) (n : Nat) : stS i (true, d) ⟨l, w, n⟩ = ⟨l.set i (.ow d), w, n⟩ := rfl
def bTK : Vl → S → R Bool
  | (_, .bl b), st => .ok b st
  | _, _ => .bad
@[simp] theorem u_bT (f : DE) (st : S) : bT f st = (f st).bind bTK := by
  unfold bT
  congr 1; funext a st
  obtain ⟨k, d⟩ := a
  cases d <;> rfl
@[simp] theorem u_bTK (k b : Bool) (st : S) : bTK (k, .bl b) st = .ok b st := rfl
@[simp] theorem u_notT (t : DT) (st : S) : notT t st = (t st).bind fun b st => .ok (!b) st := rfl
@[simp] theorem u_andT (t u : DT) (st : S) : andT t u st = (t st).bind (ifK u (fun st => .ok false st)) := rfl
@[simp] theorem u_orT (t u : DT) (st : S) : orT t u st = (t st).bind (ifK (fun st => .ok true st) u) := rfl
@[simp] theorem u_vT (t : DT) (st : S) : vT t st = (t st).bind fun b st => .ok (false, .bl b) st := rfl
@[simp] theorem u_vB (t : DT) (st : S) : vB t st = (t st).bind fun b st => .ok (false, .bl b) st := rfl
@[simp] theorem u_andE (f h : DE) (st : S) : andE f h st = ((f st).bind bTK).bind (ifK h (fun st => .ok (false, .bl false) st)) := by
  rw [← u_bT]; rfl
@[simp] theorem u_orE (f h : DE) (st : S) : orE f h st = ((f st).bind bTK).bind (ifK (fun st => .ok (false, .bl true) st) h) := by
  rw [← u_bT]; rfl
@[simp] theorem u_chE (p q : CmpOp) (f h j : DE) (st : S) : chE p q f h j st = (f st).bind fun a st => (h st).bind fun b st => ((ofO (kCmp p a.2 b.2) st).bind bTK).bind (ifK (fun st => (j st).bind fun d st => ofO (kCmp q b.2 d.2) st) (fun st => .ok (false, .bl false) st)) := by
  unfold chE
  congr 1; funext a st
  congr 1; funext b st
  cases ofO (kCmp p a.2 b.2) st with
  | bad => rfl
  | ex => rfl
  | ok z st =>
    obtain ⟨k, d⟩ := z
    cases d with
    | bl x => cases x <;> rfl
    | _ => rfl
@[simp] theorem u_aNil (st : S) : aNil st = .ok [] st := rfl
@[simp] theorem u_aCons (f : DE) (h : DA) (st : S) : aCons f h st = (f st).bind fun a st => (h st).bind fun ds st => .ok (a.2 :: ds) st := rfl
@[simp] theorem u_tupE (h : DA) (st : S) : tupE h st = (h st).bind fun ds st => if ds.length ≤ 1000 then .ok (false, .tup ds) st else .bad := rfl
@[simp] theorem u_lstE (h : DA) (st : S) : lstE h st = (h st).bind fun ds st => if ds.length ≤ 1000 then .ok (true, .lst ds) st else .bad := rfl
def rfK (st : S) : Rf → R Vl
  | .ok a w => .ok a ⟨st.env, w, st.fu⟩
  | .ex e w => .ex e w
  | .bad => .bad
@[simp] theorem u_callE (fs : FS) (h : DA) (st : S) : callE fs h st = (h st).bind fun ds st => rfK st (fs ds st.w) := by
  refine congrArg (h st).bind (funext fun ds => funext fun st => ?_)
  cases fs ds st.w <;> rfl
@[simp] theorem u_rfK (l : List Sl) (w w' : W) (n : Nat) (a : Vl) : rfK ⟨l, w, n⟩ (.ok a w') = .ok a ⟨l, w', n⟩ := rfl
@[simp] theorem u_rfX (st : S) (w' : W) (e : Exn) : rfK st (.ex e w') = .ex e w' := rfl
@[simp] theorem u_cE (d : D) (st : S) : cE d st = .ok (false, d) st := rfl
def nEK : Option Sl → Nat → S → R Vl
  | some (.fz d), _, st => .ok (false, d) st
  | some (.ow d), i, st => .ok (false, d) { st with env := st.env.set i (.fz d) }
  | _, _, _ => .bad
@[simp] theorem u_nE (i : Nat) (l : List Sl) (w : W) (n : Nat) : nE i ⟨l, w, n⟩ = nEK l[i]? i ⟨l, w, n⟩ := by
  unfold nE nEK; show _ = _
  dsimp only
  cases l[i]? with
  | none => rfl
  | some s => cases s <;> rfl
@[simp] theorem u_nEf (i : Nat) (d : D) (st : S) : nEK (some (.fz d)) i st = .ok (false, d) st := rfl
@[simp] theorem u_nEo (i : Nat) (d : D) (l : List Sl) (w : W) (n : Nat) : nEK (some (.ow d)) i ⟨l, w, n⟩ = .ok (false, d) ⟨l.set i (.fz d), w, n⟩ := rfl
def mEK : Option Sl → Nat → S → R Vl
  | some (.fz d), _, st => .ok (false, d) st
  | some (.ow d), i, st => .ok (true, d) { st with env := st.env.set i .no }
  | _, _, _ => .bad
@[simp] theorem u_mE (i : Nat) (l : List Sl) (w : W) (n : Nat) : mE i ⟨l, w, n⟩ = mEK l[i]? i ⟨l, w, n⟩ := by
  unfold mE mEK; show _ = _
  dsimp only
  cases l[i]? with
  | none => rfl
  | some s => cases s <;> rfl
@[simp] theorem u_mEf (i : Nat) (d : D) (st : S) : mEK (some (.fz d)) i st = .ok (false, d) st := rfl
@[simp] theorem u_mEo (i : Nat) (d : D) (l : List Sl) (w : W) (n : Nat) : mEK (some (.ow d)) i ⟨l, w, n⟩ = .ok (true, d) ⟨l.set i .no, w, n⟩ := rfl
def borK : Option Sl → Option D
  | some (.fz d) => some d
  | some (.ow d) => some d
  | _ => none
@[simp] theorem u_bor (i : Nat) (l : List Sl) (w : W) (n : Nat) : bor i ⟨l, w, n⟩ = borK l[i]? := by
  unfold bor borK; rfl
@[simp] theorem u_borf (d : D) : borK (some (.fz d)) = some d := rfl
@[simp] theorem u_boro (d : D) : borK (some (.ow d)) = some d := rfl
@[simp] theorem u_goV (i : Nat) (st : S) : (Opn.var i).go st = ofO (bor i st) st := rfl
@[simp] theorem u_goX (f : DE) (st : S) : (Opn.ex f).go st = (f st).bind fun a st => .ok a.2 st := rfl
@[simp] theorem u_finV (i : Nat) (d : D) (st : S) : (Opn.var i).fin d st = bor i st := rfl
@[simp] theorem u_finX (f : DE) (d : D) (st : S) : (Opn.ex f).fin d st = some d := rfl
@[simp] theorem u_bE (k : D → D → Option Vl) (f h : DE) (st : S) : bE k f h st = (f st).bind fun a st => (h st).bind fun b st => ofO (k a.2 b.2) st := rfl
@[simp] theorem u_oE2 (k : D → D → Option Vl) (a b : Opn) (st : S) : oE2 k a b st = (a.go st).bind fun d st => (b.go st).bind fun e st => ofO ((a.fin d st).bind fun d => (b.fin e st).bind fun e => k d e) st := rfl
@[simp] theorem u_oE1 (k : D → Option Vl) (a : Opn) (st : S) : oE1 k a st = (a.go st).bind fun d st => ofO ((a.fin d st).bind k) st := rfl
@[simp] theorem u_eq : kCmp .Eq = kEq := rfl
@[simp] theorem u_ne : kCmp .NotEq = kNe := rfl
@[simp] theorem u_lt : kCmp .Lt = kLt := rfl
@[simp] theorem u_le : kCmp .LtE = kLe := rfl
@[simp] theorem u_gt : kCmp .Gt = kGt := rfl
@[simp] theorem u_ge : kCmp .GtE = kGe := rfl
@[simp] theorem u_is : kCmp .Is = kIs := rfl
@[simp] theorem u_isn : kCmp .IsNot = kIsNot := rfl
@[simp] theorem u_in : kCmp .In = kIn := rfl
@[simp] theorem u_nin : kCmp .NotIn = kNotIn := rfl
def rdK : R Fl → Rf
  | .ok .nx st => .ok (false, .non) st.w
  | .ok (.rt a) st => .ok a st.w
  | .ok _ _ => .bad
  | .ex e w => .ex e w
  | .bad => .bad
@[simp] theorem u_runDef (n : Nat) (b : DS) (ds : List D) (w : W) : runDef n b ds w = rdK (b ⟨startE n ds, w, 0⟩) := by
  unfold runDef
  cases b ⟨startE n ds, w, 0⟩ with
  | ok k st => cases k <;> rfl
  | ex => rfl
  | bad => rfl
@[simp] theorem u_rd1 (st : S) : rdK (.ok .nx st) = .ok (false, .non) st.w := rfl
@[simp] theorem u_rd2 (a : Vl) (st : S) : rdK (.ok (.rt a) st) = .ok a st.w := rfl
@[simp] theorem u_rd3 (e : Exn) (w : W) : rdK (.ex e w) = .ex e w := rfl
def r0K : Rf → Rf
  | .ok a w => .ok a w
  | _ => .bad
@[simp] theorem u_runDef0 (n : Nat) (b : DS) (ds : List D) (w : W) : runDef0 n b ds w = r0K (rdK (b ⟨startE n ds, w, 0⟩)) := by
  rw [← u_runDef]
  unfold runDef0
  cases runDef n b ds w <;> rfl
@[simp] theorem u_r0K (a : Vl) (w : W) : r0K (.ok a w) = .ok a w := rfl
@[simp] theorem u_startE (n : Nat) (ds : List D) : startE n ds = ds.map .fz ++ List.replicate (n - ds.length) .no := rfl
@[simp] theorem u_parS (i j : Nat) (f h : DE) (st : S) : parS i j f h st = (f st).bind fun a st => (h st).bind fun b st => .ok .nx (stS j b (stS i a st)) := rfl
def negK : Vl → S → R Vl
  | (_, .int i), st => .ok (false, .int (-i)) st
  | _, _ => .bad
@[simp] theorem u_negE (f : DE) (st : S) : negE f st = (f st).bind negK := by
  unfold negE
  congr 1; funext a st
  obtain ⟨k, d⟩ := a
  cases d <;> rfl
@[simp] theorem u_negK (k : Bool) (i : Int) (st : S) : negK (k, .int i) st = .ok (false, .int (-i)) st := rfl
@[simp] theorem u_itE (f : DE) (st : S) : itE f st = (f st).bind fun a st => ofO (items a.2) st := rfl
@[simp] theorem u_itL (ds : List D) : items (.lst ds) = some ds := rfl
@[simp] theorem u_itT (ds : List D) : items (.tup ds) = some ds := rfl
@[simp] theorem u_itR (ns : List Int) : items (.ro ns) = some (ns.map .int) := rfl
@[simp] theorem u_rngI (h : DA) (st : S) : rngI h st = (h st).bind fun ds st => ofO (rngOf ds) st := rfl
@[simp] theorem u_forS (it : DI) (t : Tg) (body : DS) (st : S) : forS it t body st = (it st).bind fun ds st => forL t body ds st := rfl
@[simp] theorem u_yesT (st : S) : yesT st = .ok true st := rfl
def m1K (k : Str → D → Option Vl) (h : DE) : Vl → S → R Vl
  | (_, .str z), st => (h st).bind fun b st => ofO (k z b.2) st
  | _, _ => .bad
@[simp] theorem u_m1S (k : Str → D → Option Vl) (f h : DE) (st : S) : m1S k f h st = (f st).bind (m1K k h) := by
  refine congrArg (f st).bind (funext fun a => funext fun st => ?_)
  obtain ⟨b, d⟩ := a
  cases d <;> rfl
@[simp] theorem u_m1K (k : Str → D → Option Vl) (h : DE) (b : Bool) (z : Str) (st : S) : m1K k h (b, .str z) st = (h st).bind fun b st => ofO (k z b.2) st := rfl
theorem k1_int (f : Int → Int → Option Int) (i j : Int) : k1 f (.int i) (.int j) = (f i j).map fun z => (false, .int z) := rfl
theorem kAdd_str (x y : Str) (h : x.length + y.length ≤ 16777216) : kAdd (.str x) (.str y) = some (false, .str (x ++ y)) := by
  show (if x.length + y.length ≤ 16777216 then _ else _) = _
  rw [if_pos h]
theorem kAdd_int (x y : Int) : kAdd (.int x) (.int y) = some (false, .int (x + y)) := rfl
theorem kAdd_lst (xs ys : List D) (h : xs.length + ys.length ≤ 16777216) : kAdd (.lst xs) (.lst ys) = some (true, .lst (xs ++ ys)) := by
  have e : kCat (.lst xs) (.lst ys) = some (true, .lst (xs ++ ys)) := if_pos h
  show (kCat (.lst xs) (.lst ys)).orElse _ = _
  rw [e]; rfl
theorem kAdd_tup (xs ys : List D) (h : xs.length + ys.length ≤ 16777216) : kAdd (.tup xs) (.tup ys) = some (false, .tup (xs ++ ys)) := by
  have e : kCatT (.tup xs) (.tup ys) = some (false, .tup (xs ++ ys)) := if_pos h
  show (kCatT (.tup xs) (.tup ys)).orElse _ = _
  rw [e]; rfl
end PV
set_option maxHeartbeats 4000000
namespace K72
open PySem PySem.Spec PyProof.Rows L2 PV
def top (i : Nat) : Stmt := PySem.Challenge.pw_untoldplaces_k72_texts_of_works.main.body.getD i (.Pass ⟨0, 0, 0, 0⟩)
def g_FIGURES : D := .str "0123456789"
def g_KEPT : D := .tup [.str "all", .str "apart", .str "cannot", .str "done", .str "end", .str "entry", .str "from", .str "given", .str "guess", .str "journal", .str "known", .str "near", .str "no", .str "none", .str "over", .str "place", .str "plain", .str "reach", .str "redo", .str "scale", .str "table", .str "take", .str "tell", .str "undo", .str "untold", .str "what", .str "yes"]
def g_LETTERS : D := .str "abcdefghijklmnopqrstuvwxyz"
def g_LONG : D := .int 400
structure Txt (K : PySem.W.Frag) (mg : Str → Option Value) : Prop where
  blt : Blt mg
  d_is_name : TxtDef K mg "is_name" (top 31)
  d_is_number : TxtDef K mg "is_number" (top 32)
  d_is_word : TxtDef K mg "is_word" (top 33)
  d_is_row : TxtDef K mg "is_row" (top 34)
  d_common_divisor : TxtDef K mg "common_divisor" (top 36)
  d_is_fraction : TxtDef K mg "is_fraction" (top 37)
  d_is_work : TxtDef K mg "is_work" (top 39)
  d_is_text_of_number : TxtDef K mg "is_text_of_number" (top 43)
  d_fraction_text : TxtDef K mg "fraction_text" (top 44)
  d_fraction_in : TxtDef K mg "fraction_in" (top 45)
  d_length_of : TxtDef K mg "length_of" (top 46)
  d_check_long : TxtDef K mg "check_long" (top 47)
  d_work_line : TxtDef K mg "work_line" (top 49)
  d_short_line : TxtDef K mg "short_line" (top 50)
  d_work_in : TxtDef K mg "work_in" (top 51)
  d_work_text : TxtDef K mg "work_text" (top 52)
  d__law_begun : TxtDef K mg "_law_begun" (top 55)
  d__law_mixed : TxtDef K mg "_law_mixed" (top 56)
  d__law_take : TxtDef K mg "_law_take" (top 57)
  d__law_pick : TxtDef K mg "_law_pick" (top 58)
  d__law_shuffled : TxtDef K mg "_law_shuffled" (top 59)
  d__law_names : TxtDef K mg "_law_names" (top 61)
  d__law_divisor : TxtDef K mg "_law_divisor" (top 62)
  d__law_fraction : TxtDef K mg "_law_fraction" (top 63)
  d__law_same : TxtDef K mg "_law_same" (top 64)
  d__law_kept : TxtDef K mg "_law_kept" (top 67)
  d__law_is_name : TxtDef K mg "_law_is_name" (top 68)
  d__law_is_number : TxtDef K mg "_law_is_number" (top 69)
  d__law_is_fraction : TxtDef K mg "_law_is_fraction" (top 70)
  d__law_is_small : TxtDef K mg "_law_is_small" (top 71)
  d__law_is_a_work : TxtDef K mg "_law_is_a_work" (top 72)
  d__law_fraction_text : TxtDef K mg "_law_fraction_text" (top 73)
  d__law_work_line : TxtDef K mg "_law_work_line" (top 74)
  d__law_is_figures : TxtDef K mg "_law_is_figures" (top 75)
  d_read_work : TxtDef K mg "read_work" (top 53)
  d_law : TxtDef K mg "law" (top 76)
  g_FIGURES : GlobC K mg "FIGURES" g_FIGURES
  g_KEPT : GlobC K mg "KEPT" g_KEPT
  g_LETTERS : GlobC K mg "LETTERS" g_LETTERS
  g_LONG : GlobC K mg "LONG" g_LONG
noncomputable section
variable {P : Program} {w : World} {K : PySem.W.Frag} {mg : Str → Option Value} {base : Heap} {xr : Exn → Value → Option Addr → Hp → Prop} {C fI CP cL QL : Addr}
abbrev s_is_name : Stmt := top 31
abbrev n_is_name : List Str := ["thing", "sign"]
def b_is_name : DS := (seqS (ifS (orT (notT (bT (oE1 (kIsa "str") (.var 0)))) (orT (notT (bT (chE .LtE .LtE (cE (.int 1)) (oE1 kLenA (.var 0)) (cE (.int 8))))) (bT (oE2 (kCmp .In) (.var 0) (.ex (cE g_KEPT)))))) (seqS (retS (cE (.bl false))) nxS) nxS) (seqS (retS (oE1 kAll (.ex (lcD [1] (itE (nE 0)) (.nm 1) yesT (oE2 (kCmp .In) (.var 1) (.ex (cE g_LETTERS))))))) nxS))
def F_is_name : FS := runDef 2 b_is_name
theorem c_is_name : FnScope n_is_name ["thing"] (defScope s_is_name) := ⟨rfl, rfl, rfl, by decide +kernel, rfl, by decide +kernel, by decide +kernel⟩
theorem d_is_name (T : Txt K mg) : Df P w K mg base xr CX0 1 "is_name" s_is_name ["thing"] F_is_name := Df.of T.d_is_name c_is_name (fun _ _ _ _ _ _ us hl => match us, hl with | [_], _ => rfl) fun f cdv A outer s H E hr hg =>
  (s_cons (s_if (qBool (sW_or (sT_not (qVal (iStr T.blt (oV 0)))) (sW_or (sT_not (qChn hr sE_int (wLen T.blt (oV 0)) sE_int)) (sW_and1 (qCmp hr (oV 0) (oX (wGlob T.g_KEPT))))))) (s_cons (s_ret sE_bl) s_nil) s_nil) (s_cons (s_ret (wAll T.blt (oX (wLc [("sign", 1)] c_is_name.nd (sI_val (wN 0)) (fun _ _ _ _ _ => (.nm (stO c_is_name.nd 1))) (fun _ _ _ _ _ => sTs_nil) (fun _ _ _ _ _ => (wCmp hr (oV 1) (oX (wGlob T.g_LETTERS)))))))) s_nil))
abbrev s_is_number : Stmt := top 32
abbrev n_is_number : List Str := ["thing", "low", "high"]
def b_is_number : DS := (seqS (ifS (orT (bT (oE1 (kIsa "bool") (.var 0))) (notT (bT (oE1 (kIsa "int") (.var 0))))) (seqS (retS (cE (.bl false))) nxS) nxS) (seqS (retS (andE (orE (oE2 (kCmp .Is) (.var 1) (.ex (cE .non))) (oE2 (kCmp .GtE) (.var 0) (.var 1))) (orE (oE2 (kCmp .Is) (.var 2) (.ex (cE .non))) (oE2 (kCmp .LtE) (.var 0) (.var 2))))) nxS))
def F_is_number : FS := runDef 3 b_is_number
theorem c_is_number : FnScope n_is_number ["thing", "low", "high"] (defScope s_is_number) := ⟨rfl, rfl, rfl, by decide +kernel, rfl, by decide +kernel, by decide +kernel⟩
theorem d_is_number (T : Txt K mg) : Df P w K mg base xr CX0 1 "is_number" s_is_number ["thing", "low", "high"] F_is_number := Df.of T.d_is_number c_is_number (fun _ _ _ _ _ _ us hl => match us, hl with | [_, _, _], _ => rfl) fun f cdv A outer s H E hr hg =>
  (s_cons (s_if (qBool (sW_or (qVal (iBool T.blt (oV 0))) (sW_and1 (sT_not (qVal (iInt T.blt (oV 0))))))) (s_cons (s_ret sE_bl) s_nil) s_nil) (s_cons (s_ret (sE_and (sE_or (wCmp hr (oV 1) (oX sE_non)) (sE_one (wCmp hr (oV 0) (oV 1)))) (sE_one (sE_or (wCmp hr (oV 2) (oX sE_non)) (sE_one (wCmp hr (oV 0) (oV 2))))))) s_nil))
abbrev s_is_word : Stmt := top 33
abbrev n_is_word : List Str := ["thing", "words"]
def b_is_word : DS := (seqS (retS (andE (oE1 (kIsa "str") (.var 0)) (oE2 (kCmp .In) (.var 0) (.var 1)))) nxS)
def F_is_word : FS := runDef 2 b_is_word
theorem c_is_word : FnScope n_is_word ["thing", "words"] (defScope s_is_word) := ⟨rfl, rfl, rfl, by decide +kernel, rfl, by decide +kernel, by decide +kernel⟩
theorem d_is_word (T : Txt K mg) : Df P w K mg base xr CX0 1 "is_word" s_is_word ["thing", "words"] F_is_word := Df.of T.d_is_word c_is_word (fun _ _ _ _ _ _ us hl => match us, hl with | [_, _], _ => rfl) fun f cdv A outer s H E hr hg =>
  (s_cons (s_ret (sE_and (iStr T.blt (oV 0)) (sE_one (wCmp hr (oV 0) (oV 1))))) s_nil)
abbrev s_is_row : Stmt := top 34
abbrev n_is_row : List Str := ["thing", "many"]
def b_is_row : DS := (seqS (retS (andE (oE1 (kIsa "tuple") (.var 0)) (oE2 (kCmp .Eq) (.ex (oE1 kLenA (.var 0))) (.var 1)))) nxS)
def F_is_row : FS := runDef 2 b_is_row
theorem c_is_row : FnScope n_is_row ["thing", "many"] (defScope s_is_row) := ⟨rfl, rfl, rfl, by decide +kernel, rfl, by decide +kernel, by decide +kernel⟩
theorem d_is_row (T : Txt K mg) : Df P w K mg base xr CX0 1 "is_row" s_is_row ["thing", "many"] F_is_row := Df.of T.d_is_row c_is_row (fun _ _ _ _ _ _ us hl => match us, hl with | [_, _], _ => rfl) fun f cdv A outer s H E hr hg =>
  (s_cons (s_ret (sE_and (iTup T.blt (oV 0)) (sE_one (wCmp hr (oX (wLen T.blt (oV 0))) (oV 1))))) s_nil)
abbrev s_common_divisor : Stmt := top 36
abbrev n_common_divisor : List Str := ["one", "other"]
def b_common_divisor : DS := (seqS (whS (bT (oE2 (kCmp .Gt) (.var 1) (.ex (cE (.int 0))))) (seqS (parS 0 1 (nE 1) (bE (k1 fMod) (nE 0) (nE 1))) nxS)) (seqS (retS (mE 0)) nxS))
def F_common_divisor : FS := runDef 2 b_common_divisor
theorem c_common_divisor : FnScope n_common_divisor ["one", "other"] (defScope s_common_divisor) := ⟨rfl, rfl, rfl, by decide +kernel, rfl, by decide +kernel, by decide +kernel⟩
theorem d_common_divisor (T : Txt K mg) : Df P w K mg base xr CX0 1 "common_divisor" s_common_divisor ["one", "other"] F_common_divisor := Df.of T.d_common_divisor c_common_divisor (fun _ _ _ _ _ _ us hl => match us, hl with | [_, _], _ => rfl) fun f cdv A outer s H E hr hg =>
  (s_cons (s_while PassesOwn.never (qCmp hr (oV 1) (oX sE_int)) (s_cons (zPar c_common_divisor.nd 0 1 (wN 1) (sE_mod (wN 0) (wN 1))) s_nil)) (s_cons (s_ret (wM 0)) s_nil))
abbrev s_is_fraction : Stmt := top 37
abbrev n_is_fraction : List Str := ["thing"]
def b_is_fraction : DS := (seqS (ifS (orT (notT (bT (callE F_is_row (aCons (nE 0) (aCons (cE (.int 2)) aNil))))) (orT (notT (bT (callE F_is_number (aCons (oE2 kIx (.var 0) (.ex (cE (.int 0)))) (aCons (cE .non) (aCons (cE .non) aNil)))))) (notT (bT (callE F_is_number (aCons (oE2 kIx (.var 0) (.ex (cE (.int 1)))) (aCons (cE (.int 1)) (aCons (cE .non) aNil)))))))) (seqS (retS (cE (.bl false))) nxS) nxS) (seqS (retS (oE2 (kCmp .Eq) (.ex (callE F_common_divisor (aCons (oE1 kAbs (.ex (oE2 kIx (.var 0) (.ex (cE (.int 0)))))) (aCons (oE2 kIx (.var 0) (.ex (cE (.int 1)))) aNil)))) (.ex (cE (.int 1))))) nxS))
def F_is_fraction : FS := runDef 1 b_is_fraction
theorem c_is_fraction : FnScope n_is_fraction ["thing"] (defScope s_is_fraction) := ⟨rfl, rfl, rfl, by decide +kernel, rfl, by decide +kernel, by decide +kernel⟩
theorem d_is_fraction (T : Txt K mg) : Df P w K mg base xr CX0 2 "is_fraction" s_is_fraction ["thing"] F_is_fraction := Df.of T.d_is_fraction c_is_fraction (fun _ _ _ _ _ _ us hl => match us, hl with | [_], _ => rfl) fun f cdv A outer s H E hr hg =>
  (s_cons (s_if (qBool (sW_or (sT_not (qVal (wCall (d_is_row T) hr hg (aC (wN 0) (aC sE_int aN)) noX len2))) (sW_or (sT_not (qVal (wCall (d_is_number T) hr hg (aC (wIx hr (oV 0) (oX sE_int)) (aC sE_non (aC sE_non aN))) noX len3))) (sW_and1 (sT_not (qVal (wCall (d_is_number T) hr hg (aC (wIx hr (oV 0) (oX sE_int)) (aC sE_int (aC sE_non aN))) noX len3))))))) (s_cons (s_ret sE_bl) s_nil) s_nil) (s_cons (s_ret (wCmp hr (oX (wCall (d_common_divisor T) hr hg (aC (wAbs T.blt (oX (wIx hr (oV 0) (oX sE_int)))) (aC (wIx hr (oV 0) (oX sE_int)) aN)) noX len2)) (oX sE_int))) s_nil))
abbrev s_is_work : Stmt := top 39
abbrev n_is_work : List Str := ["thing"]
def b_is_work : DS := (seqS (ifS (orT (notT (bT (oE1 (kIsa "tuple") (.var 0)))) (orT (bT (oE2 (kCmp .Lt) (.ex (oE1 kLenA (.var 0))) (.ex (cE (.int 3))))) (notT (bT (callE F_is_name (aCons (oE2 kIx (.var 0) (.ex (cE (.int 1)))) aNil)))))) (seqS (retS (cE (.bl false))) nxS) nxS) (seqS (ifS (bT (callE F_is_word (aCons (oE2 kIx (.var 0) (.ex (cE (.int 0)))) (aCons (tupE (aCons (cE (.str "scale")) aNil)) aNil)))) (seqS (retS (andE (oE2 (kCmp .Eq) (.ex (oE1 kLenA (.var 0))) (.ex (cE (.int 3)))) (callE F_is_fraction (aCons (oE2 kIx (.var 0) (.ex (cE (.int 2)))) aNil)))) nxS) nxS) (seqS (ifS (notT (bT (callE F_is_name (aCons (oE2 kIx (.var 0) (.ex (cE (.int 2)))) aNil)))) (seqS (retS (cE (.bl false))) nxS) nxS) (seqS (ifS (bT (callE F_is_word (aCons (oE2 kIx (.var 0) (.ex (cE (.int 0)))) (aCons (tupE (aCons (cE (.str "take")) aNil)) aNil)))) (seqS (retS (oE2 (kCmp .Eq) (.ex (oE1 kLenA (.var 0))) (.ex (cE (.int 3))))) nxS) nxS) (seqS (retS (andE (callE F_is_word (aCons (oE2 kIx (.var 0) (.ex (cE (.int 0)))) (aCons (tupE (aCons (cE (.str "tell")) aNil)) aNil))) (andE (oE2 (kCmp .Eq) (.ex (oE1 kLenA (.var 0))) (.ex (cE (.int 4)))) (callE F_is_fraction (aCons (oE2 kIx (.var 0) (.ex (cE (.int 3)))) aNil))))) nxS)))))
def F_is_work : FS := runDef 1 b_is_work
theorem c_is_work : FnScope n_is_work ["thing"] (defScope s_is_work) := ⟨rfl, rfl, rfl, by decide +kernel, rfl, by decide +kernel, by decide +kernel⟩
theorem d_is_work (T : Txt K mg) : Df P w K mg base xr CX0 3 "is_work" s_is_work ["thing"] F_is_work := Df.of T.d_is_work c_is_work (fun _ _ _ _ _ _ us hl => match us, hl with | [_], _ => rfl) fun f cdv A outer s H E hr hg =>
  (s_cons (s_if (qBool (sW_or (sT_not (qVal (iTup T.blt (oV 0)))) (sW_or (qCmp hr (oX (wLen T.blt (oV 0))) (oX sE_int)) (sW_and1 (sT_not (qVal (wCall (d_is_name T) hr hg (aC (wIx hr (oV 0) (oX sE_int)) aN) noX len1))))))) (s_cons (s_ret sE_bl) s_nil) s_nil) (s_cons (s_if (qVal (wCall (d_is_word T) hr hg (aC (wIx hr (oV 0) (oX sE_int)) (aC (sE_tup (aC sE_str aN)) aN)) noX len2)) (s_cons (s_ret (sE_and (wCmp hr (oX (wLen T.blt (oV 0))) (oX sE_int)) (sE_one (wCall (d_is_fraction T) hr hg (aC (wIx hr (oV 0) (oX sE_int)) aN) noX len1)))) s_nil) s_nil) (s_cons (s_if (sT_not (qVal (wCall (d_is_name T) hr hg (aC (wIx hr (oV 0) (oX sE_int)) aN) noX len1))) (s_cons (s_ret sE_bl) s_nil) s_nil) (s_cons (s_if (qVal (wCall (d_is_word T) hr hg (aC (wIx hr (oV 0) (oX sE_int)) (aC (sE_tup (aC sE_str aN)) aN)) noX len2)) (s_cons (s_ret (wCmp hr (oX (wLen T.blt (oV 0))) (oX sE_int))) s_nil) s_nil) (s_cons (s_ret (sE_and (wCall (d_is_word T) hr hg (aC (wIx hr (oV 0) (oX sE_int)) (aC (sE_tup (aC sE_str aN)) aN)) noX len2) (sE_and (wCmp hr (oX (wLen T.blt (oV 0))) (oX sE_int)) (sE_one (wCall (d_is_fraction T) hr hg (aC (wIx hr (oV 0) (oX sE_int)) aN) noX len1))))) s_nil)))))
abbrev s_is_text_of_number : Stmt := top 43
abbrev n_is_text_of_number : List Str := ["word", "figures", "sign"]
def b_is_text_of_number : DS := (seqS (setS 1 (ifE (bT (oE2 (kCmp .Eq) (.ex (slE (.var 0) none (some (cE (.int 1))))) (.ex (cE (.str "-"))))) (slE (.var 0) (some (cE (.int 1))) none) (nE 0))) (seqS (ifS (orT (notT (bT (chE .LtE .LtE (cE (.int 1)) (oE1 kLenA (.var 1)) (cE g_LONG)))) (notT (bT (oE1 kAll (.ex (lcD [2] (itE (nE 1)) (.nm 2) yesT (oE2 (kCmp .In) (.var 2) (.ex (cE g_FIGURES))))))))) (seqS (retS (cE (.bl false))) nxS) nxS) (seqS (retS (orE (oE2 (kCmp .NotEq) (.ex (oE2 kIx (.var 1) (.ex (cE (.int 0))))) (.ex (cE (.str "0")))) (oE2 (kCmp .Eq) (.var 0) (.ex (cE (.str "0")))))) nxS)))
def F_is_text_of_number : FS := runDef 3 b_is_text_of_number
theorem c_is_text_of_number : FnScope n_is_text_of_number ["word"] (defScope s_is_text_of_number) := ⟨rfl, rfl, rfl, by decide +kernel, rfl, by decide +kernel, by decide +kernel⟩
theorem d_is_text_of_number (T : Txt K mg) : Df P w K mg base xr CX0 1 "is_text_of_number" s_is_text_of_number ["word"] F_is_text_of_number := Df.of T.d_is_text_of_number c_is_text_of_number (fun _ _ _ _ _ _ us hl => match us, hl with | [_], _ => rfl) fun f cdv A outer s H E hr hg =>
  (s_cons (zSet (stO c_is_text_of_number.nd 1) (sE_if (qCmp hr (oX (wS (oV 0) .none (.some sE_int))) (oX sE_str)) (wS (oV 0) (.some sE_int) .none) (wN 0))) (s_cons (s_if (qBool (sW_or (sT_not (qChn hr sE_int (wLen T.blt (oV 1)) (wGlob T.g_LONG))) (sW_and1 (sT_not (qVal (wAll T.blt (oX (wLc [("sign", 2)] c_is_text_of_number.nd (sI_val (wN 1)) (fun _ _ _ _ _ => (.nm (stO c_is_text_of_number.nd 2))) (fun _ _ _ _ _ => sTs_nil) (fun _ _ _ _ _ => (wCmp hr (oV 2) (oX (wGlob T.g_FIGURES)))))))))))) (s_cons (s_ret sE_bl) s_nil) s_nil) (s_cons (s_ret (sE_or (wCmp hr (oX (wIx hr (oV 1) (oX sE_int))) (oX sE_str)) (sE_one (wCmp hr (oV 0) (oX sE_str))))) s_nil)))
abbrev s_fraction_text : Stmt := top 44
abbrev n_fraction_text : List Str := ["number"]
def b_fraction_text : DS := (seqS (retS (ifE (bT (oE2 (kCmp .Eq) (.ex (oE2 kIx (.var 0) (.ex (cE (.int 1))))) (.ex (cE (.int 1))))) (oE1 kStr (.ex (oE2 kIx (.var 0) (.ex (cE (.int 0)))))) (bE kAdd (bE kAdd (oE1 kStr (.ex (oE2 kIx (.var 0) (.ex (cE (.int 0)))))) (cE (.str " over "))) (oE1 kStr (.ex (oE2 kIx (.var 0) (.ex (cE (.int 1))))))))) nxS)
def F_fraction_text : FS := runDef 1 b_fraction_text
theorem c_fraction_text : FnScope n_fraction_text ["number"] (defScope s_fraction_text) := ⟨rfl, rfl, rfl, by decide +kernel, rfl, by decide +kernel, by decide +kernel⟩
theorem d_fraction_text (T : Txt K mg) : Df P w K mg base xr CX0 1 "fraction_text" s_fraction_text ["number"] F_fraction_text := Df.of T.d_fraction_text c_fraction_text (fun _ _ _ _ _ _ us hl => match us, hl with | [_], _ => rfl) fun f cdv A outer s H E hr hg =>
  (s_cons (s_ret (sE_if (qCmp hr (oX (wIx hr (oV 0) (oX sE_int))) (oX sE_int)) (wStr T.blt (oX (wIx hr (oV 0) (oX sE_int)))) (sE_add (sE_add (wStr T.blt (oX (wIx hr (oV 0) (oX sE_int)))) sE_str) (wStr T.blt (oX (wIx hr (oV 0) (oX sE_int))))))) s_nil)
abbrev s_fraction_in : Stmt := top 45
abbrev n_fraction_in : List Str := ["words", "found"]
def b_fraction_in : DS := (seqS (ifS (orT (bT (oE2 (kCmp .NotIn) (.ex (oE1 kLenA (.var 0))) (.ex (tupE (aCons (cE (.int 1)) (aCons (cE (.int 3)) aNil)))))) (orT (notT (bT (callE F_is_text_of_number (aCons (oE2 kIx (.var 0) (.ex (cE (.int 0)))) aNil)))) (notT (bT (callE F_is_text_of_number (aCons (oE2 kIx (.var 0) (.ex (negE (cE (.int 1))))) aNil)))))) (seqS (retS (cE .non)) nxS) nxS) (seqS (setS 1 (tupE (aCons (oE1 kInt (.ex (oE2 kIx (.var 0) (.ex (cE (.int 0)))))) (aCons (ifE (bT (oE2 (kCmp .Eq) (.ex (oE1 kLenA (.var 0))) (.ex (cE (.int 3))))) (oE1 kInt (.ex (oE2 kIx (.var 0) (.ex (cE (.int 2)))))) (cE (.int 1))) aNil)))) (seqS (retS (ifE (andT (bT (callE F_is_fraction (aCons (nE 1) aNil))) (bT (oE2 (kCmp .Eq) (.ex (m1S kSplit (callE F_fraction_text (aCons (nE 1) aNil)) (cE (.str " ")))) (.ex (oE1 kList (.var 0)))))) (nE 1) (cE .non))) nxS)))
def F_fraction_in : FS := runDef 2 b_fraction_in
theorem c_fraction_in : FnScope n_fraction_in ["words"] (defScope s_fraction_in) := ⟨rfl, rfl, rfl, by decide +kernel, rfl, by decide +kernel, by decide +kernel⟩
theorem d_fraction_in (T : Txt K mg) : Df P w K mg base xr CX0 3 "fraction_in" s_fraction_in ["words"] F_fraction_in := Df.of T.d_fraction_in c_fraction_in (fun _ _ _ _ _ _ us hl => match us, hl with | [_], _ => rfl) fun f cdv A outer s H E hr hg =>
  (s_cons (s_if (qBool (sW_or (qCmp hr (oX (wLen T.blt (oV 0))) (oX (sE_tup (aC sE_int (aC sE_int aN))))) (sW_or (sT_not (qVal (wCall (d_is_text_of_number T) hr hg (aC (wIx hr (oV 0) (oX sE_int)) aN) noX len1))) (sW_and1 (sT_not (qVal (wCall (d_is_text_of_number T) hr hg (aC (wIx hr (oV 0) (oX (wNeg sE_int))) aN) noX len1))))))) (s_cons (s_ret sE_non) s_nil) s_nil) (s_cons (zSet (stO c_fraction_in.nd 1) (sE_tup (aC (wInt T.blt (oX (wIx hr (oV 0) (oX sE_int)))) (aC (sE_if (qCmp hr (oX (wLen T.blt (oV 0))) (oX sE_int)) (wInt T.blt (oX (wIx hr (oV 0) (oX sE_int)))) sE_int) aN)))) (s_cons (s_ret (sE_if (qBool (sW_and (qVal (wCall (d_is_fraction T) hr hg (aC (wN 1) aN) noX len1)) (sW_and1 (qCmp hr (oX (wSplit (wCall (d_fraction_text T) hr hg (aC (wN 1) aN) noX len1) sE_str)) (oX (wList T.blt (oV 0))))))) (wN 1) sE_non)) s_nil)))
abbrev s_length_of : Stmt := top 46
abbrev n_length_of : List Str := ["number", "left", "lap"]
def b_length_of : DS := (seqS (setS 1 (oE1 kAbs (.var 0))) (seqS (forS (rngI (aCons (bE (k1 fSub) (cE g_LONG) (cE (.int 1))) aNil)) (.nm 2) (seqS (setS 1 (bE (k1 fDiv) (nE 1) (cE (.int 10)))) nxS)) (seqS (retS (mE 1)) nxS)))
def F_length_of : FS := runDef 3 b_length_of
theorem c_length_of : FnScope n_length_of ["number"] (defScope s_length_of) := ⟨rfl, rfl, rfl, by decide +kernel, rfl, by decide +kernel, by decide +kernel⟩
theorem d_length_of (T : Txt K mg) : Df P w K mg base xr CX0 1 "length_of" s_length_of ["number"] F_length_of := Df.of T.d_length_of c_length_of (fun _ _ _ _ _ _ us hl => match us, hl with | [_], _ => rfl) fun f cdv A outer s H E hr hg =>
  (s_cons (zSet (stO c_length_of.nd 1) (wAbs T.blt (oV 0))) (s_cons (zFor (iR1 T.blt (sE_sub (wGlob T.g_LONG) sE_int)) (.nm (stO c_length_of.nd 2)) (s_cons (zSet (stO c_length_of.nd 1) (sE_div (wN 1) sE_int)) s_nil) PassesOwn.never) (s_cons (s_ret (wM 1)) s_nil)))
abbrev s_check_long : Stmt := top 47
abbrev n_check_long : List Str := ["numbers", "number"]
def b_check_long : DS := (seqS (forS (itE (nE 0)) (.nm 1) (seqS (ifS (orT (bT (oE2 (kCmp .Gt) (.ex (callE F_length_of (aCons (oE2 kIx (.var 1) (.ex (cE (.int 0)))) aNil))) (.ex (cE (.int 9))))) (bT (oE2 (kCmp .Gt) (.ex (callE F_length_of (aCons (oE2 kIx (.var 1) (.ex (cE (.int 1)))) aNil))) (.ex (cE (.int 9)))))) (seqS (fun _ => .bad) nxS) nxS) nxS)) nxS)
def F_check_long : FS := runDef 2 b_check_long
theorem c_check_long : FnScope n_check_long ["numbers"] (defScope s_check_long) := ⟨rfl, rfl, rfl, by decide +kernel, rfl, by decide +kernel, by decide +kernel⟩
theorem d_check_long (T : Txt K mg) : Df P w K mg base xr CX0 2 "check_long" s_check_long ["numbers"] F_check_long := Df.of T.d_check_long c_check_long (fun _ _ _ _ _ _ us hl => match us, hl with | [_], _ => rfl) fun f cdv A outer s H E hr hg =>
  (s_cons (zFor (sI_val (wN 0)) (.nm (stO c_check_long.nd 1)) (s_cons (s_if (qBool (sW_or (qCmp hr (oX (wCall (d_length_of T) hr hg (aC (wIx hr (oV 1) (oX sE_int)) aN) noX len1)) (oX sE_int)) (sW_and1 (qCmp hr (oX (wCall (d_length_of T) hr hg (aC (wIx hr (oV 1) (oX sE_int)) aN) noX len1)) (oX sE_int))))) (s_cons s_never s_nil) s_nil) s_nil) PassesOwn.never) s_nil)
abbrev s_work_line : Stmt := top 49
abbrev n_work_line : List Str := ["work", "one"]
def b_work_line : DS := (seqS (retS (m1S kJoin (cE (.str " ")) (lcD [1] (itE (nE 0)) (.nm 1) yesT (ifE (bT (oE1 (kIsa "tuple") (.var 1))) (callE F_fraction_text (aCons (nE 1) aNil)) (nE 1))))) nxS)
def F_work_line : FS := runDef 2 b_work_line
theorem c_work_line : FnScope n_work_line ["work"] (defScope s_work_line) := ⟨rfl, rfl, rfl, by decide +kernel, rfl, by decide +kernel, by decide +kernel⟩
theorem d_work_line (T : Txt K mg) : Df P w K mg base xr CX0 2 "work_line" s_work_line ["work"] F_work_line := Df.of T.d_work_line c_work_line (fun _ _ _ _ _ _ us hl => match us, hl with | [_], _ => rfl) fun f cdv A outer s H E hr hg =>
  (s_cons (s_ret (wJoin sE_str (wLc [("one", 1)] c_work_line.nd (sI_val (wN 0)) (fun _ _ _ _ _ => (.nm (stO c_work_line.nd 1))) (fun _ _ _ _ _ => sTs_nil) (fun _ _ _ _ _ => (sE_if (qVal (iTup T.blt (oV 1))) (wCall (d_fraction_text T) hr hg (aC (wN 1) aN) noX len1) (wN 1)))))) s_nil)
abbrev s_short_line : Stmt := top 50
abbrev n_short_line : List Str := ["work", "one"]
def b_short_line : DS := (seqS (dropS (callE F_check_long (aCons (lcD [1] (itE (nE 0)) (.nm 1) (bT (oE1 (kIsa "tuple") (.var 1))) (nE 1)) aNil))) (seqS (retS (callE F_work_line (aCons (nE 0) aNil))) nxS))
def F_short_line : FS := runDef 2 b_short_line
theorem c_short_line : FnScope n_short_line ["work"] (defScope s_short_line) := ⟨rfl, rfl, rfl, by decide +kernel, rfl, by decide +kernel, by decide +kernel⟩
theorem d_short_line (T : Txt K mg) : Df P w K mg base xr CX0 3 "short_line" s_short_line ["work"] F_short_line := Df.of T.d_short_line c_short_line (fun _ _ _ _ _ _ us hl => match us, hl with | [_], _ => rfl) fun f cdv A outer s H E hr hg =>
  (s_cons (zExpr (wCall (d_check_long T) hr hg (aC (wLc [("one", 1)] c_short_line.nd (sI_val (wN 0)) (fun _ _ _ _ _ => (.nm (stO c_short_line.nd 1))) (fun _ _ _ _ _ => (qOne (qVal (iTup T.blt (oV 1))))) (fun _ _ _ _ _ => (wN 1))) aN) noX len1)) (s_cons (s_ret (wCall (d_work_line T) hr hg (aC (wN 0) aN) noX len1)) s_nil))
abbrev s_work_in : Stmt := top 51
abbrev n_work_in : List Str := ["line", "words", "many", "found", "number"]
def b_work_in : DS := (seqS (setS 1 (m1S kSplit (nE 0) (cE (.str " ")))) (seqS (setS 2 (get2E (.ex (dispE [((cE (.str "tell")), (cE (.int 3))), ((cE (.str "take")), (cE (.int 3))), ((cE (.str "scale")), (cE (.int 2)))])) (oE2 kIx (.var 1) (.ex (cE (.int 0)))) (cE (.int 0)))) (seqS (ifS (orT (bT (oE2 (kCmp .Eq) (.var 2) (.ex (cE (.int 0))))) (bT (oE2 (kCmp .Lt) (.ex (oE1 kLenA (.var 1))) (.var 2)))) (seqS (retS (cE .non)) nxS) nxS) (seqS (setS 3 (oE1 kTuple (.ex (slE (.var 1) none (some (nE 2)))))) (seqS (ifS (bT (oE2 (kCmp .NotEq) (.ex (oE2 kIx (.var 1) (.ex (cE (.int 0))))) (.ex (cE (.str "take"))))) (seqS (setS 4 (callE F_fraction_in (aCons (slE (.var 1) (some (nE 2)) none) aNil))) (seqS (ifS (bT (oE2 (kCmp .Is) (.var 4) (.ex (cE .non)))) (seqS (retS (cE .non)) nxS) nxS) (seqS (setS 3 (bE kAdd (nE 3) (tupE (aCons (nE 4) aNil)))) nxS))) nxS) (seqS (retS (ifE (andT (bT (callE F_is_work (aCons (nE 3) aNil))) (bT (oE2 (kCmp .Eq) (.ex (callE F_work_line (aCons (nE 3) aNil))) (.var 0)))) (nE 3) (cE .non))) nxS))))))
def F_work_in : FS := runDef 5 b_work_in
theorem c_work_in : FnScope n_work_in ["line"] (defScope s_work_in) := ⟨rfl, rfl, rfl, by decide +kernel, rfl, by decide +kernel, by decide +kernel⟩
theorem d_work_in (T : Txt K mg) : Df P w K mg base xr CX0 4 "work_in" s_work_in ["line"] F_work_in := Df.of T.d_work_in c_work_in (fun _ _ _ _ _ _ us hl => match us, hl with | [_], _ => rfl) fun f cdv A outer s H E hr hg =>
  (s_cons (zSet (stO c_work_in.nd 1) (wSplit (wN 0) sE_str)) (s_cons (zSet (stO c_work_in.nd 2) (wGet2 hr (oX (sE_disp (l := [((cE (.str "tell")), (cE (.int 3))), ((cE (.str "take")), (cE (.int 3))), ((cE (.str "scale")), (cE (.int 2)))]) (sPP_cons sE_str sE_int (sPP_cons sE_str sE_int (sPP_cons sE_str sE_int sPP_nil))) (by rfl) (by rfl) (by intro z; cases z) (by decide))) (wIx hr (oV 1) (oX sE_int)) sE_int)) (s_cons (s_if (qBool (sW_or (qCmp hr (oV 2) (oX sE_int)) (sW_and1 (qCmp hr (oX (wLen T.blt (oV 1))) (oV 2))))) (s_cons (s_ret sE_non) s_nil) s_nil) (s_cons (zSet (stO c_work_in.nd 3) (wTup T.blt (oX (wS (oV 1) .none (.some (wN 2)))))) (s_cons (s_if (qCmp hr (oX (wIx hr (oV 1) (oX sE_int))) (oX sE_str)) (s_cons (zSet (stO c_work_in.nd 4) (wCall (d_fraction_in T) hr hg (aC (wS (oV 1) (.some (wN 2)) .none) aN) noX len1)) (s_cons (s_if (qCmp hr (oV 4) (oX sE_non)) (s_cons (s_ret sE_non) s_nil) s_nil) (s_cons (zSet (stO c_work_in.nd 3) (sE_add (wN 3) (sE_tup (aC (wN 4) aN)))) s_nil))) s_nil) (s_cons (s_ret (sE_if (qBool (sW_and (qVal (wCall (d_is_work T) hr hg (aC (wN 3) aN) noX len1)) (sW_and1 (qCmp hr (oX (wCall (d_work_line T) hr hg (aC (wN 3) aN) noX len1)) (oV 0))))) (wN 3) sE_non)) s_nil))))))
abbrev s_work_text : Stmt := top 52
abbrev n_work_text : List Str := ["work"]
def b_work_text : DS := (seqS (ifS (notT (bT (callE F_is_work (aCons (nE 0) aNil)))) (seqS (fun _ => .bad) nxS) nxS) (seqS (retS (callE F_short_line (aCons (nE 0) aNil))) nxS))
def F_work_text : FS := runDef 1 b_work_text
theorem c_work_text : FnScope n_work_text ["work"] (defScope s_work_text) := ⟨rfl, rfl, rfl, by decide +kernel, rfl, by decide +kernel, by decide +kernel⟩
theorem d_work_text (T : Txt K mg) : Df P w K mg base xr CX0 4 "work_text" s_work_text ["work"] F_work_text := Df.of T.d_work_text c_work_text (fun _ _ _ _ _ _ us hl => match us, hl with | [_], _ => rfl) fun f cdv A outer s H E hr hg =>
  (s_cons (s_if (sT_not (qVal (wCall (d_is_work T) hr hg (aC (wN 0) aN) noX len1))) (s_cons s_never s_nil) s_nil) (s_cons (s_ret (wCall (d_short_line T) hr hg (aC (wN 0) aN) noX len1)) s_nil))
abbrev s__law_begun : Stmt := top 55
abbrev n__law_begun : List Str := ["script", "large", "grain"]
def b__law_begun : DS := (seqS (setS 1 (lcD [2] (itE (nE 0)) (.nm 2) (bT (oE2 (kCmp .GtE) (.ex (oE1 kAbs (.var 2))) (.ex (bE (k1 fPow) (cE (.int 10)) (cE (.int 18)))))) (bE (k1 fSub) (oE1 kAbs (.var 2)) (bE (k1 fPow) (cE (.int 10)) (cE (.int 18)))))) (seqS (retS (wnewE 1 (lcD [2] (itE (nE 0)) (.nm 2) yesT (bE (k1 fMod) (oE1 kInt (.ex (oE1 kAbs (.var 2)))) (cE (.int 2147483629)))))) nxS))
def F__law_begun : FS := runDef 3 b__law_begun
theorem c__law_begun : FnScope n__law_begun ["script"] (defScope s__law_begun) := ⟨rfl, rfl, rfl, by decide +kernel, rfl, by decide +kernel, by decide +kernel⟩
theorem d__law_begun (T : Txt K mg) : Df P w K mg base xr CX0 1 "_law_begun" s__law_begun ["script"] F__law_begun := Df.of T.d__law_begun c__law_begun (fun _ _ _ _ _ _ us hl => match us, hl with | [_], _ => rfl) fun f cdv A outer s H E hr hg =>
  (s_cons (zLc (i := 1) [("grain", 2)] c__law_begun.nd (sI_val (wN 0)) (fun _ _ _ _ _ => (.nm (stO c__law_begun.nd 2))) (fun _ _ _ _ _ => (qOne (qCmp hr (oX (wAbs T.blt (oV 2))) (oX (sE_pow sE_int sE_int))))) (fun _ _ _ _ _ => (sE_sub (wAbs T.blt (oV 2)) (sE_pow sE_int sE_int)))) (s_cons (s_ret (sE_wnew (pv 1) (wLc [("grain", 2)] c__law_begun.nd (sI_val (wN 0)) (fun _ _ _ _ _ => (.nm (stO c__law_begun.nd 2))) (fun _ _ _ _ _ => sTs_nil) (fun _ _ _ _ _ => (sE_mod (wInt T.blt (oX (wAbs T.blt (oV 2)))) sE_int))))) s_nil))
abbrev s__law_mixed : Stmt := top 56
abbrev n__law_mixed : List Str := ["draw", "prime", "turn", "found", "blend", "grain"]
def b__law_mixed : DS := (seqS (parS 2 3 (bE kAdd (wgetE 0 (fun dr => .int dr.turn)) (cE (.int 1))) (cE (.int 0))) (seqS (wputS 0 (fun dr n => { dr with turn := n }) (nE 2)) (seqS (forS (itE (lstE (aCons (cE (.int 2147483647)) (aCons (cE (.int 2147483629)) (aCons (cE (.int 2147483587)) (aCons (cE (.int 2147483579)) aNil)))))) (.nm 1) (seqS (setS 4 (bE kAdd (bE (k1 fMul) (cE (.int 48271)) (nE 2)) (bE (k1 fDiv) (nE 1) (cE (.int 37))))) (seqS (forS (itE (wgetE 0 (fun dr => .lst (dr.cells.map .int)))) (.nm 5) (seqS (setS 4 (bE (k1 fMod) (oE1 kInt (.ex (bE kAdd (bE kAdd (bE (k1 fMul) (nE 4) (cE (.int 69621))) (nE 5)) (nE 2)))) (nE 1))) nxS)) (seqS (setS 3 (bE kAdd (bE (k1 fMul) (nE 3) (cE (.int 2147483648))) (nE 4))) nxS)))) (seqS (retS (mE 3)) nxS))))
def F__law_mixed : FS := runDef 6 b__law_mixed
theorem c__law_mixed : FnScope n__law_mixed ["draw"] (defScope s__law_mixed) := ⟨rfl, rfl, rfl, by decide +kernel, rfl, by decide +kernel, by decide +kernel⟩
theorem d__law_mixed (T : Txt K mg) : Df P w K mg base xr CX0 1 "_law_mixed" s__law_mixed ["draw"] F__law_mixed := Df.of T.d__law_mixed c__law_mixed (fun _ _ _ _ _ _ us hl => match us, hl with | [_], _ => rfl) fun f cdv A outer s H E hr hg =>
  (s_cons (zPar c__law_mixed.nd 2 3 (sE_add (sE_wturn hr (pv 0)) sE_int) sE_int) (s_cons (s_wturn hr (pv 0) (wN 2) (by rfl)) (s_cons (zFor (sI_val (sE_lst (aC sE_int (aC sE_int (aC sE_int (aC sE_int aN)))))) (.nm (stO c__law_mixed.nd 1)) (s_cons (zSet (stO c__law_mixed.nd 4) (sE_add (sE_mul sE_int (wN 2)) (sE_div (wN 1) sE_int))) (s_cons (zFor (sI_val (sE_wcells hr (pv 0))) (.nm (stO c__law_mixed.nd 5)) (s_cons (zSet (stO c__law_mixed.nd 4) (sE_mod (wInt T.blt (oX (sE_add (sE_add (sE_mul (wN 4) sE_int) (wN 5)) (wN 2)))) (wN 1))) s_nil) PassesOwn.never) (s_cons (zSet (stO c__law_mixed.nd 3) (sE_add (sE_mul (wN 3) sE_int) (wN 4))) s_nil))) PassesOwn.never) (s_cons (s_ret (wM 3)) s_nil))))
abbrev s__law_take : Stmt := top 57
abbrev n__law_take : List Str := ["draw", "many", "found"]
def b__law_take : DS := (seqS (ifS (bT (oE2 (kCmp .Eq) (.ex (wgetE 0 (fun dr => .int dr.rest))) (.ex (cE (.int 0))))) (seqS (wputS 0 (fun dr n => { dr with rest := n }) (ifE (wneT 0) (wpopE 0) (callE F__law_mixed (aCons (nE 0) aNil)))) nxS) nxS) (seqS (setS 2 (bE (k1 fMod) (oE1 kInt (.ex (wgetE 0 (fun dr => .int dr.rest)))) (nE 1))) (seqS (wputS 0 (fun dr n => { dr with rest := n }) (bE (k1 fDiv) (oE1 kInt (.ex (wgetE 0 (fun dr => .int dr.rest)))) (nE 1))) (seqS (retS (mE 2)) nxS))))
def F__law_take : FS := runDef 3 b__law_take
theorem c__law_take : FnScope n__law_take ["draw", "many"] (defScope s__law_take) := ⟨rfl, rfl, rfl, by decide +kernel, rfl, by decide +kernel, by decide +kernel⟩
theorem d__law_take (T : Txt K mg) : Df P w K mg base xr CX0 2 "_law_take" s__law_take ["draw", "many"] F__law_take := Df.of T.d__law_take c__law_take (fun _ _ _ _ _ _ us hl => match us, hl with | [_, _], _ => rfl) fun f cdv A outer s H E hr hg =>
  (s_cons (s_if (qCmp hr (oX (sE_wrest hr (pv 0))) (oX sE_int)) (s_cons (s_wrest hr (pv 0) (sE_if (sT_wne hr (pv 0)) (sE_wpop hr (pv 0) (by rfl) (by rfl) (by rfl)) (wCall (d__law_mixed T) hr hg (aC (wN 0) aN) noX len1)) (by rfl)) s_nil) s_nil) (s_cons (zSet (stO c__law_take.nd 2) (sE_mod (wInt T.blt (oX (sE_wrest hr (pv 0)))) (wN 1))) (s_cons (s_wrest hr (pv 0) (sE_div (wInt T.blt (oX (sE_wrest hr (pv 0)))) (wN 1)) (by rfl)) (s_cons (s_ret (wM 2)) s_nil))))
abbrev s__law_pick : Stmt := top 58
abbrev n__law_pick : List Str := ["draw", "some"]
def b__law_pick : DS := (seqS (retS (oE2 kIx (.var 1) (.ex (callE F__law_take (aCons (nE 0) (aCons (oE1 kLenA (.var 1)) aNil)))))) nxS)
def F__law_pick : FS := runDef 2 b__law_pick
theorem c__law_pick : FnScope n__law_pick ["draw", "some"] (defScope s__law_pick) := ⟨rfl, rfl, rfl, by decide +kernel, rfl, by decide +kernel, by decide +kernel⟩
theorem d__law_pick (T : Txt K mg) : Df P w K mg base xr CX0 3 "_law_pick" s__law_pick ["draw", "some"] F__law_pick := Df.of T.d__law_pick c__law_pick (fun _ _ _ _ _ _ us hl => match us, hl with | [_, _], _ => rfl) fun f cdv A outer s H E hr hg =>
  (s_cons (s_ret (wIx hr (oV 1) (oX (wCall (d__law_take T) hr hg (aC (wN 0) (aC (wLen T.blt (oV 1)) aN)) noX len2)))) s_nil)
abbrev s__law_shuffled : Stmt := top 59
abbrev n__law_shuffled : List Str := ["draw", "some", "left", "found"]
def b__law_shuffled : DS := (seqS (parS 2 3 (oE1 kList (.var 1)) (lstE aNil)) (seqS (whS (bT (oE2 (kCmp .NotEq) (.var 2) (.ex (lstE aNil)))) (seqS (dropS (meE isL 3 kAppend (aCons (meE isL 2 kPopAt (aCons (callE F__law_take (aCons (nE 0) (aCons (oE1 kLenA (.var 2)) aNil))) aNil)) aNil))) nxS)) (seqS (retS (mE 3)) nxS)))
def F__law_shuffled : FS := runDef 4 b__law_shuffled
theorem c__law_shuffled : FnScope n__law_shuffled ["draw", "some"] (defScope s__law_shuffled) := ⟨rfl, rfl, rfl, by decide +kernel, rfl, by decide +kernel, by decide +kernel⟩
theorem d__law_shuffled (T : Txt K mg) : Df P w K mg base xr CX0 3 "_law_shuffled" s__law_shuffled ["draw", "some"] F__law_shuffled := Df.of T.d__law_shuffled c__law_shuffled (fun _ _ _ _ _ _ us hl => match us, hl with | [_, _], _ => rfl) fun f cdv A outer s H E hr hg =>
  (s_cons (zPar c__law_shuffled.nd 2 3 (wList T.blt (oV 1)) (sE_lst aN)) (s_cons (s_while PassesOwn.never (qCmp hr (oV 2) (oX (sE_lst aN))) (s_cons (zExpr (wAppend (pv 3) (wPopAt rfl (pv 2) (wCall (d__law_take T) hr hg (aC (wN 0) (aC (wLen T.blt (oV 2)) aN)) noX len2)))) s_nil)) (s_cons (s_ret (wM 3)) s_nil)))
abbrev s__law_names : Stmt := top 61
abbrev n__law_names : List Str := ["draw", "many", "pool"]
def b__law_names : DS := (seqS (setS 2 (lstE (aCons (cE (.str "ash")) (aCons (cE (.str "bay")) (aCons (cE (.str "elm")) (aCons (cE (.str "fir")) (aCons (cE (.str "gum")) (aCons (cE (.str "holly")) (aCons (cE (.str "ivy")) (aCons (cE (.str "oak")) (aCons (cE (.str "pine")) (aCons (cE (.str "yew")) aNil)))))))))))) (seqS (retS (oE1 kTuple (.ex (oE1 kSorted (.ex (slE (.ex (callE F__law_shuffled (aCons (nE 0) (aCons (nE 2) aNil)))) none (some (nE 1)))))))) nxS))
def F__law_names : FS := runDef 3 b__law_names
theorem c__law_names : FnScope n__law_names ["draw", "many"] (defScope s__law_names) := ⟨rfl, rfl, rfl, by decide +kernel, rfl, by decide +kernel, by decide +kernel⟩
theorem d__law_names (T : Txt K mg) : Df P w K mg base xr CX0 4 "_law_names" s__law_names ["draw", "many"] F__law_names := Df.of T.d__law_names c__law_names (fun _ _ _ _ _ _ us hl => match us, hl with | [_, _], _ => rfl) fun f cdv A outer s H E hr hg =>
  (s_cons (zSet (stO c__law_names.nd 2) (sE_lst (aC sE_str (aC sE_str (aC sE_str (aC sE_str (aC sE_str (aC sE_str (aC sE_str (aC sE_str (aC sE_str (aC sE_str aN)))))))))))) (s_cons (s_ret (wTup T.blt (oX (wSort hr T.blt (oX (wS (oX (wCall (d__law_shuffled T) hr hg (aC (wN 0) (aC (wN 2) aN)) noX len2)) .none (.some (wN 1)))))))) s_nil))
abbrev s__law_divisor : Stmt := top 62
abbrev n__law_divisor : List Str := ["one", "other", "lap"]
def b__law_divisor : DS := (seqS (forS (rngI (aCons (cE (.int 4000)) aNil)) (.nm 2) (seqS (ifS (bT (oE2 (kCmp .Eq) (.var 1) (.ex (cE (.int 0))))) (seqS (fun st => .ok .bk st) nxS) nxS) (seqS (parS 0 1 (nE 1) (bE (k1 fMod) (oE1 kInt (.var 0)) (nE 1))) nxS))) (seqS (retS (mE 0)) nxS))
def F__law_divisor : FS := runDef 3 b__law_divisor
theorem c__law_divisor : FnScope n__law_divisor ["one", "other"] (defScope s__law_divisor) := ⟨rfl, rfl, rfl, by decide +kernel, rfl, by decide +kernel, by decide +kernel⟩
theorem d__law_divisor (T : Txt K mg) : Df P w K mg base xr CX0 1 "_law_divisor" s__law_divisor ["one", "other"] F__law_divisor := Df.of T.d__law_divisor c__law_divisor (fun _ _ _ _ _ _ us hl => match us, hl with | [_, _], _ => rfl) fun f cdv A outer s H E hr hg =>
  (s_cons (zFor (iR1 T.blt sE_int) (.nm (stO c__law_divisor.nd 2)) (s_cons (s_if (qCmp hr (oV 1) (oX sE_int)) (s_cons s_break s_nil) s_nil) (s_cons (zPar c__law_divisor.nd 0 1 (wN 1) (sE_mod (wInt T.blt (oV 0)) (wN 1))) s_nil)) PassesOwn.never) (s_cons (s_ret (wM 0)) s_nil))
abbrev s__law_fraction : Stmt := top 63
abbrev n__law_fraction : List Str := ["n", "d", "by"]
def b__law_fraction : DS := (seqS (setS 2 (bE (k1 fMul) (callE F__law_divisor (aCons (oE1 kAbs (.var 0)) (aCons (oE1 kAbs (.var 1)) aNil))) (ifE (bT (oE2 (kCmp .Gt) (.var 1) (.ex (cE (.int 0))))) (cE (.int 1)) (negE (cE (.int 1)))))) (seqS (retS (tupE (aCons (bE (k1 fDiv) (nE 0) (nE 2)) (aCons (bE (k1 fDiv) (nE 1) (nE 2)) aNil)))) nxS))
def F__law_fraction : FS := runDef 3 b__law_fraction
theorem c__law_fraction : FnScope n__law_fraction ["n", "d"] (defScope s__law_fraction) := ⟨rfl, rfl, rfl, by decide +kernel, rfl, by decide +kernel, by decide +kernel⟩
theorem d__law_fraction (T : Txt K mg) : Df P w K mg base xr CX0 2 "_law_fraction" s__law_fraction ["n", "d"] F__law_fraction := Df.of T.d__law_fraction c__law_fraction (fun _ _ _ _ _ _ us hl => match us, hl with | [_, _], _ => rfl) fun f cdv A outer s H E hr hg =>
  (s_cons (zSet (stO c__law_fraction.nd 2) (sE_mul (wCall (d__law_divisor T) hr hg (aC (wAbs T.blt (oV 0)) (aC (wAbs T.blt (oV 1)) aN)) noX len2) (sE_if (qCmp hr (oV 1) (oX sE_int)) sE_int (wNeg sE_int)))) (s_cons (s_ret (sE_tup (aC (sE_div (wN 0) (wN 2)) (aC (sE_div (wN 1) (wN 2)) aN)))) s_nil))
abbrev s__law_same : Stmt := top 64
abbrev n__law_same : List Str := ["thing", "due"]
def b__law_same : DS := (seqS (retS (oE2 (kCmp .Eq) (.ex (oE1 kRepr (.var 0))) (.ex (oE1 kRepr (.var 1))))) nxS)
def F__law_same : FS := runDef 2 b__law_same
theorem c__law_same : FnScope n__law_same ["thing", "due"] (defScope s__law_same) := ⟨rfl, rfl, rfl, by decide +kernel, rfl, by decide +kernel, by decide +kernel⟩
theorem d__law_same (T : Txt K mg) : Df P w K mg base xr CX0 1 "_law_same" s__law_same ["thing", "due"] F__law_same := Df.of T.d__law_same c__law_same (fun _ _ _ _ _ _ us hl => match us, hl with | [_, _], _ => rfl) fun f cdv A outer s H E hr hg =>
  (s_cons (s_ret (wCmp hr (oX (wRepr hr hg T.blt (oV 0))) (oX (wRepr hr hg T.blt (oV 1))))) s_nil)
abbrev s__law_kept : Stmt := top 67
abbrev n__law_kept : List Str := []
def b__law_kept : DS := (seqS (retS (tupE (aCons (cE (.str "all")) (aCons (cE (.str "apart")) (aCons (cE (.str "cannot")) (aCons (cE (.str "done")) (aCons (cE (.str "end")) (aCons (cE (.str "entry")) (aCons (cE (.str "from")) (aCons (cE (.str "given")) (aCons (cE (.str "guess")) (aCons (cE (.str "journal")) (aCons (cE (.str "known")) (aCons (cE (.str "near")) (aCons (cE (.str "no")) (aCons (cE (.str "none")) (aCons (cE (.str "over")) (aCons (cE (.str "place")) (aCons (cE (.str "plain")) (aCons (cE (.str "reach")) (aCons (cE (.str "redo")) (aCons (cE (.str "scale")) (aCons (cE (.str "table")) (aCons (cE (.str "take")) (aCons (cE (.str "tell")) (aCons (cE (.str "undo")) (aCons (cE (.str "untold")) (aCons (cE (.str "what")) (aCons (cE (.str "yes")) aNil))))))))))))))))))))))))))))) nxS)
def F__law_kept : FS := runDef 0 b__law_kept
theorem c__law_kept : FnScope n__law_kept [] (defScope s__law_kept) := ⟨rfl, rfl, rfl, by decide +kernel, rfl, by decide +kernel, by decide +kernel⟩
theorem d__law_kept (T : Txt K mg) : Df P w K mg base xr CX0 1 "_law_kept" s__law_kept [] F__law_kept := Df.of T.d__law_kept c__law_kept (fun _ _ _ _ _ _ us hl => match us, hl with | [], _ => rfl) fun f cdv A outer s H E hr hg =>
  (s_cons (s_ret (sE_tup (aC sE_str (aC sE_str (aC sE_str (aC sE_str (aC sE_str (aC sE_str (aC sE_str (aC sE_str (aC sE_str (aC sE_str (aC sE_str (aC sE_str (aC sE_str (aC sE_str (aC sE_str (aC sE_str (aC sE_str (aC sE_str (aC sE_str (aC sE_str (aC sE_str (aC sE_str (aC sE_str (aC sE_str (aC sE_str (aC sE_str (aC sE_str aN))))))))))))))))))))))))))))) s_nil)
abbrev s__law_is_name : Stmt := top 68
abbrev n__law_is_name : List Str := ["thing", "sign"]
def b__law_is_name : DS := (seqS (ifS (orT (notT (bT (oE1 (kIsa "str") (.var 0)))) (orT (notT (bT (chE .LtE .LtE (cE (.int 1)) (oE1 kLenA (.var 0)) (cE (.int 8))))) (bT (oE2 (kCmp .In) (.var 0) (.ex (callE F__law_kept aNil)))))) (seqS (retS (cE (.bl false))) nxS) nxS) (seqS (retS (oE2 (kCmp .Eq) (.ex (lcD [1] (itE (nE 0)) (.nm 1) (bT (oE2 (kCmp .NotIn) (.var 1) (.ex (cE (.str "abcdefghijklmnopqrstuvwxyz"))))) (nE 1))) (.ex (lstE aNil)))) nxS))
def F__law_is_name : FS := runDef 2 b__law_is_name
theorem c__law_is_name : FnScope n__law_is_name ["thing"] (defScope s__law_is_name) := ⟨rfl, rfl, rfl, by decide +kernel, rfl, by decide +kernel, by decide +kernel⟩
theorem d__law_is_name (T : Txt K mg) : Df P w K mg base xr CX0 2 "_law_is_name" s__law_is_name ["thing"] F__law_is_name := Df.of T.d__law_is_name c__law_is_name (fun _ _ _ _ _ _ us hl => match us, hl with | [_], _ => rfl) fun f cdv A outer s H E hr hg =>
  (s_cons (s_if (qBool (sW_or (sT_not (qVal (iStr T.blt (oV 0)))) (sW_or (sT_not (qChn hr sE_int (wLen T.blt (oV 0)) sE_int)) (sW_and1 (qCmp hr (oV 0) (oX (wCall0 (d__law_kept T) hr hg noX))))))) (s_cons (s_ret sE_bl) s_nil) s_nil) (s_cons (s_ret (wCmp hr (oX (wLc [("sign", 1)] c__law_is_name.nd (sI_val (wN 0)) (fun _ _ _ _ _ => (.nm (stO c__law_is_name.nd 1))) (fun _ _ _ _ _ => (qOne (qCmp hr (oV 1) (oX sE_str)))) (fun _ _ _ _ _ => (wN 1)))) (oX (sE_lst aN)))) s_nil))
abbrev s__law_is_number : Stmt := top 69
abbrev n__law_is_number : List Str := ["thing"]
def b__law_is_number : DS := (seqS (retS (andE (oE1 (kIsa "int") (.var 0)) (vT (notT (bT (oE1 (kIsa "bool") (.var 0))))))) nxS)
def F__law_is_number : FS := runDef 1 b__law_is_number
theorem c__law_is_number : FnScope n__law_is_number ["thing"] (defScope s__law_is_number) := ⟨rfl, rfl, rfl, by decide +kernel, rfl, by decide +kernel, by decide +kernel⟩
theorem d__law_is_number (T : Txt K mg) : Df P w K mg base xr CX0 1 "_law_is_number" s__law_is_number ["thing"] F__law_is_number := Df.of T.d__law_is_number c__law_is_number (fun _ _ _ _ _ _ us hl => match us, hl with | [_], _ => rfl) fun f cdv A outer s H E hr hg =>
  (s_cons (s_ret (sE_and (iInt T.blt (oV 0)) (sE_one (sE_not (iBool T.blt (oV 0)))))) s_nil)
abbrev s__law_is_fraction : Stmt := top 70
abbrev n__law_is_fraction : List Str := ["thing"]
def b__law_is_fraction : DS := (seqS (ifS (orT (notT (bT (oE1 (kIsa "tuple") (.var 0)))) (orT (bT (oE2 (kCmp .NotEq) (.ex (oE1 kLenA (.var 0))) (.ex (cE (.int 2))))) (orT (notT (bT (callE F__law_is_number (aCons (oE2 kIx (.var 0) (.ex (cE (.int 0)))) aNil)))) (orT (notT (bT (callE F__law_is_number (aCons (oE2 kIx (.var 0) (.ex (cE (.int 1)))) aNil)))) (bT (oE2 (kCmp .Lt) (.ex (oE2 kIx (.var 0) (.ex (cE (.int 1))))) (.ex (cE (.int 1))))))))) (seqS (retS (cE (.bl false))) nxS) nxS) (seqS (retS (oE2 (kCmp .Eq) (.ex (callE F__law_divisor (aCons (oE1 kAbs (.ex (oE2 kIx (.var 0) (.ex (cE (.int 0)))))) (aCons (oE2 kIx (.var 0) (.ex (cE (.int 1)))) aNil)))) (.ex (cE (.int 1))))) nxS))
def F__law_is_fraction : FS := runDef 1 b__law_is_fraction
theorem c__law_is_fraction : FnScope n__law_is_fraction ["thing"] (defScope s__law_is_fraction) := ⟨rfl, rfl, rfl, by decide +kernel, rfl, by decide +kernel, by decide +kernel⟩
theorem d__law_is_fraction (T : Txt K mg) : Df P w K mg base xr CX0 2 "_law_is_fraction" s__law_is_fraction ["thing"] F__law_is_fraction := Df.of T.d__law_is_fraction c__law_is_fraction (fun _ _ _ _ _ _ us hl => match us, hl with | [_], _ => rfl) fun f cdv A outer s H E hr hg =>
  (s_cons (s_if (qBool (sW_or (sT_not (qVal (iTup T.blt (oV 0)))) (sW_or (qCmp hr (oX (wLen T.blt (oV 0))) (oX sE_int)) (sW_or (sT_not (qVal (wCall (d__law_is_number T) hr hg (aC (wIx hr (oV 0) (oX sE_int)) aN) noX len1))) (sW_or (sT_not (qVal (wCall (d__law_is_number T) hr hg (aC (wIx hr (oV 0) (oX sE_int)) aN) noX len1))) (sW_and1 (qCmp hr (oX (wIx hr (oV 0) (oX sE_int))) (oX sE_int)))))))) (s_cons (s_ret sE_bl) s_nil) s_nil) (s_cons (s_ret (wCmp hr (oX (wCall (d__law_divisor T) hr hg (aC (wAbs T.blt (oX (wIx hr (oV 0) (oX sE_int)))) (aC (wIx hr (oV 0) (oX sE_int)) aN)) noX len2)) (oX sE_int))) s_nil))
abbrev s__law_is_small : Stmt := top 71
abbrev n__law_is_small : List Str := ["thing"]
def b__law_is_small : DS := (seqS (retS (callE F__law_is_fraction (aCons (nE 0) aNil))) nxS)
def F__law_is_small : FS := runDef 1 b__law_is_small
theorem c__law_is_small : FnScope n__law_is_small ["thing"] (defScope s__law_is_small) := ⟨rfl, rfl, rfl, by decide +kernel, rfl, by decide +kernel, by decide +kernel⟩
theorem d__law_is_small (T : Txt K mg) : Df P w K mg base xr CX0 3 "_law_is_small" s__law_is_small ["thing"] F__law_is_small := Df.of T.d__law_is_small c__law_is_small (fun _ _ _ _ _ _ us hl => match us, hl with | [_], _ => rfl) fun f cdv A outer s H E hr hg =>
  (s_cons (s_ret (wCall (d__law_is_fraction T) hr hg (aC (wN 0) aN) noX len1)) s_nil)
abbrev s__law_is_a_work : Stmt := top 72
abbrev n__law_is_a_work : List Str := ["thing"]
def b__law_is_a_work : DS := (seqS (ifS (orT (notT (bT (oE1 (kIsa "tuple") (.var 0)))) (orT (bT (oE2 (kCmp .Lt) (.ex (oE1 kLenA (.var 0))) (.ex (cE (.int 3))))) (orT (notT (bT (oE1 (kIsa "str") (.ex (oE2 kIx (.var 0) (.ex (cE (.int 0)))))))) (notT (bT (callE F__law_is_name (aCons (oE2 kIx (.var 0) (.ex (cE (.int 1)))) aNil))))))) (seqS (retS (cE (.bl false))) nxS) nxS) (seqS (ifS (bT (oE2 (kCmp .Eq) (.ex (oE2 kIx (.var 0) (.ex (cE (.int 0))))) (.ex (cE (.str "scale"))))) (seqS (retS (andE (oE2 (kCmp .Eq) (.ex (oE1 kLenA (.var 0))) (.ex (cE (.int 3)))) (callE F__law_is_small (aCons (oE2 kIx (.var 0) (.ex (cE (.int 2)))) aNil)))) nxS) nxS) (seqS (ifS (bT (oE2 (kCmp .Eq) (.ex (oE2 kIx (.var 0) (.ex (cE (.int 0))))) (.ex (cE (.str "take"))))) (seqS (retS (andE (oE2 (kCmp .Eq) (.ex (oE1 kLenA (.var 0))) (.ex (cE (.int 3)))) (callE F__law_is_name (aCons (oE2 kIx (.var 0) (.ex (cE (.int 2)))) aNil)))) nxS) nxS) (seqS (retS (andE (oE2 (kCmp .Eq) (.ex (oE2 kIx (.var 0) (.ex (cE (.int 0))))) (.ex (cE (.str "tell")))) (andE (oE2 (kCmp .Eq) (.ex (oE1 kLenA (.var 0))) (.ex (cE (.int 4)))) (andE (callE F__law_is_name (aCons (oE2 kIx (.var 0) (.ex (cE (.int 2)))) aNil)) (callE F__law_is_small (aCons (oE2 kIx (.var 0) (.ex (cE (.int 3)))) aNil)))))) nxS))))
def F__law_is_a_work : FS := runDef 1 b__law_is_a_work
theorem c__law_is_a_work : FnScope n__law_is_a_work ["thing"] (defScope s__law_is_a_work) := ⟨rfl, rfl, rfl, by decide +kernel, rfl, by decide +kernel, by decide +kernel⟩
theorem d__law_is_a_work (T : Txt K mg) : Df P w K mg base xr CX0 4 "_law_is_a_work" s__law_is_a_work ["thing"] F__law_is_a_work := Df.of T.d__law_is_a_work c__law_is_a_work (fun _ _ _ _ _ _ us hl => match us, hl with | [_], _ => rfl) fun f cdv A outer s H E hr hg =>
  (s_cons (s_if (qBool (sW_or (sT_not (qVal (iTup T.blt (oV 0)))) (sW_or (qCmp hr (oX (wLen T.blt (oV 0))) (oX sE_int)) (sW_or (sT_not (qVal (iStr T.blt (oX (wIx hr (oV 0) (oX sE_int)))))) (sW_and1 (sT_not (qVal (wCall (d__law_is_name T) hr hg (aC (wIx hr (oV 0) (oX sE_int)) aN) noX len1)))))))) (s_cons (s_ret sE_bl) s_nil) s_nil) (s_cons (s_if (qCmp hr (oX (wIx hr (oV 0) (oX sE_int))) (oX sE_str)) (s_cons (s_ret (sE_and (wCmp hr (oX (wLen T.blt (oV 0))) (oX sE_int)) (sE_one (wCall (d__law_is_small T) hr hg (aC (wIx hr (oV 0) (oX sE_int)) aN) noX len1)))) s_nil) s_nil) (s_cons (s_if (qCmp hr (oX (wIx hr (oV 0) (oX sE_int))) (oX sE_str)) (s_cons (s_ret (sE_and (wCmp hr (oX (wLen T.blt (oV 0))) (oX sE_int)) (sE_one (wCall (d__law_is_name T) hr hg (aC (wIx hr (oV 0) (oX sE_int)) aN) noX len1)))) s_nil) s_nil) (s_cons (s_ret (sE_and (wCmp hr (oX (wIx hr (oV 0) (oX sE_int))) (oX sE_str)) (sE_and (wCmp hr (oX (wLen T.blt (oV 0))) (oX sE_int)) (sE_and (wCall (d__law_is_name T) hr hg (aC (wIx hr (oV 0) (oX sE_int)) aN) noX len1) (sE_one (wCall (d__law_is_small T) hr hg (aC (wIx hr (oV 0) (oX sE_int)) aN) noX len1)))))) s_nil))))
abbrev s__law_fraction_text : Stmt := top 73
abbrev n__law_fraction_text : List Str := ["number"]
def b__law_fraction_text : DS := (seqS (retS (ifE (bT (oE2 (kCmp .Eq) (.ex (oE2 kIx (.var 0) (.ex (cE (.int 1))))) (.ex (cE (.int 1))))) (oE1 kStr (.ex (oE2 kIx (.var 0) (.ex (cE (.int 0)))))) (bE kAdd (bE kAdd (oE1 kStr (.ex (oE2 kIx (.var 0) (.ex (cE (.int 0)))))) (cE (.str " over "))) (oE1 kStr (.ex (oE2 kIx (.var 0) (.ex (cE (.int 1))))))))) nxS)
def F__law_fraction_text : FS := runDef 1 b__law_fraction_text
theorem c__law_fraction_text : FnScope n__law_fraction_text ["number"] (defScope s__law_fraction_text) := ⟨rfl, rfl, rfl, by decide +kernel, rfl, by decide +kernel, by decide +kernel⟩
theorem d__law_fraction_text (T : Txt K mg) : Df P w K mg base xr CX0 1 "_law_fraction_text" s__law_fraction_text ["number"] F__law_fraction_text := Df.of T.d__law_fraction_text c__law_fraction_text (fun _ _ _ _ _ _ us hl => match us, hl with | [_], _ => rfl) fun f cdv A outer s H E hr hg =>
  (s_cons (s_ret (sE_if (qCmp hr (oX (wIx hr (oV 0) (oX sE_int))) (oX sE_int)) (wStr T.blt (oX (wIx hr (oV 0) (oX sE_int)))) (sE_add (sE_add (wStr T.blt (oX (wIx hr (oV 0) (oX sE_int)))) sE_str) (wStr T.blt (oX (wIx hr (oV 0) (oX sE_int))))))) s_nil)
abbrev s__law_work_line : Stmt := top 74
abbrev n__law_work_line : List Str := ["work", "one"]
def b__law_work_line : DS := (seqS (retS (m1S kJoin (cE (.str " ")) (lcD [1] (itE (nE 0)) (.nm 1) yesT (ifE (bT (oE1 (kIsa "str") (.var 1))) (nE 1) (callE F__law_fraction_text (aCons (nE 1) aNil)))))) nxS)
def F__law_work_line : FS := runDef 2 b__law_work_line
theorem c__law_work_line : FnScope n__law_work_line ["work"] (defScope s__law_work_line) := ⟨rfl, rfl, rfl, by decide +kernel, rfl, by decide +kernel, by decide +kernel⟩
theorem d__law_work_line (T : Txt K mg) : Df P w K mg base xr CX0 2 "_law_work_line" s__law_work_line ["work"] F__law_work_line := Df.of T.d__law_work_line c__law_work_line (fun _ _ _ _ _ _ us hl => match us, hl with | [_], _ => rfl) fun f cdv A outer s H E hr hg =>
  (s_cons (s_ret (wJoin sE_str (wLc [("one", 1)] c__law_work_line.nd (sI_val (wN 0)) (fun _ _ _ _ _ => (.nm (stO c__law_work_line.nd 1))) (fun _ _ _ _ _ => sTs_nil) (fun _ _ _ _ _ => (sE_if (qVal (iStr T.blt (oV 1))) (wN 1) (wCall (d__law_fraction_text T) hr hg (aC (wN 1) aN) noX len1)))))) s_nil)
abbrev s__law_is_figures : Stmt := top 75
abbrev n__law_is_figures : List Str := ["word", "figures", "sign"]
def b__law_is_figures : DS := (seqS (setS 1 (ifE (bT (oE2 (kCmp .Eq) (.ex (slE (.var 0) none (some (cE (.int 1))))) (.ex (cE (.str "-"))))) (slE (.var 0) (some (cE (.int 1))) none) (nE 0))) (seqS (ifS (orT (notT (bT (chE .LtE .LtE (cE (.int 1)) (oE1 kLenA (.var 1)) (cE (.int 400))))) (bT (oE2 (kCmp .NotEq) (.ex (lcD [2] (itE (nE 1)) (.nm 2) (bT (oE2 (kCmp .NotIn) (.var 2) (.ex (cE (.str "0123456789"))))) (nE 2))) (.ex (lstE aNil))))) (seqS (retS (cE (.bl false))) nxS) nxS) (seqS (retS (orE (oE2 (kCmp .Eq) (.var 0) (.ex (cE (.str "0")))) (oE2 (kCmp .NotEq) (.ex (oE2 kIx (.var 1) (.ex (cE (.int 0))))) (.ex (cE (.str "0")))))) nxS)))
def F__law_is_figures : FS := runDef 3 b__law_is_figures
theorem c__law_is_figures : FnScope n__law_is_figures ["word"] (defScope s__law_is_figures) := ⟨rfl, rfl, rfl, by decide +kernel, rfl, by decide +kernel, by decide +kernel⟩
theorem d__law_is_figures (T : Txt K mg) : Df P w K mg base xr CX0 1 "_law_is_figures" s__law_is_figures ["word"] F__law_is_figures := Df.of T.d__law_is_figures c__law_is_figures (fun _ _ _ _ _ _ us hl => match us, hl with | [_], _ => rfl) fun f cdv A outer s H E hr hg =>
  (s_cons (zSet (stO c__law_is_figures.nd 1) (sE_if (qCmp hr (oX (wS (oV 0) .none (.some sE_int))) (oX sE_str)) (wS (oV 0) (.some sE_int) .none) (wN 0))) (s_cons (s_if (qBool (sW_or (sT_not (qChn hr sE_int (wLen T.blt (oV 1)) sE_int)) (sW_and1 (qCmp hr (oX (wLc [("sign", 2)] c__law_is_figures.nd (sI_val (wN 1)) (fun _ _ _ _ _ => (.nm (stO c__law_is_figures.nd 2))) (fun _ _ _ _ _ => (qOne (qCmp hr (oV 2) (oX sE_str)))) (fun _ _ _ _ _ => (wN 2)))) (oX (sE_lst aN)))))) (s_cons (s_ret sE_bl) s_nil) s_nil) (s_cons (s_ret (sE_or (wCmp hr (oV 0) (oX sE_str)) (sE_one (wCmp hr (oX (wIx hr (oV 1) (oX sE_int))) (oX sE_str))))) s_nil)))
abbrev s_read_work : Stmt := top 53
abbrev n_read_work : List Str := ["text"]
def b_read_work : DS := (seqS (ifS (orT (notT (bT (oE1 (kIsa "str") (.var 0)))) (bT (oE2 (kCmp .Is) (.ex (callE F_work_in (aCons (nE 0) aNil))) (.ex (cE .non))))) (seqS (raiseAt (cE (.int 0))) nxS) nxS) (seqS (retS (callE F_work_in (aCons (nE 0) aNil))) nxS))
def F_read_work : FS := runDef 1 b_read_work
theorem c_read_work : FnScope n_read_work ["text"] (defScope s_read_work) := ⟨rfl, rfl, rfl, by decide +kernel, rfl, by decide +kernel, by decide +kernel⟩
theorem d_read_work (T : Txt K mg) (TX : TxtX P K mg xr C fI) : Df P w K mg base xr (L2.CX P w) 5 "read_work" s_read_work ["text"] F_read_work := Df.ofX T.d_read_work c_read_work (fun _ _ _ _ _ _ us hl => match us, hl with | [_], _ => rfl) fun f cdv A outer s H E hr hg =>
  (s_cons (s_if (qBool (sW_or (sT_not (qVal (iStr T.blt (oV 0)))) (sW_and1 (qCmp hr (oX (wCall (d_work_in T) hr hg (aC (wN 0) aN) noX len1)) (oX sE_non))))) (s_cons (zRaise rfl TX.bt hr takesX TX.pl sE_int) s_nil) s_nil) (s_cons (s_ret (wCall (d_work_in T) hr hg (aC (wN 0) aN) noX len1)) s_nil))
abbrev s_law : Stmt := top 76
abbrev n_law : List Str := ["script", "draw", "turn", "names", "number", "work", "line", "words", "bent", "due", "many", "k", "how", "rest", "found", "one"]
def b_law : DS := (seqS (setS 1 (callE F__law_begun (aCons (nE 0) aNil))) (seqS (forS (rngI (aCons (bE kAdd (cE (.int 10)) (bE kMin (oE1 kLenA (.var 0)) (cE (.int 10)))) aNil)) (.nm 2) (seqS (setS 3 (callE F__law_names (aCons (nE 1) (aCons (cE (.int 2)) aNil)))) (seqS (setS 4 (callE F__law_fraction (aCons (bE (k1 fSub) (callE F__law_take (aCons (nE 1) (aCons (cE (.int 20001)) aNil))) (cE (.int 10000))) (aCons (bE kAdd (cE (.int 1)) (callE F__law_take (aCons (nE 1) (aCons (callE F__law_pick (aCons (nE 1) (aCons (lstE (aCons (cE (.int 1)) (aCons (cE (.int 4)) (aCons (cE (.int 10000)) aNil)))) aNil))) aNil)))) aNil)))) (seqS (setS 5 (callE F__law_pick (aCons (nE 1) (aCons (lstE (aCons (tupE (aCons (cE (.str "tell")) (aCons (oE2 kIx (.var 3) (.ex (cE (.int 0)))) (aCons (oE2 kIx (.var 3) (.ex (cE (.int 1)))) (aCons (nE 4) aNil))))) (aCons (tupE (aCons (cE (.str "tell")) (aCons (oE2 kIx (.var 3) (.ex (cE (.int 1)))) (aCons (oE2 kIx (.var 3) (.ex (cE (.int 0)))) (aCons (nE 4) aNil))))) (aCons (tupE (aCons (cE (.str "take")) (aCons (oE2 kIx (.var 3) (.ex (cE (.int 1)))) (aCons (oE2 kIx (.var 3) (.ex (cE (.int 0)))) aNil)))) (aCons (tupE (aCons (cE (.str "scale")) (aCons (oE2 kIx (.var 3) (.ex (cE (.int 0)))) (aCons (nE 4) aNil)))) (aCons (tupE (aCons (cE (.str "take")) (aCons (oE2 kIx (.var 3) (.ex (cE (.int 0)))) (aCons (oE2 kIx (.var 3) (.ex (cE (.int 0)))) aNil)))) aNil)))))) aNil)))) (seqS (setS 6 (callE F__law_work_line (aCons (nE 5) aNil))) (seqS (ifS (notT (bT (callE F__law_same (aCons (lstE (aCons (callE F_work_text (aCons (nE 5) aNil)) (aCons (callE F_read_work (aCons (nE 6) aNil)) (aCons (callKE F_read_work [0] (aCons (callKE F_work_text [0] (aCons (nE 5) aNil)) aNil)) aNil)))) (aCons (lstE (aCons (nE 6) (aCons (nE 5) (aCons (nE 5) aNil)))) aNil))))) (seqS (retS (cE (.bl false))) nxS) nxS) (seqS (setS 7 (m1S kSplit (nE 6) (cE (.str " ")))) (seqS (parS 11 12 (callE F__law_take (aCons (nE 1) (aCons (oE1 kLenA (.var 7)) aNil))) (callE F__law_take (aCons (nE 1) (aCons (cE (.int 4)) aNil)))) (seqS (ifS (bT (oE2 (kCmp .Eq) (.var 12) (.ex (cE (.int 0))))) (seqS (setS 7 (bE kAdd (slE (.var 7) none (some (nE 11))) (slE (.var 7) (some (bE kAdd (nE 11) (cE (.int 1)))) none))) nxS) (seqS (ifS (bT (oE2 (kCmp .Eq) (.var 12) (.ex (cE (.int 1))))) (seqS (setS 7 (bE kAdd (bE kAdd (slE (.var 7) none (some (nE 11))) (slE (.var 7) (some (nE 11)) (some (bE kAdd (nE 11) (cE (.int 1)))))) (slE (.var 7) (some (nE 11)) none))) nxS) (seqS (ifS (bT (oE2 (kCmp .Eq) (.var 12) (.ex (cE (.int 2))))) (seqS (asgP (pSub 7 (nE 11)) (callE F__law_pick (aCons (nE 1) (aCons (lstE (aCons (cE (.str "")) (aCons (cE (.str "all")) (aCons (cE (.str "zed")) (aCons (cE (.str "0")) (aCons (cE (.str "1")) (aCons (cE (.str "over")) (aCons (cE (.str "10001")) (aCons (cE (.str "-3")) (aCons (cE (.str "take")) (aCons (cE (.str "tell")) (aCons (cE (.str "scale")) (aCons (cE (.str "Ash")) (aCons (cE (.str "7")) aNil)))))))))))))) aNil)))) nxS) (seqS (setS 7 (bE kAdd (nE 7) (lstE (aCons (callE F__law_pick (aCons (nE 1) (aCons (lstE (aCons (cE (.str "")) (aCons (cE (.str "over")) (aCons (cE (.str "1")) (aCons (cE (.str "over 2")) (aCons (cE (.str "zed")) aNil)))))) aNil))) aNil)))) nxS)) nxS)) nxS)) (seqS (setS 8 (m1S kJoin (cE (.str " ")) (nE 7))) (seqS (setS 9 (cE .non)) (seqS (setS 7 (m1S kSplit (nE 8) (cE (.str " ")))) (seqS (setS 10 (ifE (bT (oE2 (kCmp .In) (.ex (oE2 kIx (.var 7) (.ex (cE (.int 0))))) (.ex (tupE (aCons (cE (.str "tell")) (aCons (cE (.str "take")) aNil)))))) (cE (.int 3)) (ifE (bT (oE2 (kCmp .Eq) (.ex (oE2 kIx (.var 7) (.ex (cE (.int 0))))) (.ex (cE (.str "scale"))))) (cE (.int 2)) (cE (.int 0))))) (seqS (parS 13 14 (slE (.var 7) (some (nE 10)) none) (oE1 kTuple (.ex (slE (.var 7) none (some (nE 10)))))) (seqS (ifS (andT (bT (oE2 (kCmp .Gt) (.var 10) (.ex (cE (.int 0))))) (bT (oE2 (kCmp .GtE) (.ex (oE1 kLenA (.var 7))) (.var 10)))) (seqS (ifS (bT (oE2 (kCmp .Eq) (.ex (oE2 kIx (.var 7) (.ex (cE (.int 0))))) (.ex (cE (.str "take"))))) (seqS (setS 9 (ifE (bT (oE2 (kCmp .Eq) (.var 13) (.ex (lstE aNil)))) (nE 14) (cE .non))) nxS) (seqS (ifS (andT (bT (oE2 (kCmp .In) (.ex (oE1 kLenA (.var 13))) (.ex (tupE (aCons (cE (.int 1)) (aCons (cE (.int 3)) aNil)))))) (andT (bT (oE2 (kCmp .Eq) (.ex (lcD [15] (itE (stepE 2 (.var 13))) (.nm 15) (notT (bT (callE F__law_is_figures (aCons (nE 15) aNil)))) (nE 15))) (.ex (lstE aNil)))) (orT (bT (oE2 (kCmp .Eq) (.ex (oE1 kLenA (.var 13))) (.ex (cE (.int 1))))) (bT (oE2 (kCmp .Eq) (.ex (oE2 kIx (.var 13) (.ex (cE (.int 1))))) (.ex (cE (.str "over")))))))) (seqS (setS 9 (bE kAdd (nE 14) (tupE (aCons (tupE (aCons (oE1 kInt (.ex (oE2 kIx (.var 13) (.ex (cE (.int 0)))))) (aCons (ifE (bT (oE2 (kCmp .Eq) (.ex (oE1 kLenA (.var 13))) (.ex (cE (.int 3))))) (oE1 kInt (.ex (oE2 kIx (.var 13) (.ex (cE (.int 2)))))) (cE (.int 1))) aNil))) aNil)))) nxS) nxS) nxS)) nxS) nxS) (seqS (ifS (andT (bT (oE2 (kCmp .IsNot) (.var 9) (.ex (cE .non)))) (orT (notT (bT (callE F__law_is_a_work (aCons (nE 9) aNil)))) (bT (oE2 (kCmp .NotEq) (.ex (callE F__law_work_line (aCons (nE 9) aNil))) (.var 8))))) (seqS (setS 9 (cE .non)) nxS) nxS) (seqS (ifS (andT (bT (oE2 (kCmp .Is) (.var 9) (.ex (cE .non)))) (notT (bT (callE F__law_same (aCons (errE (callE F_read_work (aCons (nE 8) aNil))) (aCons (tupE (aCons (cE (.str "BadText")) (aCons (cE (.int 0)) aNil))) aNil)))))) (seqS (retS (cE (.bl false))) nxS) nxS) (seqS (ifS (andT (bT (oE2 (kCmp .IsNot) (.var 9) (.ex (cE .non)))) (notT (bT (callE F__law_same (aCons (lstE (aCons (callE F_read_work (aCons (nE 8) aNil)) (aCons (callE F_work_text (aCons (nE 9) aNil)) aNil))) (aCons (lstE (aCons (nE 9) (aCons (nE 8) aNil))) aNil)))))) (seqS (retS (cE (.bl false))) nxS) nxS) nxS)))))))))))))))))) (seqS (retS (cE (.bl true))) nxS)))
def F_law : FS := runDef0 16 b_law
theorem c_law : FnScope n_law ["script"] (defScope s_law) := ⟨rfl, rfl, rfl, by decide +kernel, rfl, by decide +kernel, by decide +kernel⟩
theorem d_law (T : Txt K mg) (TX : TxtX P K mg (xrB C) C fI) (TE : ErTxt K mg (top 65) (top 60) C CP) (TL : TxtLaw K mg "law" s_law cL QL) (TB : LamX.TabB base mg cL QL) : Df P w K mg base (xrB C) CX0 9 "law" s_law ["script"] F_law := Df.ofL0 TL c_law (fun _ _ _ _ _ _ us hl => match us, hl with | [_], _ => rfl) fun f A outer s H E hr hg =>
  (s_cons (zSet (stO c_law.nd 1) (wCall (d__law_begun T) hr hg (aC (wN 0) aN) noX len1)) (s_cons (zFor (iR1 T.blt (sE_add sE_int (wMin T.blt (wLen T.blt (oV 0)) sE_int))) (.nm (stO c_law.nd 2)) (s_cons (zSet (stO c_law.nd 3) (wCall (d__law_names T) hr hg (aC (wN 1) (aC sE_int aN)) noX len2)) (s_cons (zSet (stO c_law.nd 4) (wCall (d__law_fraction T) hr hg (aC (sE_sub (wCall (d__law_take T) hr hg (aC (wN 1) (aC sE_int aN)) noX len2) sE_int) (aC (sE_add sE_int (wCall (d__law_take T) hr hg (aC (wN 1) (aC (wCall (d__law_pick T) hr hg (aC (wN 1) (aC (sE_lst (aC sE_int (aC sE_int (aC sE_int aN)))) aN)) noX len2) aN)) noX len2)) aN)) noX len2)) (s_cons (zSet (stO c_law.nd 5) (wCall (d__law_pick T) hr hg (aC (wN 1) (aC (sE_lst (aC (sE_tup (aC sE_str (aC (wIx hr (oV 3) (oX sE_int)) (aC (wIx hr (oV 3) (oX sE_int)) (aC (wN 4) aN))))) (aC (sE_tup (aC sE_str (aC (wIx hr (oV 3) (oX sE_int)) (aC (wIx hr (oV 3) (oX sE_int)) (aC (wN 4) aN))))) (aC (sE_tup (aC sE_str (aC (wIx hr (oV 3) (oX sE_int)) (aC (wIx hr (oV 3) (oX sE_int)) aN)))) (aC (sE_tup (aC sE_str (aC (wIx hr (oV 3) (oX sE_int)) (aC (wN 4) aN)))) (aC (sE_tup (aC sE_str (aC (wIx hr (oV 3) (oX sE_int)) (aC (wIx hr (oV 3) (oX sE_int)) aN)))) aN)))))) aN)) noX len2)) (s_cons (zSet (stO c_law.nd 6) (wCall (d__law_work_line T) hr hg (aC (wN 5) aN) noX len1)) (s_cons (s_if (sT_not (qVal (wCall (d__law_same T) hr hg (aC (sE_lst (aC (wCall (d_work_text T) hr hg (aC (wN 5) aN) noX len1) (aC (wCall (d_read_work T TX) hr hg (aC (wN 6) aN) noE len1) (aC (wCallK (ks := ["text"]) (ix := [0]) (d_read_work T TX) hr hg (sK_cons (wCallK (ks := ["work"]) (ix := [0]) (d_work_text T) hr hg (sK_cons (wN 5) sK_nil) noX len1 (fun _ _ _ _ _ _ ws hl => match ws, hl with | [_], _ => rfl)) sK_nil) noE len1 (fun _ _ _ _ _ _ ws hl => match ws, hl with | [_], _ => rfl)) aN)))) (aC (sE_lst (aC (wN 6) (aC (wN 5) (aC (wN 5) aN)))) aN)) noX len2))) (s_cons (s_ret sE_bl) s_nil) s_nil) (s_cons (zSet (stO c_law.nd 7) (wSplit (wN 6) sE_str)) (s_cons (zPar c_law.nd 11 12 (wCall (d__law_take T) hr hg (aC (wN 1) (aC (wLen T.blt (oV 7)) aN)) noX len2) (wCall (d__law_take T) hr hg (aC (wN 1) (aC sE_int aN)) noX len2)) (s_cons (s_if (qCmp hr (oV 12) (oX sE_int)) (s_cons (zSet (stO c_law.nd 7) (sE_add (wS (oV 7) .none (.some (wN 11))) (wS (oV 7) (.some (sE_add (wN 11) sE_int)) .none))) s_nil) (s_cons (s_if (qCmp hr (oV 12) (oX sE_int)) (s_cons (zSet (stO c_law.nd 7) (sE_add (sE_add (wS (oV 7) .none (.some (wN 11))) (wS (oV 7) (.some (wN 11)) (.some (sE_add (wN 11) sE_int)))) (wS (oV 7) (.some (wN 11)) .none))) s_nil) (s_cons (s_if (qCmp hr (oV 12) (oX sE_int)) (s_cons (s_asg (wCall (d__law_pick T) hr hg (aC (wN 1) (aC (sE_lst (aC sE_str (aC sE_str (aC sE_str (aC sE_str (aC sE_str (aC sE_str (aC sE_str (aC sE_str (aC sE_str (aC sE_str (aC sE_str (aC sE_str (aC sE_str aN)))))))))))))) aN)) noX len2) (sP_sub hr (pv 7) (wN 11) (by rfl)) (by rfl) (by rfl) (by rfl)) s_nil) (s_cons (zSet (stO c_law.nd 7) (sE_add (wN 7) (sE_lst (aC (wCall (d__law_pick T) hr hg (aC (wN 1) (aC (sE_lst (aC sE_str (aC sE_str (aC sE_str (aC sE_str (aC sE_str aN)))))) aN)) noX len2) aN)))) s_nil)) s_nil)) s_nil)) (s_cons (zSet (stO c_law.nd 8) (wJoin sE_str (wN 7))) (s_cons (zSet (stO c_law.nd 9) sE_non) (s_cons (zSet (stO c_law.nd 7) (wSplit (wN 8) sE_str)) (s_cons (zSet (stO c_law.nd 10) (sE_if (qCmp hr (oX (wIx hr (oV 7) (oX sE_int))) (oX (sE_tup (aC sE_str (aC sE_str aN))))) sE_int (sE_if (qCmp hr (oX (wIx hr (oV 7) (oX sE_int))) (oX sE_str)) sE_int sE_int))) (s_cons (zPar c_law.nd 13 14 (wS (oV 7) (.some (wN 10)) .none) (wTup T.blt (oX (wS (oV 7) .none (.some (wN 10)))))) (s_cons (s_if (qBool (sW_and (qCmp hr (oV 10) (oX sE_int)) (sW_and1 (qCmp hr (oX (wLen T.blt (oV 7))) (oV 10))))) (s_cons (s_if (qCmp hr (oX (wIx hr (oV 7) (oX sE_int))) (oX sE_str)) (s_cons (zSet (stO c_law.nd 9) (sE_if (qCmp hr (oV 13) (oX (sE_lst aN))) (wN 14) sE_non)) s_nil) (s_cons (s_if (qBool (sW_and (qCmp hr (oX (wLen T.blt (oV 13))) (oX (sE_tup (aC sE_int (aC sE_int aN))))) (sW_and (qCmp hr (oX (wLc [("one", 15)] c_law.nd (sI_val (sE_step (by decide) (oV 13))) (fun _ _ _ _ _ => (.nm (stO c_law.nd 15))) (fun _ _ _ _ _ => (qOne (sT_not (qVal (wCall (d__law_is_figures T) hr hg (aC (wN 15) aN) noX len1))))) (fun _ _ _ _ _ => (wN 15)))) (oX (sE_lst aN))) (sW_and1 (qBool (sW_or (qCmp hr (oX (wLen T.blt (oV 13))) (oX sE_int)) (sW_and1 (qCmp hr (oX (wIx hr (oV 13) (oX sE_int))) (oX sE_str))))))))) (s_cons (zSet (stO c_law.nd 9) (sE_add (wN 14) (sE_tup (aC (sE_tup (aC (wInt T.blt (oX (wIx hr (oV 13) (oX sE_int)))) (aC (sE_if (qCmp hr (oX (wLen T.blt (oV 13))) (oX sE_int)) (wInt T.blt (oX (wIx hr (oV 13) (oX sE_int)))) sE_int) aN))) aN)))) s_nil) s_nil) s_nil)) s_nil) s_nil) (s_cons (s_if (qBool (sW_and (qCmp hr (oV 9) (oX sE_non)) (sW_and1 (qBool (sW_or (sT_not (qVal (wCall (d__law_is_a_work T) hr hg (aC (wN 9) aN) noX len1))) (sW_and1 (qCmp hr (oX (wCall (d__law_work_line T) hr hg (aC (wN 9) aN) noX len1)) (oV 8)))))))) (s_cons (zSet (stO c_law.nd 9) sE_non) s_nil) s_nil) (s_cons (s_if (qBool (sW_and (qCmp hr (oV 9) (oX sE_non)) (sW_and1 (sT_not (qVal (wCall (d__law_same T) hr hg (aC (sE_err (k := 5) TE rfl TB rfl TL.tbl (hr.mono (by decide)) hg (LamX.lamS_by (by rfl)) (by rfl) (fun _ _ _ _ _ => by rfl) (fun A outer s H E f c2 hg hr => (wCallL (d_read_work T TX) hr hg (aC (wN 8) aN) len1)) (by rfl)) (aC (sE_tup (aC sE_str (aC sE_int aN))) aN)) noX len2)))))) (s_cons (s_ret sE_bl) s_nil) s_nil) (s_cons (s_if (qBool (sW_and (qCmp hr (oV 9) (oX sE_non)) (sW_and1 (sT_not (qVal (wCall (d__law_same T) hr hg (aC (sE_lst (aC (wCall (d_read_work T TX) hr hg (aC (wN 8) aN) noE len1) (aC (wCall (d_work_text T) hr hg (aC (wN 9) aN) noX len1) aN))) (aC (sE_lst (aC (wN 9) (aC (wN 8) aN))) aN)) noX len2)))))) (s_cons (s_ret sE_bl) s_nil) s_nil) s_nil))))))))))))))))) PassesOwn.never) (s_cons (s_ret sE_bl) s_nil)))
end
end K72
set_option maxHeartbeats 4000000
namespace K72
open PySem PySem.Spec PyProof.Rows L2 PV TL
def keptL : List Str := ["all", "apart", "cannot", "done", "end", "entry", "from", "given", "guess", "journal", "known", "near", "no", "none", "over", "place", "plain", "reach", "redo", "scale", "table", "take", "tell", "undo", "untold", "what", "yes"]
theorem kept_eq : g_KEPT = .tup (dS keptL) := rfl
def letS : Str := "abcdefghijklmnopqrstuvwxyz"
theorem letS_eq : g_LETTERS = .str letS := rfl
def lets : List Nat := letS.cps.toList
def nameB (x : Str) : Bool := decide (1 ≤ x.length) && decide (x.length ≤ 8) && !decide (x ∈ keptL) && (tl x).all fun c => decide (c ∈ lets)
/-- the signs of a text, walked -/
theorem items_str (x : Str) (h : x.length ≤ 1000000) : items (.str x) = some ((tl x).map fun n => .str ⟨#[n]⟩) := if_pos h
theorem v_is_row (ds : List D) (n : Int) (w : W) : F_is_row [.tup ds, .int n] w = .ok (false, .bl (decide ((ds.length : Int) = n))) w := by
  simp [F_is_row, b_is_row]
theorem v_is_number (i : Int) (w : W) : F_is_number [.int i, .non, .non] w = .ok (false, .bl true) w := by
  simp [F_is_number, b_is_number]
theorem v_is_number1 (i j : Int) (w : W) : F_is_number [.int i, .int j, .non] w = .ok (false, .bl (!decide (i < j))) w := by
  by_cases h : i < j <;> simp [F_is_number, b_is_number, h]
theorem v_is_word (x : Str) (ys : List Str) (w : W) : F_is_word [.str x, .tup (dS ys)] w = .ok (false, .bl (decide (x ∈ ys))) w := by
  simp [F_is_word, b_is_word]
/-- the signs of a text, each asked -/
theorem lc_in {i : Nat} {z : Str} {it : DI} {st : S} {x : Str} (hi : it st = .ok ((tl x).map fun n => .str ⟨#[n]⟩) st) (hs : unOw st.env i) (hl : i < st.env.length) {g : D} (hg : g = .str z) :
    lcD [i] it (.nm i) yesT (oE2 (kCmp .In) (.var i) (.ex (cE g))) st = .ok (true, .lst ((tl x).map fun n => .bl (decide (n ∈ z.cps.toList)))) st := by
  subst hg
  obtain ⟨l, w, n⟩ := st
  have := lcD_map (te := oE2 (kCmp .In) (.var i) (.ex (cE (.str z)))) (fun d => match d with | .str ⟨⟨[n]⟩⟩ => .bl (decide (n ∈ z.cps.toList)) | _ => .non) hi hs (fun d hd => ?_)
  · rw [this, List.map_map]; rfl
  · obtain ⟨c, _, rfl⟩ := List.mem_map.1 hd
    refine ⟨false, ?_⟩
    have e : (l.set i (.fz (.str ⟨#[c]⟩)))[i]? = some (.fz (.str ⟨#[c]⟩)) := List.getElem?_set_self hl
    simp [e]
/-- .. those that are not there, kept -/
theorem lc_not {i : Nat} {z : Str} {it : DI} {st : S} {x : Str} (hi : it st = .ok ((tl x).map fun n => .str ⟨#[n]⟩) st) (hs : unOw st.env i) (hl : i < st.env.length) :
    lcD [i] it (.nm i) (bT (oE2 (kCmp .NotIn) (.var i) (.ex (cE (.str z))))) (nE i) st = .ok (true, .lst (dS (((tl x).filter fun n => !decide (n ∈ z.cps.toList)).map fun n => ⟨#[n]⟩))) st := by
  obtain ⟨l, w, n⟩ := st
  have := lcD_pure (tt := bT (oE2 (kCmp .NotIn) (.var i) (.ex (cE (.str z))))) (te := nE i) (fun d => match d with | .str ⟨⟨[n]⟩⟩ => !decide (n ∈ z.cps.toList) | _ => false) (fun d => d) hi hs (fun d hd => ?_) (fun d hd _ => ?_)
  · rw [this]
    congr 3
    rw [List.map_id', dS, List.map_map, List.filter_map]; rfl
  · obtain ⟨c, _, rfl⟩ := List.mem_map.1 hd
    have e : (l.set i (.fz (.str ⟨#[c]⟩)))[i]? = some (.fz (.str ⟨#[c]⟩)) := List.getElem?_set_self hl
    simp [e]
  · refine ⟨false, ?_⟩
    have e : (l.set i (.fz d))[i]? = some (.fz d) := List.getElem?_set_self hl
    simp [e]
theorem v_is_name (x : Str) (h : x.length ≤ 16777216) (w : W) : F_is_name [.str x] w = .ok (false, .bl (nameB x)) w := by
  have hl := kLenA_str x h
  by_cases h0 : 1 ≤ x.length
  · by_cases h1 : x.length ≤ 8
    · have a0 : ¬ ((x.length : Int) < 1) := by omega
      have a1 : ¬ (8 < (x.length : Int)) := by omega
      by_cases h2 : x ∈ keptL
      · simp [F_is_name, b_is_name, kept_eq, hl, h0, h1, h2, a0, a1, nameB]
      · have hm := lc_in (i := 1) (z := letS) (it := itE (nE 0)) (st := ⟨[.fz (.str x), .no], w, 0⟩) (x := x) (g := g_LETTERS) (by simp [items_str x (by omega)]) (.inl rfl) (by simp) rfl
        rw [show kCmp .In = kIn from rfl] at hm
        simp [F_is_name, b_is_name, kept_eq, hl, h0, h1, h2, a0, a1, nameB, hm, kAll_map, lets]
    · have a0 : ¬ ((x.length : Int) < 1) := by omega
      have a1 : (8 < (x.length : Int)) := by omega
      simp [F_is_name, b_is_name, kept_eq, hl, h0, h1, a0, a1, nameB]
  · have a0 : ((x.length : Int) < 1) := by omega
    simp [F_is_name, b_is_name, kept_eq, hl, h0, a0, nameB]
end K72
set_option maxHeartbeats 4000000
namespace K72
open PySem PySem.Spec PyProof.Rows L2 PV TL
theorem abs_nat (p : Int) : kAbs (.int p) = some (false, .int (p.natAbs : Int)) := by
  show some (false, D.int (if p < 0 then -p else p)) = _
  congr 3
  by_cases h : p < 0
  · rw [if_pos h]; omega
  · rw [if_neg h]; omega
theorem fmod_nat (a b : Nat) : (a : Int).fmod (b : Int) = ((a % b : Nat) : Int) := by
  rw [Int.fmod_eq_emod_of_nonneg _ (by omega)]; omega
theorem kMod_nat (a b : Nat) (h : b ≠ 0) : k1 fMod (.int (a : Int)) (.int (b : Int)) = some (false, .int ((a % b : Nat) : Int)) := by
  show (fMod (a : Int) (b : Int)).map _ = _
  unfold fMod
  rw [if_pos (by omega), fmod_nat]; rfl
theorem gcd_loop (w : W) (n : Nat) : ∀ (b a : Nat), whS (bT (oE2 (kCmp .Gt) (.var 1) (.ex (cE (.int 0))))) (seqS (parS 0 1 (nE 1) (bE (k1 fMod) (nE 0) (nE 1))) nxS) ⟨[.fz (.int a), .fz (.int b)], w, n⟩ = .ok .nx ⟨[.fz (.int (Nat.gcd a b : Nat)), .fz (.int 0)], w, n⟩ := by
  intro b
  induction b using Nat.strongRecOn with
  | _ b ih =>
    intro a
    rw [whS_eq]
    by_cases h : b = 0
    · subst h; simp
    · have hp : (0 : Int) < (b : Int) := by omega
      have e := ih (a % b) (Nat.mod_lt a (by omega)) b
      have g : Nat.gcd b (a % b) = Nat.gcd a b := by
        rw [Nat.gcd_comm a b, Nat.gcd_rec b a, Nat.gcd_comm]
      rw [g] at e
      have km := kMod_nat a b h
      simp only [u_bT, u_oE2, u_goV, u_goX, u_bor, u_cE, R.bind_ok, u_gt, u_finV, u_finX, List.getElem?_cons_succ, List.getElem?_cons_zero, u_borf, ofO_some, Option.bind_some, kGt_int, u_bTK]
      rw [if_pos (by simpa using hp)]
      simp only [u_seqS, u_parS, u_nE, u_bE, List.getElem?_cons_succ, List.getElem?_cons_zero, u_nEf, R.bind_ok, km, ofO_some, u_stF, List.set_cons_zero, List.set_cons_succ, u_seqK1, u_nxS]
      exact e
theorem v_common_divisor (a b : Nat) (w : W) : F_common_divisor [.int (a : Int), .int (b : Int)] w = .ok (false, .int ((Nat.gcd a b : Nat) : Int)) w := by
  have := gcd_loop w 0 b a
  simp only [u_gt] at this
  simp only [F_common_divisor, b_common_divisor, u_runDef, u_runDef0, u_startE, u_seqS, List.map_cons, List.map_nil, List.length_cons, List.length_nil, Nat.sub_self, List.replicate_zero, List.append_nil, u_gt, this]
  simp [this]
/-- whether two numbers are a fraction -/
def frB (p q : Int) : Bool := !decide (q < 1) && decide (Nat.gcd p.natAbs q.natAbs = 1)
theorem frB_iff {p q : Int} : frB p q = true ↔ 1 ≤ q ∧ Nat.gcd p.natAbs q.natAbs = 1 := by
  unfold frB; simp
theorem v_is_fraction (p q : Int) (w : W) : F_is_fraction [.tup [.int p, .int q]] w = .ok (false, .bl (frB p q)) w := by
  by_cases h : q < 1
  · simp [F_is_fraction, b_is_fraction, v_is_row, v_is_number, v_is_number1, h, frB]
  · have e : D.int q = .int ((q.natAbs : Nat) : Int) := by congr 1; omega
    have := v_common_divisor p.natAbs q.natAbs w
    rw [← e] at this
    simp [F_is_fraction, b_is_fraction, v_is_row, v_is_number, v_is_number1, h, frB, abs_nat, this]
    omega
theorem div_loop (w : W) (n : Nat) : ∀ (k : Nat) (ds : List D) (a b : Nat) (s : Sl), b < 2 ^ k → 2 * k ≤ ds.length → ∃ s', forL (.nm 2) (seqS (ifS (bT (oE2 (kCmp .Eq) (.var 1) (.ex (cE (.int 0))))) (seqS (fun st => .ok .bk st) nxS) nxS) (seqS (parS 0 1 (nE 1) (bE (k1 fMod) (oE1 kInt (.var 0)) (nE 1))) nxS)) ds
    ⟨[.fz (.int a), .fz (.int b), s], w, n⟩ = .ok .nx ⟨[.fz (.int (Nat.gcd a b : Nat)), .fz (.int 0), s'], w, n⟩ := by
  have kI : ∀ i : Int, kInt (.int i) = some (false, .int i) := fun _ => rfl
  have stop : ∀ (ds : List D) (a : Nat) (s : Sl), ∃ s', forL (.nm 2) (seqS (ifS (bT (oE2 (kCmp .Eq) (.var 1) (.ex (cE (.int 0))))) (seqS (fun st => .ok .bk st) nxS) nxS) (seqS (parS 0 1 (nE 1) (bE (k1 fMod) (oE1 kInt (.var 0)) (nE 1))) nxS)) ds
      ⟨[.fz (.int a), .fz (.int 0), s], w, n⟩ = .ok .nx ⟨[.fz (.int a), .fz (.int 0), s'], w, n⟩ := by
    intro ds a s
    cases ds with
    | nil => exact ⟨s, rfl⟩
    | cons d ds => exact ⟨.fz d, by simp [forL, Tg.put, turnK]⟩
  have one : ∀ (d : D) (ds : List D) (a b : Nat) (s : Sl), b ≠ 0 → forL (.nm 2) (seqS (ifS (bT (oE2 (kCmp .Eq) (.var 1) (.ex (cE (.int 0))))) (seqS (fun st => .ok .bk st) nxS) nxS) (seqS (parS 0 1 (nE 1) (bE (k1 fMod) (oE1 kInt (.var 0)) (nE 1))) nxS)) (d :: ds)
      ⟨[.fz (.int a), .fz (.int b), s], w, n⟩ = forL (.nm 2) (seqS (ifS (bT (oE2 (kCmp .Eq) (.var 1) (.ex (cE (.int 0))))) (seqS (fun st => .ok .bk st) nxS) nxS) (seqS (parS 0 1 (nE 1) (bE (k1 fMod) (oE1 kInt (.var 0)) (nE 1))) nxS)) ds ⟨[.fz (.int b), .fz (.int (a % b : Nat)), .fz d], w, n⟩ := by
    intro d ds a b s h
    have hb : ¬ ((b : Int) = 0) := by omega
    simp [forL, Tg.put, turnK, hb, h, kMod_nat a b h, kI]
  intro k
  induction k with
  | zero =>
    intro ds a b s hb _
    have : b = 0 := by simpa using hb
    subst this
    simpa using stop ds a s
  | succ k ih =>
    intro ds a b s hb hl
    by_cases h : b = 0
    · subst h; simpa using stop ds a s
    · match ds, hl with
      | d :: d' :: ds, hl =>
        rw [one d (d' :: ds) a b s h]
        have g1 : Nat.gcd b (a % b) = Nat.gcd a b := by rw [Nat.gcd_comm a b, Nat.gcd_rec b a, Nat.gcd_comm]
        by_cases h2 : a % b = 0
        · rw [h2]
          rw [h2] at g1
          have g3 : Nat.gcd a b = b := by rw [← g1]; simp
          rw [g3]
          exact stop (d' :: ds) b (.fz d)
        · rw [one d' ds b (a % b) (.fz d) h2]
          have g2 : Nat.gcd (a % b) (b % (a % b)) = Nat.gcd a b := by
            rw [← g1, Nat.gcd_comm b (a % b), Nat.gcd_rec (a % b) b, Nat.gcd_comm]
          have lt : b % (a % b) < 2 ^ k := by
            have l1 : a % b < b := Nat.mod_lt a (by omega)
            have l2 : b % (a % b) < a % b := Nat.mod_lt b (by omega)
            have l3 : (a % b) * (b / (a % b)) + b % (a % b) = b := Nat.div_add_mod b (a % b)
            have l4 : 1 ≤ b / (a % b) := by
              rw [Nat.le_div_iff_mul_le (by omega)]; omega
            have l5 : a % b * 1 ≤ (a % b) * (b / (a % b)) := Nat.mul_le_mul_left _ l4
            rw [Nat.pow_succ] at hb
            omega
          rw [← g2]
          exact ih ds (a % b) (b % (a % b)) (.fz d') lt (by simp at hl; omega)
      | [], hl => simp at hl
      | [_], hl => simp at hl; omega
theorem lim_log : lim400 < 2 ^ 1330 := by decide +kernel
theorem rng1 (j : Int) : rngOf [.int j] = if (small62 j && decide (j.toNat ≤ 1000000)) = true then some ((List.range j.toNat).map fun (i : Nat) => .int (i : Int)) else none := rfl
theorem rng_law (n : Nat) (h : n ≤ 1000000) : rngOf [.int (n : Int)] = some ((List.range n).map fun (i : Nat) => .int (i : Int)) := by
  have : (small62 (n : Int) && decide ((n : Int).toNat ≤ 1000000)) = true := by
    unfold small62; simp; omega
  rw [rng1, if_pos this]; simp
theorem v__law_divisor (a b : Nat) (h : b < lim400) (w : W) : F__law_divisor [.int (a : Int), .int (b : Int)] w = .ok (false, .int ((Nat.gcd a b : Nat) : Int)) w := by
  obtain ⟨s', e⟩ := div_loop w 0 1330 ((List.range 4000).map fun (i : Nat) => .int (i : Int)) a b .no (Nat.lt_trans h lim_log) (by simp)
  have r := rng_law 4000 (by decide)
  have r' : rngOf [.int 4000] = some ((List.range 4000).map fun (i : Nat) => .int (i : Int)) := r
  generalize (List.range 4000).map (fun (i : Nat) => D.int (i : Int)) = ds at e r'
  simp only [u_eq] at e
  simp [F__law_divisor, b__law_divisor, r']
  rw [e]; simp
end K72
set_option maxHeartbeats 4000000
namespace K72
open PySem PySem.Spec PyProof.Rows L2 PV TL
def ovS : Str := " over "
def fracT (p q : Int) : Str := if q = 1 then sI p else sI p ++ ovS ++ sI q
theorem ovS_len : ovS.length = 6 := by decide +kernel
theorem fracT_len {p q : Int} (hp : p.natAbs < lim400) (hq : q.natAbs < lim400) : (fracT p q).length ≤ 900 := by
  have a := sI_len hp
  have b := sI_len hq
  have c := ovS_len
  unfold fracT
  split
  · omega
  · rw [Str.length_append, Str.length_append]; omega
theorem v_fraction_text {p q : Int} (hp : p.natAbs < lim400) (hq : q.natAbs < lim400) (w : W) : F_fraction_text [.tup [.int p, .int q]] w = .ok (false, .str (fracT p q)) w := by
  have a := sI_len hp
  have b := sI_len hq
  have c := ovS_len
  have k1 := kStr_int hp
  have k2 := kStr_int hq
  have e1 : kAdd (.str (sI p)) (.str ovS) = _ := kAdd_str (sI p) ovS (by omega)
  have e2 : kAdd (.str (sI p ++ ovS)) (.str (sI q)) = _ := kAdd_str (sI p ++ ovS) (sI q) (by rw [Str.length_append]; omega)
  by_cases h : q = 1
  · simp [F_fraction_text, b_fraction_text, h, k1, fracT]
  · have u : (" over " : Str) = ovS := rfl
    simp only [F_fraction_text, b_fraction_text, u]
    simp [h, k1, k2, e1, e2, fracT]
theorem v__law_fraction_text {p q : Int} (hp : p.natAbs < lim400) (hq : q.natAbs < lim400) (w : W) : F__law_fraction_text [.tup [.int p, .int q]] w = .ok (false, .str (fracT p q)) w := v_fraction_text hp hq w
inductive Pt where
  | s (x : Str)
  | f (p q : Int)
def Pt.d : Pt → D
  | .s x => .str x
  | .f p q => .tup [.int p, .int q]
def Pt.t : Pt → Str
  | .s x => x
  | .f p q => fracT p q
def Pt.ok : Pt → Prop
  | .s x => x.length ≤ 100
  | .f p q => p.natAbs < lim400 ∧ q.natAbs < lim400
def txD : D → D
  | .tup [.int p, .int q] => .str (fracT p q)
  | d => d
theorem txD_map (ps : List Pt) : (ps.map Pt.d).map txD = dS (ps.map Pt.t) := by
  rw [List.map_map, dS, List.map_map]
  refine List.map_congr_left fun p _ => ?_
  cases p <;> rfl
theorem t_len {p : Pt} (h : p.ok) : p.t.length ≤ 900 := by
  cases p with
  | s x => exact Nat.le_trans h (by decide)
  | f p q => exact fracT_len h.1 h.2
theorem sum_le : ∀ (l : List Nat) (b : Nat), (∀ x ∈ l, x ≤ b) → l.sum ≤ l.length * b
  | [], b, _ => by simp
  | x :: l, b, h => by
    have := sum_le l b fun y hy => h y (List.mem_cons_of_mem _ hy)
    have := h x List.mem_cons_self
    rw [List.sum_cons, List.length_cons, Nat.succ_mul]; omega
theorem joinOk_spc (xs : List Str) (b : Nat) (h : ∀ x ∈ xs, x.length ≤ b) (hl : xs.length * (b + 1) ≤ 16777216) : joinOk spc xs = true := by
  have := sum_le (xs.map (·.length)) b (fun n hn => by
    obtain ⟨x, hx, rfl⟩ := List.mem_map.1 hn
    exact h x hx)
  rw [List.length_map] at this
  have e : spc.length = 1 := rfl
  unfold joinOk
  rw [e]
  refine decide_eq_true ?_
  rw [Nat.mul_succ] at hl; omega
theorem v_work_line (ps : List Pt) (hk : ∀ p ∈ ps, p.ok) (hl : ps.length ≤ 1000) (w : W) : F_work_line [.tup (ps.map Pt.d)] w = .ok (false, .str (Txt.join spc (ps.map Pt.t))) w := by
  have hm := lcD_map (i := 1) (it := itE (nE 0)) (te := ifE (bT (oE1 (kIsa "tuple") (.var 1))) (callE F_fraction_text (aCons (nE 1) aNil)) (nE 1)) (st := ⟨[.fz (.tup (ps.map Pt.d)), .no], w, 0⟩) (ds := ps.map Pt.d) txD (by simp) (.inl rfl) (fun d hd => by
    obtain ⟨p, hp, rfl⟩ := List.mem_map.1 hd
    have hk := hk p hp
    cases p with
    | s x => exact ⟨false, by simp [Pt.d, txD]⟩
    | f p q =>
      have := v_fraction_text hk.1 hk.2 w
      exact ⟨false, by simp [Pt.d, txD, this]⟩)
  rw [txD_map] at hm
  have j := kJoin_lst spc (ps.map Pt.t) (joinOk_spc _ 900 (fun x hx => by
    obtain ⟨p, hp, rfl⟩ := List.mem_map.1 hx
    exact t_len (hk p hp)) (by rw [List.length_map]; omega))
  generalize ps.map Pt.t = ts at hm j ⊢
  simp [F_work_line, b_work_line, spc_eq, hm, j]
theorem v__law_work_line (ps : List Pt) (hk : ∀ p ∈ ps, p.ok) (hl : ps.length ≤ 1000) (w : W) : F__law_work_line [.tup (ps.map Pt.d)] w = .ok (false, .str (Txt.join spc (ps.map Pt.t))) w := by
  have hm := lcD_map (i := 1) (it := itE (nE 0)) (te := ifE (bT (oE1 (kIsa "str") (.var 1))) (nE 1) (callE F__law_fraction_text (aCons (nE 1) aNil))) (st := ⟨[.fz (.tup (ps.map Pt.d)), .no], w, 0⟩) (ds := ps.map Pt.d) txD (by simp) (.inl rfl) (fun d hd => by
    obtain ⟨p, hp, rfl⟩ := List.mem_map.1 hd
    have hk := hk p hp
    cases p with
    | s x => exact ⟨false, by simp [Pt.d, txD]⟩
    | f p q =>
      have := v__law_fraction_text hk.1 hk.2 w
      exact ⟨false, by simp [Pt.d, txD, this]⟩)
  rw [txD_map] at hm
  have j := kJoin_lst spc (ps.map Pt.t) (joinOk_spc _ 900 (fun x hx => by
    obtain ⟨p, hp, rfl⟩ := List.mem_map.1 hx
    exact t_len (hk p hp)) (by rw [List.length_map]; omega))
  generalize ps.map Pt.t = ts at hm j ⊢
  simp [F__law_work_line, b__law_work_line, spc_eq, hm, j]
/-! ### numbers of few digits -/
theorem kDiv10 (a : Nat) : k1 fDiv (.int (a : Int)) (.int 10) = some (false, .int ((a / 10 : Nat) : Int)) := by
  rw [k1_int]
  unfold fDiv
  rw [if_pos (by decide), Int.fdiv_eq_ediv_of_nonneg _ (by omega)]; rfl
theorem len_loop (w : W) (n : Nat) (a0 : Sl) : ∀ (ds : List D) (x : Nat) (s : Sl), x < 10 ^ (ds.length + 1) → ∃ (v : Nat) (s' : Sl), v ≤ 9 ∧ forL (.nm 2) (seqS (setS 1 (bE (k1 fDiv) (nE 1) (cE (.int 10)))) nxS) ds
    ⟨[a0, .fz (.int x), s], w, n⟩ = .ok .nx ⟨[a0, .fz (.int v), s'], w, n⟩ := by
  intro ds
  induction ds with
  | nil => intro x s h; exact ⟨x, s, by simp at h; omega, rfl⟩
  | cons d ds ih =>
    intro x s h
    obtain ⟨v, s', h1, h2⟩ := ih (x / 10) (.fz d) (by
      rw [List.length_cons, Nat.pow_succ] at h; omega)
    refine ⟨v, s', h1, ?_⟩
    rw [← h2]
    simp [forL, Tg.put, turnK, kDiv10]
theorem v_length_of {p : Int} (h : p.natAbs < lim400) (w : W) : ∃ v : Nat, v ≤ 9 ∧ F_length_of [.int p] w = .ok (false, .int (v : Int)) w := by
  obtain ⟨v, s', h1, h2⟩ := len_loop w 0 (.fz (.int p)) ((List.range 399).map fun (i : Nat) => .int (i : Int)) p.natAbs .no (by simpa using h)
  refine ⟨v, h1, ?_⟩
  have r' : rngOf [.int 399] = some ((List.range 399).map fun (i : Nat) => .int (i : Int)) := rng_law 399 (by decide)
  generalize (List.range 399).map (fun (i : Nat) => D.int (i : Int)) = ds at h2 r'
  have ks : k1 fSub (.int 400) (.int 1) = some (false, .int 399) := rfl
  simp [F_length_of, b_length_of, g_LONG, ks, r', abs_nat]
  rw [h2]; simp
theorem v_check_long (fs : List (Int × Int)) (h : ∀ x ∈ fs, x.1.natAbs < lim400 ∧ x.2.natAbs < lim400) (w : W) : F_check_long [.lst (fs.map fun x => .tup [.int x.1, .int x.2])] w = .ok (false, .non) w := by
  have : ∀ (fs : List (Int × Int)) (a s : Sl), (∀ x ∈ fs, x.1.natAbs < lim400 ∧ x.2.natAbs < lim400) → ∃ s', forL (.nm 1) (seqS (ifS (orT (bT (oE2 (kCmp .Gt) (.ex (callE F_length_of (aCons (oE2 kIx (.var 1) (.ex (cE (.int 0)))) aNil))) (.ex (cE (.int 9))))) (bT (oE2 (kCmp .Gt) (.ex (callE F_length_of (aCons (oE2 kIx (.var 1) (.ex (cE (.int 1)))) aNil))) (.ex (cE (.int 9)))))) (seqS (fun _ => .bad) nxS) nxS) nxS) (fs.map fun x => D.tup [.int x.1, .int x.2]) ⟨[a, s], w, 0⟩ = .ok .nx ⟨[a, s'], w, 0⟩ := by
    intro fs
    induction fs with
    | nil => intro a s _; exact ⟨s, rfl⟩
    | cons x fs ih =>
      intro a s h
      obtain ⟨s', e⟩ := ih a (.fz (.tup [.int x.1, .int x.2])) fun y hy => h y (List.mem_cons_of_mem _ hy)
      refine ⟨s', ?_⟩
      rw [← e]
      obtain ⟨v1, l1, e1⟩ := v_length_of (h x List.mem_cons_self).1 w
      obtain ⟨v2, l2, e2⟩ := v_length_of (h x List.mem_cons_self).2 w
      have n1 : ¬ (9 < (v1 : Int)) := by omega
      have n2 : ¬ (9 < (v2 : Int)) := by omega
      simp [forL, Tg.put, turnK, e1, e2, n1, n2]
  obtain ⟨s', e⟩ := this fs (.fz (.lst (fs.map fun x => .tup [.int x.1, .int x.2]))) .no h
  simp only [u_gt] at e
  simp [F_check_long, b_check_long, e]
end K72
set_option maxHeartbeats 4000000
namespace K72
open PySem PySem.Spec PyProof.Rows L2 PV TL
theorem v_is_word1 (x y : Str) (w : W) : F_is_word [.str x, .tup [.str y]] w = .ok (false, .bl (decide (x = y))) w := by
  have := v_is_word x [y] w
  refine Eq.trans this ?_; simp
theorem n_ts : ((Str.ofString "tell") = Str.ofString "scale") = False := eq_false (by decide +kernel)
theorem n_tk : ((Str.ofString "tell") = Str.ofString "take") = False := eq_false (by decide +kernel)
theorem n_ks : ((Str.ofString "take") = Str.ofString "scale") = False := eq_false (by decide +kernel)
theorem n_kt : ((Str.ofString "take") = Str.ofString "tell") = False := eq_false (by decide +kernel)
theorem n_st : ((Str.ofString "scale") = Str.ofString "tell") = False := eq_false (by decide +kernel)
theorem n_sk : ((Str.ofString "scale") = Str.ofString "take") = False := eq_false (by decide +kernel)
theorem v__law_kept (w : W) : F__law_kept [] w = .ok (false, .tup (dS keptL)) w := by
  simp [F__law_kept, b__law_kept, keptL]
theorem v__law_is_name (x : Str) (h : x.length ≤ 16777216) (w : W) : F__law_is_name [.str x] w = .ok (false, .bl (nameB x)) w := by
  have hl := kLenA_str x h
  by_cases h0 : 1 ≤ x.length
  · by_cases h1 : x.length ≤ 8
    · have a0 : ¬ ((x.length : Int) < 1) := by omega
      have a1 : ¬ (8 < (x.length : Int)) := by omega
      by_cases h2 : x ∈ keptL
      · simp [F__law_is_name, b__law_is_name, v__law_kept, hl, h0, h1, h2, a0, a1, nameB]
      · have hm := lc_not (i := 1) (z := letS) (it := itE (nE 0)) (st := ⟨[.fz (.str x), .no], w, 0⟩) (x := x) (by simp [items_str x (by omega)]) (.inl rfl) (by simp)
        have e : nameB x = decide ((((tl x).filter fun n => !decide (n ∈ letS.cps.toList)).map fun n => (⟨#[n]⟩ : Str)) = []) := by
          unfold nameB
          rw [decide_eq_true h0, decide_eq_true h1, decide_eq_false h2]
          rw [Bool.eq_iff_iff, decide_eq_true_eq, List.map_eq_nil_iff, List.filter_eq_nil_iff]
          show (true && true && !false && _) = true ↔ _
          rw [show (true && true && !false) = true from rfl, Bool.true_and, List.all_eq_true]
          refine forall_congr' fun c => forall_congr' fun _ => ?_
          show _ ↔ ¬ (!decide (c ∈ lets)) = true
          cases decide (c ∈ lets) <;> simp
        generalize (((tl x).filter fun n => !decide (n ∈ letS.cps.toList)).map fun n => (⟨#[n]⟩ : Str)) = ys at hm e
        have u : ("abcdefghijklmnopqrstuvwxyz" : Str) = letS := rfl
        simp only [F__law_is_name, b__law_is_name, u]
        rw [show kCmp .NotIn = kNotIn from rfl] at hm
        simp [v__law_kept, hl, h0, h1, h2, a0, a1, hm, e]
    · have a0 : ¬ ((x.length : Int) < 1) := by omega
      have a1 : (8 < (x.length : Int)) := by omega
      simp [F__law_is_name, b__law_is_name, v__law_kept, hl, h0, h1, a0, a1, nameB]
  · have a0 : ((x.length : Int) < 1) := by omega
    simp [F__law_is_name, b__law_is_name, v__law_kept, hl, h0, a0, nameB]
theorem v__law_is_number (i : Int) (w : W) : F__law_is_number [.int i] w = .ok (false, .bl true) w := by
  simp [F__law_is_number, b__law_is_number]
theorem v__law_is_fraction (p q : Int) (hq : q.natAbs < lim400) (w : W) : F__law_is_fraction [.tup [.int p, .int q]] w = .ok (false, .bl (frB p q)) w := by
  by_cases h : q < 1
  · simp [F__law_is_fraction, b__law_is_fraction, v__law_is_number, h, frB]
  · have e : D.int q = .int ((q.natAbs : Nat) : Int) := by congr 1; omega
    have := v__law_divisor p.natAbs q.natAbs hq w
    rw [← e] at this
    simp [F__law_is_fraction, b__law_is_fraction, v__law_is_number, h, frB, abs_nat, this]
    omega
theorem v__law_is_small (p q : Int) (hq : q.natAbs < lim400) (w : W) : F__law_is_small [.tup [.int p, .int q]] w = .ok (false, .bl (frB p q)) w := by
  simp [F__law_is_small, b__law_is_small, v__law_is_fraction p q hq w]
/-- works -/
inductive Wk where
  | tell (a b : Str) (p q : Int)
  | take (a b : Str)
  | scale (a : Str) (p q : Int)
def Wk.pts : Wk → List Pt
  | .tell a b p q => [.s "tell", .s a, .s b, .f p q]
  | .take a b => [.s "take", .s a, .s b]
  | .scale a p q => [.s "scale", .s a, .f p q]
def Wk.d (k : Wk) : D := .tup (k.pts.map Pt.d)
def Wk.line (k : Wk) : Str := Txt.join spc (k.pts.map Pt.t)
def Wk.okB : Wk → Bool
  | .tell a b p q => nameB a && nameB b && frB p q
  | .take a b => nameB a && nameB b
  | .scale a p q => nameB a && frB p q
/-- its parts are no larger than a text's of this program -/
def Wk.bd : Wk → Prop
  | .tell a b p q => a.length ≤ 1000000 ∧ b.length ≤ 1000000 ∧ p.natAbs < lim400 ∧ q.natAbs < lim400
  | .take a b => a.length ≤ 1000000 ∧ b.length ≤ 1000000
  | .scale a p q => a.length ≤ 1000000 ∧ p.natAbs < lim400 ∧ q.natAbs < lim400
structure Wk.Ok (k : Wk) : Prop where
  b : k.okB = true
  bd : k.bd
theorem nameB_len {x : Str} (h : nameB x = true) : x.length ≤ 8 := by
  unfold nameB at h; simp at h; omega
theorem Wk.Ok.pts {k : Wk} (h : k.Ok) : ∀ p ∈ k.pts, p.ok := by
  obtain ⟨b, bd⟩ := h
  cases k with
  | tell a c p q =>
    simp only [Wk.okB, Bool.and_eq_true] at b
    have := nameB_len b.1.1
    have := nameB_len b.1.2
    have := bd.2.2
    intro x hx
    simp only [Wk.pts, List.mem_cons, List.not_mem_nil, or_false] at hx
    rcases hx with rfl | rfl | rfl | rfl
    · show (Str.ofString "tell").length ≤ 100; decide +kernel
    · show a.length ≤ 100; omega
    · show c.length ≤ 100; omega
    · exact this
  | take a c =>
    simp only [Wk.okB, Bool.and_eq_true] at b
    have := nameB_len b.1
    have := nameB_len b.2
    intro x hx
    simp only [Wk.pts, List.mem_cons, List.not_mem_nil, or_false] at hx
    rcases hx with rfl | rfl | rfl
    · show (Str.ofString "take").length ≤ 100; decide +kernel
    · show a.length ≤ 100; omega
    · show c.length ≤ 100; omega
  | scale a p q =>
    simp only [Wk.okB, Bool.and_eq_true] at b
    have := nameB_len b.1
    have := bd.2
    intro x hx
    simp only [Wk.pts, List.mem_cons, List.not_mem_nil, or_false] at hx
    rcases hx with rfl | rfl | rfl
    · show (Str.ofString "scale").length ≤ 100; decide +kernel
    · show a.length ≤ 100; omega
    · exact this
theorem v_is_work (k : Wk) (h : k.bd) (w : W) : F_is_work [k.d] w = .ok (false, .bl k.okB) w := by
  cases k with
  | tell a b p q =>
    have e1 := v_is_name a (by have := h.1; omega) w
    have e2 := v_is_name b (by have := h.2.1; omega) w
    cases x1 : nameB a <;> cases x2 : nameB b <;> simp [F_is_work, b_is_work, Wk.d, Wk.pts, Pt.d, Wk.okB, e1, e2, x1, x2, v_is_word1, v_is_fraction, n_ts, n_tk]
  | take a b =>
    have e1 := v_is_name a (by have := h.1; omega) w
    have e2 := v_is_name b (by have := h.2; omega) w
    cases x1 : nameB a <;> cases x2 : nameB b <;> simp [F_is_work, b_is_work, Wk.d, Wk.pts, Pt.d, Wk.okB, e1, e2, x1, x2, v_is_word1, v_is_fraction, n_ks, n_kt]
  | scale a p q =>
    have e1 := v_is_name a (by have := h.1; omega) w
    cases x1 : nameB a <;> simp [F_is_work, b_is_work, Wk.d, Wk.pts, Pt.d, Wk.okB, e1, x1, v_is_word1, v_is_fraction]
theorem v__law_is_a_work (k : Wk) (h : k.bd) (w : W) : F__law_is_a_work [k.d] w = .ok (false, .bl k.okB) w := by
  cases k with
  | tell a b p q =>
    have e1 := v__law_is_name a (by have := h.1; omega) w
    have e2 := v__law_is_name b (by have := h.2.1; omega) w
    have e3 := v__law_is_small p q h.2.2.2 w
    cases x1 : nameB a <;> cases x2 : nameB b <;> simp [F__law_is_a_work, b__law_is_a_work, Wk.d, Wk.pts, Pt.d, Wk.okB, e1, e2, e3, x1, x2, n_ts, n_tk]
  | take a b =>
    have e1 := v__law_is_name a (by have := h.1; omega) w
    have e2 := v__law_is_name b (by have := h.2; omega) w
    cases x1 : nameB a <;> cases x2 : nameB b <;> simp [F__law_is_a_work, b__law_is_a_work, Wk.d, Wk.pts, Pt.d, Wk.okB, e1, e2, x1, x2, n_ks, n_kt]
  | scale a p q =>
    have e1 := v__law_is_name a (by have := h.1; omega) w
    have e3 := v__law_is_small p q h.2.2 w
    cases x1 : nameB a <;> simp [F__law_is_a_work, b__law_is_a_work, Wk.d, Wk.pts, Pt.d, Wk.okB, e1, e3, x1]
theorem v_work_lineK (k : Wk) (h : k.Ok) (w : W) : F_work_line [k.d] w = .ok (false, .str k.line) w := v_work_line k.pts h.pts (by cases k <;> simp [Wk.pts]) w
theorem v__law_work_lineK (k : Wk) (h : k.Ok) (w : W) : F__law_work_line [k.d] w = .ok (false, .str k.line) w := v__law_work_line k.pts h.pts (by cases k <;> simp [Wk.pts]) w
/-- the fractions among the parts -/
def isF : D → Bool
  | .tup _ => true
  | _ => false
def frs : List Pt → List (Int × Int)
  | [] => []
  | .s _ :: r => frs r
  | .f p q :: r => (p, q) :: frs r
theorem frs_eq : ∀ ps : List Pt, ((ps.map Pt.d).filter isF).map (fun d => d) = (frs ps).map fun x => D.tup [.int x.1, .int x.2]
  | [] => rfl
  | .s x :: r => by
    have := frs_eq r
    simpa [Pt.d, isF, frs] using this
  | .f p q :: r => by
    show D.tup [.int p, .int q] :: ((r.map Pt.d).filter isF).map (fun d => d) = _
    rw [frs_eq r]; rfl
theorem frs_mem : ∀ (ps : List Pt) (x : Int × Int), x ∈ frs ps → .f x.1 x.2 ∈ ps
  | [], x, h => by simp [frs] at h
  | .s y :: r, x, h => List.mem_cons_of_mem _ (frs_mem r x h)
  | .f p q :: r, x, h => by
    rcases List.mem_cons.1 h with h | h
    · rw [h]; exact List.mem_cons_self
    · exact List.mem_cons_of_mem _ (frs_mem r x h)
theorem v_short_line (k : Wk) (h : k.Ok) (w : W) : F_short_line [k.d] w = .ok (false, .str k.line) w := by
  have hm := lcD_pure (i := 1) (it := itE (nE 0)) (tt := bT (oE1 (kIsa "tuple") (.var 1))) (te := nE 1) (st := ⟨[.fz k.d, .no], w, 0⟩) (ds := k.pts.map Pt.d) isF (fun d => d) (by simp [Wk.d]) (.inl rfl) (fun d hd => by
    obtain ⟨p, hp, rfl⟩ := List.mem_map.1 hd
    cases p <;> simp [Pt.d, isF]) (fun d hd _ => ⟨false, by simp⟩)
  rw [frs_eq] at hm
  have c := v_check_long (frs k.pts) (fun x hx => h.pts _ (frs_mem _ _ hx)) w
  generalize (frs k.pts).map (fun x => D.tup [.int x.1, .int x.2]) = fs at hm c
  have l := v_work_lineK k h w
  generalize k.d = kd at hm l ⊢
  simp [F_short_line, b_short_line, hm, c, l]
theorem v_work_text (k : Wk) (h : k.Ok) (w : W) : F_work_text [k.d] w = .ok (false, .str k.line) w := by
  have a := v_is_work k h.bd w
  have b := v_short_line k h w
  generalize k.d = kd at a b ⊢
  simp [F_work_text, b_work_text, a, b, h.b]
end K72
set_option maxHeartbeats 4000000
namespace PV
open PySem L2 TL
def optK : Vl → S → R (Option Int)
  | (_, .int i), st => .ok (some i) st
  | _, _ => .bad
@[simp] theorem u_optN (st : S) : optE none st = .ok none st := rfl
@[simp] theorem u_optS (f : DE) (st : S) : optE (some f) st = (f st).bind optK := by
  refine congrArg (f st).bind (funext fun a => funext fun st => ?_)
  obtain ⟨b, d⟩ := a
  cases d <;> rfl
@[simp] theorem u_optK (b : Bool) (i : Int) (st : S) : optK (b, .int i) st = .ok (some i) st := rfl
@[simp] theorem u_slE (o : Opn) (lo hi : Option DE) (st : S) : slE o lo hi st = (o.go st).bind fun d st => (optE lo st).bind fun l st => (optE hi st).bind fun h st => ofO ((o.fin d st).bind fun d => kSl d l h) st := rfl
theorem kSl_str (z : Str) (lo hi : Option Int) (h : z.length ≤ 16777216) : kSl (.str z) lo hi = some (false, .str (cutS z lo hi)) := if_pos h
theorem kSl_lst (ds : List D) (lo hi : Option Int) : kSl (.lst ds) lo hi = some (true, .lst (cutA ds lo hi)) := rfl
theorem cutA_take {α : Type} (xs : List α) (k : Nat) : cutA xs none (some (k : Int)) = xs.take k := by
  unfold cutA
  rw [HT.sIx_none, HT.sIx_nat, List.drop_zero, Nat.sub_zero]
  rcases Nat.le_total k xs.length with h | h
  · rw [Nat.min_eq_left h]
  · rw [Nat.min_eq_right h, List.take_of_length_le (Nat.le_refl _), List.take_of_length_le h]
theorem cutA_drop {α : Type} (xs : List α) (k : Nat) : cutA xs (some (k : Int)) none = xs.drop k := by
  unfold cutA
  rw [HT.sIx_none, HT.sIx_nat]
  rcases Nat.le_total k xs.length with h | h
  · rw [Nat.min_eq_left h, List.take_of_length_le (by rw [List.length_drop]; omega)]
  · rw [Nat.min_eq_right h, List.drop_of_length_le (Nat.le_refl _), List.drop_of_length_le h, Nat.sub_self]; rfl
theorem tl_cut1 (x : Str) : tl (cutS x none (some 1)) = (tl x).take 1 := by
  show (x.cps.toList.drop (HT.sIx x.length 0 none)).take (HT.sIx x.length x.length (some ((1 : Nat) : Int)) - HT.sIx x.length 0 none) = _
  have e : x.cps.toList.length = x.length := Array.length_toList
  have e' : (tl x).length = x.length := e
  rw [HT.sIx_none, HT.sIx_nat, List.drop_zero, Nat.sub_zero]
  rcases Nat.le_total 1 x.length with h | h
  · rw [Nat.min_eq_left h]
  · rw [Nat.min_eq_right h, List.take_of_length_le (by omega), List.take_of_length_le (by omega)]
theorem tl_cutR (x : Str) : tl (cutS x (some 1) none) = (tl x).drop 1 := by
  show (x.cps.toList.drop (HT.sIx x.length 0 (some ((1 : Nat) : Int)))).take (HT.sIx x.length x.length none - HT.sIx x.length 0 (some ((1 : Nat) : Int))) = _
  have e : x.cps.toList.length = x.length := Array.length_toList
  have e' : (tl x).length = x.length := e
  rw [HT.sIx_none, HT.sIx_nat]
  rcases Nat.le_total 1 x.length with h | h
  · rw [Nat.min_eq_left h, List.take_of_length_le (by rw [List.length_drop]; omega)]
  · rw [Nat.min_eq_right h, List.drop_of_length_le (by omega), List.drop_of_length_le (by omega), Nat.sub_self]; rfl
def minS : Str := "-"
def zeroS : Str := "0"
theorem tl_min : tl minS = [45] := by decide +kernel
theorem tl_zero : tl zeroS = [48] := by decide +kernel
/-- the text behind the minus -/
def bodS (x : Str) : Str := if cutS x none (some 1) = minS then cutS x (some 1) none else x
theorem cut_min (x : Str) : cutS x none (some 1) = minS ↔ ∃ r, tl x = 45 :: r := by
  constructor
  · intro h
    have := congrArg tl h
    rw [tl_cut1, tl_min] at this
    cases z : tl x with
    | nil => rw [z] at this; cases this
    | cons c r => rw [z] at this; simp at this; exact ⟨r, by rw [this]⟩
  · rintro ⟨r, h⟩
    refine ext_tl ?_
    rw [tl_cut1, h, tl_min]; rfl
theorem tl_bod (x : Str) : tl (bodS x) = sgn (tl x) := by
  unfold bodS
  by_cases h : cutS x none (some 1) = minS
  · rw [if_pos h, tl_cutR]
    obtain ⟨r, e⟩ := (cut_min x).1 h
    rw [e]; rfl
  · rw [if_neg h]
    rcases sgn_cases (tl x) with ⟨r, e, s⟩ | ⟨s, n⟩
    · exact absurd ((cut_min x).2 ⟨r, e⟩) h
    · exact s.symm
theorem bod_len (x : Str) : (bodS x).length ≤ x.length := by
  rw [len_tl, tl_bod, len_tl x]
  rcases sgn_cases (tl x) with ⟨r, e, s⟩ | ⟨s, n⟩
  · rw [s, e]; simp
  · rw [s]; exact Nat.le_refl _
theorem eq_zero (x : Str) : x = zeroS ↔ tl x = [48] := ⟨fun h => by rw [h, tl_zero], fun h => ext_tl (by rw [h, tl_zero])⟩
end PV
namespace K72
open PySem PySem.Spec PyProof.Rows L2 PV TL
def figS : Str := "0123456789"
theorem figS_eq : figS.cps.toList = digs := by decide +kernel
theorem g_fig : g_FIGURES = .str figS := rfl
theorem v_is_text_of_number (x : Str) (h : x.length ≤ 1000000) (w : W) : F_is_text_of_number [.str x] w = .ok (false, .bl (figB x)) w := by
  have hb := bod_len x
  have hl := kLenA_str (bodS x) (by omega)
  have s1 := kSl_str x none (some 1) (by omega)
  have s2 := kSl_str x (some 1) none (by omega)
  have u : ("-" : Str) = minS := rfl
  have u2 : ("0" : Str) = zeroS := rfl
  have set1 : ∀ (l : List Sl), l = [.fz (.str x), .no, .no] → setS 1 (ifE (bT (oE2 (kCmp .Eq) (.ex (slE (.var 0) none (some (cE (.int 1))))) (.ex (cE (.str "-"))))) (slE (.var 0) (some (cE (.int 1))) none) (nE 0)) ⟨l, w, 0⟩ = .ok .nx ⟨[.fz (.str x), .fz (.str (bodS x)), .no], w, 0⟩ := by
    rintro l rfl
    rw [u]
    by_cases c : cutS x none (some 1) = minS
    · simp [s1, s2, c, bodS]
    · simp [s1, s2, c, bodS]
  have fl : figB x = (decide (1 ≤ (bodS x).length) && decide ((bodS x).length ≤ 400) && (tl (bodS x)).all (fun c => decide (c ∈ digs)) && (decide (x = zeroS) || decide ((tl (bodS x)).head? ≠ some 48))) := by
    unfold figB figL
    rw [len_tl (bodS x), tl_bod]
    congr 2
    rw [decide_eq_decide]; exact (eq_zero x).symm
  have hm := lc_in (i := 2) (z := figS) (it := itE (nE 1)) (st := ⟨[.fz (.str x), .fz (.str (bodS x)), .no], w, 0⟩) (x := bodS x) (g := g_FIGURES) (by simp [items_str (bodS x) (by omega)]) (.inl rfl) (by simp) rfl
  rw [figS_eq] at hm
  unfold F_is_text_of_number b_is_text_of_number
  rw [u_runDef, u_seqS, set1 (startE 3 [D.str x]) rfl, u2, fl]
  by_cases h0 : 1 ≤ (bodS x).length
  · by_cases h1 : (bodS x).length ≤ 400
    · have a0 : ¬ (((bodS x).length : Int) < 1) := by omega
      have a1 : ¬ (400 < ((bodS x).length : Int)) := by omega
      have ka := kAll_map (fun c => decide (c ∈ digs)) (tl (bodS x))
      cases q : (tl (bodS x)).all (fun c => decide (c ∈ digs)) with
      | false =>
        rw [q] at ka
        rw [show kCmp .In = kIn from rfl] at hm
        simp [hl, h0, h1, a0, a1, hm, ka, g_LONG]
      | true =>
        rw [q] at ka
        rw [show kCmp .In = kIn from rfl] at hm
        obtain ⟨c, r, e⟩ : ∃ c r, tl (bodS x) = c :: r := by
          cases z : tl (bodS x) with
          | nil => rw [len_tl, z] at h0; simp at h0
          | cons c r => exact ⟨c, r, rfl⟩
        have e2 : bodS x = ⟨(c :: r).toArray⟩ := ext_tl e
        have ix : kIx (.str (bodS x)) (.int 0) = some (false, .str ⟨#[c]⟩) := by rw [e2]; exact kIx_sign0 c r
        have z0 : decide ((⟨#[c]⟩ : Str) = zeroS) = decide (c = 48) := by
          rw [decide_eq_decide, eq_zero]
          exact ⟨fun h => by have h2 : [c] = [48] := h; simpa using h2, fun h => by rw [h]⟩
        have hd : decide ((tl (bodS x)).head? ≠ some 48) = !decide (c = 48) := by rw [e]; simp
        have kz := kEq_str x zeroS
        have kc := kNe_str ⟨#[c]⟩ zeroS
        rw [z0] at kc
        rw [hd]
        generalize decide (x = zeroS) = bx at kz ⊢
        generalize decide (c = 48) = bc at kc ⊢
        generalize (tl (bodS x)).map (fun n => D.bl (decide (n ∈ digs))) = bs at hm ka
        cases bx <;> cases bc <;> simp [-kEq_str, -kNe_str, hl, h0, h1, a0, a1, hm, ka, g_LONG, ix, kz, kc]
    · have a0 : ¬ (((bodS x).length : Int) < 1) := by omega
      have a1 : (400 < ((bodS x).length : Int)) := by omega
      simp [hl, h0, h1, a0, a1, g_LONG]
  · have a0 : (((bodS x).length : Int) < 1) := by omega
    simp [hl, h0, a0, g_LONG]
theorem v__law_is_figures (x : Str) (h : x.length ≤ 1000000) (w : W) : F__law_is_figures [.str x] w = .ok (false, .bl (figB x)) w := by
  have hb := bod_len x
  have hl := kLenA_str (bodS x) (by omega)
  have s1 := kSl_str x none (some 1) (by omega)
  have s2 := kSl_str x (some 1) none (by omega)
  have u : ("-" : Str) = minS := rfl
  have u2 : ("0" : Str) = zeroS := rfl
  have u3 : ("0123456789" : Str) = figS := rfl
  have set1 : ∀ (l : List Sl), l = [.fz (.str x), .no, .no] → setS 1 (ifE (bT (oE2 (kCmp .Eq) (.ex (slE (.var 0) none (some (cE (.int 1))))) (.ex (cE (.str "-"))))) (slE (.var 0) (some (cE (.int 1))) none) (nE 0)) ⟨l, w, 0⟩ = .ok .nx ⟨[.fz (.str x), .fz (.str (bodS x)), .no], w, 0⟩ := by
    rintro l rfl
    rw [u]
    by_cases c : cutS x none (some 1) = minS
    · simp [s1, s2, c, bodS]
    · simp [s1, s2, c, bodS]
  have fl : figB x = (decide (1 ≤ (bodS x).length) && decide ((bodS x).length ≤ 400) && (tl (bodS x)).all (fun c => decide (c ∈ digs)) && (decide (x = zeroS) || decide ((tl (bodS x)).head? ≠ some 48))) := by
    unfold figB figL
    rw [len_tl (bodS x), tl_bod]
    congr 2
    rw [decide_eq_decide]; exact (eq_zero x).symm
  have hm := lc_not (i := 2) (z := figS) (it := itE (nE 1)) (st := ⟨[.fz (.str x), .fz (.str (bodS x)), .no], w, 0⟩) (x := bodS x) (by simp [items_str (bodS x) (by omega)]) (.inl rfl) (by simp)
  have ea : (tl (bodS x)).all (fun c => decide (c ∈ digs)) = decide ((((tl (bodS x)).filter fun n => !decide (n ∈ figS.cps.toList)).map fun n => (⟨#[n]⟩ : Str)) = []) := by
    rw [Bool.eq_iff_iff, decide_eq_true_eq, List.map_eq_nil_iff, List.filter_eq_nil_iff, List.all_eq_true, figS_eq]
    refine forall_congr' fun c => forall_congr' fun _ => ?_
    cases decide (c ∈ digs) <;> simp
  rw [ea] at fl
  generalize (((tl (bodS x)).filter fun n => !decide (n ∈ figS.cps.toList)).map fun n => (⟨#[n]⟩ : Str)) = ys at hm fl
  unfold F__law_is_figures b__law_is_figures
  rw [u_runDef, u_seqS, set1 (startE 3 [D.str x]) rfl, u2, u3, fl]
  rw [show kCmp .NotIn = kNotIn from rfl] at hm
  by_cases h0 : 1 ≤ (bodS x).length
  · by_cases h1 : (bodS x).length ≤ 400
    · have a0 : ¬ (((bodS x).length : Int) < 1) := by omega
      have a1 : ¬ (400 < ((bodS x).length : Int)) := by omega
      by_cases q : ys = []
      · subst q
        obtain ⟨c, r, e⟩ : ∃ c r, tl (bodS x) = c :: r := by
          cases z : tl (bodS x) with
          | nil => rw [len_tl, z] at h0; simp at h0
          | cons c r => exact ⟨c, r, rfl⟩
        have e2 : bodS x = ⟨(c :: r).toArray⟩ := ext_tl e
        have ix : kIx (.str (bodS x)) (.int 0) = some (false, .str ⟨#[c]⟩) := by rw [e2]; exact kIx_sign0 c r
        have z0 : decide ((⟨#[c]⟩ : Str) = zeroS) = decide (c = 48) := by
          rw [decide_eq_decide, eq_zero]
          exact ⟨fun h => by have h2 : [c] = [48] := h; simpa using h2, fun h => by rw [h]⟩
        have hd : decide ((tl (bodS x)).head? ≠ some 48) = !decide (c = 48) := by rw [e]; simp
        have kz := kEq_str x zeroS
        have kc := kNe_str ⟨#[c]⟩ zeroS
        have kn : kNe (.lst []) (.lst []) = some (false, .bl false) := kNe_strs0 []
        rw [z0] at kc
        rw [hd]
        generalize decide (x = zeroS) = bx at kz ⊢
        generalize decide (c = 48) = bc at kc ⊢
        cases bx <;> cases bc <;> simp [-kEq_str, -kNe_str, hl, h0, h1, a0, a1, hm, kn, ix, kz, kc]
      · simp [hl, h0, h1, a0, a1, hm, q]
    · have a0 : ¬ (((bodS x).length : Int) < 1) := by omega
      have a1 : (400 < ((bodS x).length : Int)) := by omega
      simp [hl, h0, h1, a0, a1]
  · have a0 : (((bodS x).length : Int) < 1) := by omega
    simp [hl, h0, a0]
end K72
set_option maxHeartbeats 4000000
namespace K72
open PySem PySem.Spec PyProof.Rows L2 PV TL
theorem kNotIn_13 (n : Int) : kNotIn (.int n) (.tup [.int 1, .int 3]) = some (false, .bl (!decide (n = 1 ∨ n = 3))) := by
  refine (kNotIn_tupI n [1, 3]).trans ?_; simp
theorem kIn_13 (n : Int) : kIn (.int n) (.tup [.int 1, .int 3]) = some (false, .bl (decide (n = 1 ∨ n = 3))) := by
  refine (kIn_tupI n [1, 3]).trans ?_; simp
theorem kList_lst (ds : List D) : kList (.lst ds) = some (true, .lst ds) := rfl
theorem kTuple_lst (ds : List D) : kTuple (.lst ds) = some (false, .tup ds) := rfl
def ovW : Str := "over"
def fracW (p q : Int) : List Str := if q = 1 then [sI p] else [sI p, ovW, sI q]
theorem ov_eq (x y : Str) : x ++ ovS ++ y = Str.join spc [x, ovW, y] := by
  refine ext_tl ?_
  show _ = tl (x ++ spc ++ (ovW ++ spc ++ y))
  have e : tl ovS = tl spc ++ tl ovW ++ tl spc := by decide +kernel
  simp only [tl_append, e, List.append_assoc]
theorem fracT_eq (p q : Int) : fracT p q = Txt.join spc (fracW p q) := by
  rw [join_eq]
  unfold fracT fracW
  split
  · rfl
  · exact ov_eq _ _
theorem ovW_free : 32 ∉ tl ovW := by decide +kernel
theorem fracW_free (p q : Int) : ∀ x ∈ fracW p q, 32 ∉ tl x := by
  unfold fracW
  split
  · intro x h; simp at h; rw [h]; exact sI_free p
  · intro x h; simp at h
    rcases h with h | h | h <;> rw [h]
    · exact sI_free p
    · exact ovW_free
    · exact sI_free q
theorem fracW_ne (p q : Int) : fracW p q ≠ [] := by unfold fracW; split <;> simp
theorem fracT_split (p q : Int) : Txt.split (fracT p q) spc = fracW p q := by
  rw [fracT_eq]; exact split_spc (fracW_ne p q) (fracW_free p q)
/-- the fraction that words are, None if they are none -/
def fracIn : List Str → Option (Int × Int)
  | [x] => if figB x = true ∧ frB (valS x) 1 = true ∧ fracW (valS x) 1 = [x] then some (valS x, 1) else none
  | [x, y, z] => if (figB x = true ∧ figB z = true) ∧ frB (valS x) (valS z) = true ∧ fracW (valS x) (valS z) = [x, y, z] then some (valS x, valS z) else none
  | _ => none
def optF : Option (Int × Int) → D
  | some (p, q) => .tup [.int p, .int q]
  | none => .non
theorem lt1 : (1 : Int).natAbs < lim400 := by decide +kernel
theorem v_fraction_in (ws : List Str) (h : ∀ x ∈ ws, x.length ≤ 1000000) (w : W) : F_fraction_in [.lst (dS ws)] w = .ok (false, optF (fracIn ws)) w := by
  match ws, h with
  | [], _ => simp [F_fraction_in, b_fraction_in, kNotIn_13, fracIn, optF]
  | [x, y], _ => simp [F_fraction_in, b_fraction_in, kNotIn_13, fracIn, optF]
  | x :: y :: z :: u :: r, _ =>
    have a : ¬ (((r.length : Nat) : Int) + 1 + 1 + 1 + 1 = 1 ∨ ((r.length : Nat) : Int) + 1 + 1 + 1 + 1 = 3) := by omega
    simp [F_fraction_in, b_fraction_in, kNotIn_13, fracIn, optF, a]
  | [x], h =>
    have tx := v_is_text_of_number x (h x (by simp)) w
    have ixm : kIx (.lst [.str x]) (.int (-1)) = some (false, .str x) := rfl
    by_cases fx : figB x = true
    · have ki := kInt_fig fx
      have fl := fig_lt fx
      have ft := v_fraction_text fl lt1 w
      have fr := v_is_fraction (valS x) 1 w
      have len := fracT_len fl lt1
      have sp := kSplit_str (fracT (valS x) 1) spc (by decide +kernel) (by omega)
      rw [fracT_split] at sp
      have ke := kEq_strs (fracW (valS x) 1) [x]
      have ke' : kEq (.lst (dS (fracW (valS x) 1))) (.lst [.str x]) = _ := ke
      generalize dS (fracW (valS x) 1) = fw at sp ke'
      by_cases c : frB (valS x) 1 = true
      · by_cases e : fracW (valS x) 1 = [x] <;> simp [F_fraction_in, b_fraction_in, kNotIn_13, fracIn, optF, tx, ixm, fx, ki, ft, fr, kList_lst, spc_eq, sp, ke', c, e]
      · simp [F_fraction_in, b_fraction_in, kNotIn_13, fracIn, optF, tx, ixm, fx, ki, fr, c]
    · simp [F_fraction_in, b_fraction_in, kNotIn_13, fracIn, optF, tx, ixm, fx]
  | [x, y, z], h =>
    have tx := v_is_text_of_number x (h x (by simp)) w
    have tz := v_is_text_of_number z (h z (by simp)) w
    have ixm : kIx (.lst [.str x, .str y, .str z]) (.int (-1)) = some (false, .str z) := rfl
    by_cases fx : figB x = true
    · by_cases fz : figB z = true
      · have ki := kInt_fig fx
        have kz := kInt_fig fz
        have fl := fig_lt fx
        have flz := fig_lt fz
        have ft := v_fraction_text fl flz w
        have fr := v_is_fraction (valS x) (valS z) w
        have len := fracT_len fl flz
        have sp := kSplit_str (fracT (valS x) (valS z)) spc (by decide +kernel) (by omega)
        rw [fracT_split] at sp
        have ke := kEq_strs (fracW (valS x) (valS z)) [x, y, z]
        have ke' : kEq (.lst (dS (fracW (valS x) (valS z)))) (.lst [.str x, .str y, .str z]) = _ := ke
        generalize dS (fracW (valS x) (valS z)) = fw at sp ke'
        by_cases c : frB (valS x) (valS z) = true
        · by_cases e : fracW (valS x) (valS z) = [x, y, z] <;> simp [F_fraction_in, b_fraction_in, kNotIn_13, fracIn, optF, tx, tz, ixm, fx, fz, ki, kz, ft, fr, kList_lst, spc_eq, sp, ke', c, e]
        · simp [F_fraction_in, b_fraction_in, kNotIn_13, fracIn, optF, tx, tz, ixm, fx, fz, ki, kz, fr, c]
      · simp [F_fraction_in, b_fraction_in, kNotIn_13, fracIn, optF, tx, tz, ixm, fx, fz]
    · simp [F_fraction_in, b_fraction_in, kNotIn_13, fracIn, optF, tx, ixm, fx]
theorem fracIn_ok {ws : List Str} {p q : Int} (h : fracIn ws = some (p, q)) : (p.natAbs < lim400 ∧ q.natAbs < lim400) ∧ frB p q = true ∧ fracW p q = ws := by
  match ws, h with
  | [x], h =>
    by_cases c : figB x = true ∧ frB (valS x) 1 = true ∧ fracW (valS x) 1 = [x]
    · rw [fracIn, if_pos c] at h
      cases h
      exact ⟨⟨fig_lt c.1, lt1⟩, c.2⟩
    · rw [fracIn, if_neg c] at h; cases h
  | [x, y, z], h =>
    by_cases c : (figB x = true ∧ figB z = true) ∧ frB (valS x) (valS z) = true ∧ fracW (valS x) (valS z) = [x, y, z]
    · rw [fracIn, if_pos c] at h
      cases h
      exact ⟨⟨fig_lt c.1.1, fig_lt c.1.2⟩, c.2⟩
    · rw [fracIn, if_neg c] at h; cases h
theorem fracIn_W {p q : Int} (hp : p.natAbs < lim400) (hq : q.natAbs < lim400) (h : frB p q = true) : fracIn (fracW p q) = some (p, q) := by
  by_cases c : q = 1
  · subst c
    have e : fracW p 1 = [sI p] := by unfold fracW; simp
    rw [e, fracIn, val_num, if_pos ⟨fig_num hp, h, e⟩]
  · have e : fracW p q = [sI p, ovW, sI q] := by unfold fracW; rw [if_neg c]
    rw [e, fracIn, val_num, val_num, if_pos ⟨⟨fig_num hp, fig_num hq⟩, h, e⟩]
/-- the words of a work's line -/
def Wk.words : Wk → List Str
  | .tell a b p q => Str.ofString "tell" :: a :: b :: fracW p q
  | .take a b => [Str.ofString "take", a, b]
  | .scale a p q => Str.ofString "scale" :: a :: fracW p q
theorem line_eq (k : Wk) : k.line = Txt.join spc k.words := by
  cases k with
  | tell a b p q =>
    show Txt.join spc ([Str.ofString "tell", a, b] ++ [fracT p q]) = _
    rw [fracT_eq, joinT_app _ _ (fracW_ne p q)]; rfl
  | take a b => rfl
  | scale a p q =>
    show Txt.join spc ([Str.ofString "scale", a] ++ [fracT p q]) = _
    rw [fracT_eq, joinT_app _ _ (fracW_ne p q)]; rfl
theorem lets_free : 32 ∉ lets := by decide +kernel
theorem nameB_free {x : Str} (h : nameB x = true) : 32 ∉ tl x := by
  unfold nameB at h
  rw [Bool.and_eq_true, List.all_eq_true] at h
  intro m
  exact lets_free (of_decide_eq_true (h.2 32 m))
theorem words_free {k : Wk} (h : k.okB = true) : ∀ x ∈ k.words, 32 ∉ tl x := by
  cases k with
  | tell a b p q =>
    simp only [Wk.okB, Bool.and_eq_true] at h
    intro x hx
    simp only [Wk.words, List.mem_cons] at hx
    rcases hx with rfl | rfl | rfl | hx
    · decide +kernel
    · exact nameB_free h.1.1
    · exact nameB_free h.1.2
    · exact fracW_free p q x hx
  | take a b =>
    simp only [Wk.okB, Bool.and_eq_true] at h
    intro x hx
    simp only [Wk.words, List.mem_cons, List.not_mem_nil, or_false] at hx
    rcases hx with rfl | rfl | rfl
    · decide +kernel
    · exact nameB_free h.1
    · exact nameB_free h.2
  | scale a p q =>
    simp only [Wk.okB, Bool.and_eq_true] at h
    intro x hx
    simp only [Wk.words, List.mem_cons] at hx
    rcases hx with rfl | rfl | hx
    · decide +kernel
    · exact nameB_free h.1
    · exact fracW_free p q x hx
theorem line_split {k : Wk} (h : k.okB = true) : Txt.split k.line spc = k.words := by
  rw [line_eq]
  exact split_spc (by cases k <;> simp [Wk.words]) (words_free h)
end K72
set_option maxHeartbeats 4000000
namespace K72
open PySem PySem.Spec PyProof.Rows L2 PV TL
theorem mem_join_len (y : Str) : ∀ (xs : List Str) (x : Str), x ∈ xs → x.length ≤ (Str.join y xs).length
  | [a], x, h => by
    rw [List.mem_singleton.1 h]; exact Nat.le_refl _
  | a :: b :: r, x, h => by
    rw [join_cons2, Str.length_append, Str.length_append]
    rcases List.mem_cons.1 h with h | h
    · rw [h]; omega
    · have := mem_join_len y (b :: r) x h; omega
theorem split_len {z : Str} (h : z.length ≤ 1000000) : ∀ x ∈ Txt.split z spc, x.length ≤ 1000000 := fun x hx => by
  have := mem_join_len spc (Txt.split z spc) x hx
  rw [← join_eq, join_spc] at this
  omega
def manyD (w0 : Str) : Int := if Str.ofString "tell" = w0 then 3 else if Str.ofString "take" = w0 then 3 else if Str.ofString "scale" = w0 then 2 else 0
theorem v_disp (st : S) : dispE [((cE (.str "tell")), (cE (.int 3))), ((cE (.str "take")), (cE (.int 3))), ((cE (.str "scale")), (cE (.int 2)))] st = .ok (true, .dK [.inr (Str.ofString "tell"), .inr (Str.ofString "take"), .inr (Str.ofString "scale")] [.int 3, .int 3, .int 2]) st := by
  simp [dispE, pairsD, dkey, dictOf, dputK, dputV, n_ts, n_tk, n_ks, n_kt, n_st, n_sk]
theorem u_get2E (o : Opn) (f h : DE) (st : S) : get2E o f h st = (o.go st).bind fun d0 st => if isD d0 = true then (f st).bind fun k st => (h st).bind fun z st => ofO ((o.fin d0 st).bind fun d => (dget d k.2).map fun r => (false, r.getD z.2)) st else .bad := rfl
theorem isD_dK (ks : List Key) (ds : List D) : isD (.dK ks ds) = true := rfl
theorem dget_dK (ks : List Key) (ds : List D) (x : Str) : dget (.dK ks ds) (.str x) = some (dlook ks ds (.inr x)) := rfl
theorem v_many (w0 : Str) : (dlook [.inr (Str.ofString "tell"), .inr (Str.ofString "take"), .inr (Str.ofString "scale")] [.int 3, .int 3, .int 2] (.inr w0 : Key)).getD (.int 0) = .int (manyD w0) := by
  unfold manyD
  by_cases a : Str.ofString "tell" = w0
  · simp [dlook, a]
  · by_cases b : Str.ofString "take" = w0
    · simp [dlook, a, b]
    · by_cases c : Str.ofString "scale" = w0 <;> simp [dlook, a, b, c]
theorem m_tell : manyD (Str.ofString "tell") = 3 := by simp [manyD]
theorem m_take : manyD (Str.ofString "take") = 3 := by simp [manyD, n_tk]
theorem m_scale : manyD (Str.ofString "scale") = 2 := by simp [manyD, n_ts, n_ks]
theorem cut3 (xs : List D) : cutA xs none (some 3) = xs.take 3 := cutA_take xs 3
theorem cut2 (xs : List D) : cutA xs none (some 2) = xs.take 2 := cutA_take xs 2
theorem cutD3 (xs : List D) : cutA xs (some 3) none = xs.drop 3 := cutA_drop xs 3
theorem cutD2 (xs : List D) : cutA xs (some 2) none = xs.drop 2 := cutA_drop xs 2
/-- what a work's words give, in the program -/
def resD (k : Wk) (z : Str) : D := if k.okB = true ∧ k.line = z then k.d else .non
def wkOf (ws : List Str) : Option Wk :=
  match ws with
  | w0 :: r => if w0 = Str.ofString "tell" then
      (match r with | a :: b :: rest => (fracIn rest).map fun x => .tell a b x.1 x.2 | _ => none)
    else if w0 = Str.ofString "take" then
      (match r with | a :: b :: _ => some (.take a b) | _ => none)
    else if w0 = Str.ofString "scale" then
      (match r with | a :: rest => (fracIn rest).map fun x => .scale a x.1 x.2 | _ => none)
    else none
  | [] => none
def resO (z : Str) : Option Wk → D
  | some k => resD k z
  | none => .non
theorem wkOf_bd {ws : List Str} (h : ∀ x ∈ ws, x.length ≤ 1000000) {k : Wk} (e : wkOf ws = some k) : k.bd := by
  match ws, e with
  | w0 :: r, e =>
    unfold wkOf at e
    simp only [] at e
    by_cases c1 : w0 = Str.ofString "tell"
    · rw [if_pos c1] at e
      match r, e with
      | a :: b :: rest, e =>
        obtain ⟨⟨p, q⟩, hf, e⟩ := Option.map_eq_some_iff.1 e
        subst e
        have := fracIn_ok hf
        exact ⟨h a (by simp), h b (by simp), this.1.1, this.1.2⟩
      | [], e => cases e
      | [_], e => cases e
    · rw [if_neg c1] at e
      by_cases c2 : w0 = Str.ofString "take"
      · rw [if_pos c2] at e
        match r, e with
        | a :: b :: rest, e => cases e; exact ⟨h a (by simp), h b (by simp)⟩
        | [], e => cases e
        | [_], e => cases e
      · rw [if_neg c2] at e
        by_cases c3 : w0 = Str.ofString "scale"
        · rw [if_pos c3] at e
          match r, e with
          | a :: rest, e =>
            obtain ⟨⟨p, q⟩, hf, e⟩ := Option.map_eq_some_iff.1 e
            subst e
            have := fracIn_ok hf
            exact ⟨h a (by simp), this.1.1, this.1.2⟩
          | [], e => cases e
        · rw [if_neg c3] at e; cases e
theorem fin_work (k : Wk) (hb : k.bd) (z : Str) (l : List Sl) (w : W) (n : Nat) (h0 : l[0]? = some (.fz (.str z))) (h3 : l[3]? = some (.fz k.d)) :
    ifE (andT (bT (callE F_is_work (aCons (nE 3) aNil))) (bT (oE2 (kCmp .Eq) (.ex (callE F_work_line (aCons (nE 3) aNil))) (.var 0)))) (nE 3) (cE .non) ⟨l, w, n⟩ = .ok (false, resD k z) ⟨l, w, n⟩ := by
  have a := v_is_work k hb w
  by_cases c : k.okB = true
  · have b := v_work_lineK k ⟨c, hb⟩ w
    by_cases e : k.line = z
    · simp [h0, h3, a, b, c, e, resD]
    · simp [h0, h3, a, b, c, e, resD]
  · simp [h0, h3, a, c, resD]
theorem v_work_in0 (z : Str) (h : z.length ≤ 1000000) (w : W) : F_work_in [.str z] w = .ok (false, resO z (wkOf (Txt.split z spc))) w := by
  have sp := kSplit_str z spc (by decide +kernel) (by omega)
  have sl := split_len h
  have ne := split_ne z
  generalize Txt.split z spc = ws at sp sl ne ⊢
  have s1 : setS 1 (m1S kSplit (nE 0) (cE (.str " "))) ⟨startE 5 [.str z], w, 0⟩ = .ok .nx ⟨[.fz (.str z), .ow (.lst (dS ws)), .no, .no, .no], w, 0⟩ := by
    simp [spc_eq, sp]
  match ws, ne with
  | w0 :: r, _ =>
    by_cases c1 : Str.ofString "tell" = w0
    · subst c1
      match r with
      | [] =>
        unfold F_work_in b_work_in
        rw [u_runDef, u_seqS, s1]
        simp [u_get2E, v_disp, isD_dK, dget_dK, v_many, m_tell, wkOf, resO]
      | [a] =>
        unfold F_work_in b_work_in
        rw [u_runDef, u_seqS, s1]
        simp [u_get2E, v_disp, isD_dK, dget_dK, v_many, m_tell, wkOf, resO]
      | a :: b :: rest =>
        have fi := v_fraction_in rest (fun x hx => sl x (by simp [hx])) w
        have n3 : ¬ (((rest.length : Nat) : Int) + 1 + 1 + 1 < 3) := by omega
        cases ef : fracIn rest with
        | none =>
          rw [ef] at fi
          unfold F_work_in b_work_in
          rw [u_runDef, u_seqS, s1]
          simp [u_get2E, v_disp, isD_dK, dget_dK, v_many, m_tell, n3, wkOf, resO, kSl_lst, cut3, cutD3, kTuple_lst, n_tk, fi, ef, optF]
        | some x =>
          obtain ⟨p, q⟩ := x
          rw [ef] at fi
          have bd : (Wk.tell a b p q).bd := wkOf_bd (ws := Str.ofString "tell" :: a :: b :: rest) sl (by simp [wkOf, ef])
          have ka := kAdd_tup [.str (Str.ofString "tell"), .str a, .str b] [.tup [.int p, .int q]] (by simp)
          have fw := fin_work (.tell a b p q) bd z
          have kd : (Wk.tell a b p q).d = .tup [.str (Str.ofString "tell"), .str a, .str b, .tup [.int p, .int q]] := rfl
          unfold F_work_in b_work_in
          rw [u_runDef, u_seqS, s1]
          simp [u_get2E, v_disp, isD_dK, dget_dK, v_many, m_tell, n3, wkOf, resO, kSl_lst, cut3, cutD3, kTuple_lst, n_tk, fi, ef, optF, ka, -u_ifE, -u_andT]
          rw [← u_eq, fw _ w 0 rfl (by rw [kd]; rfl)]
          simp
    · by_cases c2 : Str.ofString "take" = w0
      · subst c2
        match r with
        | [] =>
          unfold F_work_in b_work_in
          rw [u_runDef, u_seqS, s1]
          simp [u_get2E, v_disp, isD_dK, dget_dK, v_many, m_take, wkOf, resO, n_kt]
        | [a] =>
          unfold F_work_in b_work_in
          rw [u_runDef, u_seqS, s1]
          simp [u_get2E, v_disp, isD_dK, dget_dK, v_many, m_take, wkOf, resO, n_kt]
        | a :: b :: rest =>
          have n3 : ¬ (((rest.length : Nat) : Int) + 1 + 1 + 1 < 3) := by omega
          have bd : (Wk.take a b).bd := wkOf_bd (ws := Str.ofString "take" :: a :: b :: rest) sl (by simp [wkOf, n_kt])
          have fw := fin_work (.take a b) bd z
          have kd : (Wk.take a b).d = .tup [.str (Str.ofString "take"), .str a, .str b] := rfl
          unfold F_work_in b_work_in
          rw [u_runDef, u_seqS, s1]
          simp [u_get2E, v_disp, isD_dK, dget_dK, v_many, m_take, n3, wkOf, resO, kSl_lst, cut3, kTuple_lst, n_kt, -u_ifE, -u_andT]
          rw [← u_eq, fw _ w 0 rfl (by rw [kd]; rfl)]
          simp
      · by_cases c3 : Str.ofString "scale" = w0
        · subst c3
          match r with
          | [] =>
            unfold F_work_in b_work_in
            rw [u_runDef, u_seqS, s1]
            simp [u_get2E, v_disp, isD_dK, dget_dK, v_many, m_scale, wkOf, resO, n_st, n_sk]
          | a :: rest =>
            have fi := v_fraction_in rest (fun x hx => sl x (by simp [hx])) w
            have n3 : ¬ (((rest.length : Nat) : Int) + 1 + 1 < 2) := by omega
            cases ef : fracIn rest with
            | none =>
              rw [ef] at fi
              unfold F_work_in b_work_in
              rw [u_runDef, u_seqS, s1]
              simp [u_get2E, v_disp, isD_dK, dget_dK, v_many, m_scale, n3, wkOf, resO, kSl_lst, cut2, cutD2, kTuple_lst, n_st, n_sk, fi, ef, optF]
            | some x =>
              obtain ⟨p, q⟩ := x
              rw [ef] at fi
              have bd : (Wk.scale a p q).bd := wkOf_bd (ws := Str.ofString "scale" :: a :: rest) sl (by simp [wkOf, ef, n_st, n_sk])
              have ka := kAdd_tup [.str (Str.ofString "scale"), .str a] [.tup [.int p, .int q]] (by simp)
              have fw := fin_work (.scale a p q) bd z
              have kd : (Wk.scale a p q).d = .tup [.str (Str.ofString "scale"), .str a, .tup [.int p, .int q]] := rfl
              unfold F_work_in b_work_in
              rw [u_runDef, u_seqS, s1]
              simp [u_get2E, v_disp, isD_dK, dget_dK, v_many, m_scale, n3, wkOf, resO, kSl_lst, cut2, cutD2, kTuple_lst, n_st, n_sk, fi, ef, optF, ka, -u_ifE, -u_andT]
              rw [← u_eq, fw _ w 0 rfl (by rw [kd]; rfl)]
              simp
        · have m : manyD w0 = 0 := by simp [manyD, c1, c2, c3]
          have d1 : ¬ w0 = Str.ofString "tell" := fun e => c1 e.symm
          have d2 : ¬ w0 = Str.ofString "take" := fun e => c2 e.symm
          have d3 : ¬ w0 = Str.ofString "scale" := fun e => c3 e.symm
          unfold F_work_in b_work_in
          rw [u_runDef, u_seqS, s1]
          simp [u_get2E, v_disp, isD_dK, dget_dK, v_many, m, wkOf, resO, d1, d2, d3]
end K72
set_option maxHeartbeats 4000000
namespace K72
open PySem PySem.Spec PyProof.Rows L2 PV TL
/-- the same, as the law asks it -/
def lawFr : List Str → Option (Int × Int)
  | [x] => if figB x = true then some (valS x, 1) else none
  | [x, y, z] => if (figB x = true ∧ figB z = true) ∧ y = ovW then some (valS x, valS z) else none
  | _ => none
theorem lawFr_ok {ws : List Str} {p q : Int} (h : lawFr ws = some (p, q)) : p.natAbs < lim400 ∧ q.natAbs < lim400 := by
  match ws, h with
  | [x], h =>
    by_cases c : figB x = true
    · rw [lawFr, if_pos c] at h
      cases h
      exact ⟨fig_lt c, lt1⟩
    · rw [lawFr, if_neg c] at h; cases h
  | [x, y, z], h =>
    by_cases c : (figB x = true ∧ figB z = true) ∧ y = ovW
    · rw [lawFr, if_pos c] at h
      cases h
      exact ⟨fig_lt c.1.1, fig_lt c.1.2⟩
    · rw [lawFr, if_neg c] at h; cases h
theorem lawFr_W {p q : Int} (hp : p.natAbs < lim400) (hq : q.natAbs < lim400) : lawFr (fracW p q) = some (p, q) := by
  by_cases c : q = 1
  · subst c
    have e : fracW p 1 = [sI p] := by unfold fracW; simp
    rw [e, lawFr, val_num, if_pos (fig_num hp)]
  · have e : fracW p q = [sI p, ovW, sI q] := by unfold fracW; rw [if_neg c]
    rw [e, lawFr, val_num, val_num, if_pos ⟨⟨fig_num hp, fig_num hq⟩, rfl⟩]
def lawOf (ws : List Str) : Option Wk :=
  match ws with
  | w0 :: r => if w0 = Str.ofString "tell" then
      (match r with | a :: b :: rest => (lawFr rest).map fun x => .tell a b x.1 x.2 | _ => none)
    else if w0 = Str.ofString "take" then
      (match r with | [a, b] => some (.take a b) | _ => none)
    else if w0 = Str.ofString "scale" then
      (match r with | a :: rest => (lawFr rest).map fun x => .scale a x.1 x.2 | _ => none)
    else none
  | [] => none
theorem lawOf_bd {ws : List Str} (h : ∀ x ∈ ws, x.length ≤ 1000000) {k : Wk} (e : lawOf ws = some k) : k.bd := by
  match ws, e with
  | w0 :: r, e =>
    unfold lawOf at e
    simp only [] at e
    by_cases c1 : w0 = Str.ofString "tell"
    · rw [if_pos c1] at e
      match r, e with
      | a :: b :: rest, e =>
        obtain ⟨⟨p, q⟩, hf, e⟩ := Option.map_eq_some_iff.1 e
        subst e
        have := lawFr_ok hf
        exact ⟨h a (by simp), h b (by simp), this.1, this.2⟩
      | [], e => cases e
      | [_], e => cases e
    · rw [if_neg c1] at e
      by_cases c2 : w0 = Str.ofString "take"
      · rw [if_pos c2] at e
        match r, e with
        | [a, b], e => cases e; exact ⟨h a (by simp), h b (by simp)⟩
        | [], e => cases e
        | [_], e => cases e
        | _ :: _ :: _ :: _, e => cases e
      · rw [if_neg c2] at e
        by_cases c3 : w0 = Str.ofString "scale"
        · rw [if_pos c3] at e
          match r, e with
          | a :: rest, e =>
            obtain ⟨⟨p, q⟩, hf, e⟩ := Option.map_eq_some_iff.1 e
            subst e
            have := lawFr_ok hf
            exact ⟨h a (by simp), this.1, this.2⟩
          | [], e => cases e
        · rw [if_neg c3] at e; cases e
theorem wkOf_words {k : Wk} (h : k.Ok) : wkOf k.words = some k := by
  obtain ⟨b, bd⟩ := h
  cases k with
  | tell a c p q =>
    simp only [Wk.okB, Bool.and_eq_true] at b
    simp [wkOf, Wk.words, fracIn_W bd.2.2.1 bd.2.2.2 b.2]
  | take a c => simp [wkOf, Wk.words, n_kt]
  | scale a p q =>
    simp only [Wk.okB, Bool.and_eq_true] at b
    simp [wkOf, Wk.words, n_st, n_sk, fracIn_W bd.2.1 bd.2.2 b.2]
theorem lawOf_words {k : Wk} (h : k.Ok) : lawOf k.words = some k := by
  obtain ⟨b, bd⟩ := h
  cases k with
  | tell a c p q => simp [lawOf, Wk.words, lawFr_W bd.2.2.1 bd.2.2.2]
  | take a c => simp [lawOf, Wk.words, n_kt]
  | scale a p q => simp [lawOf, Wk.words, n_st, n_sk, lawFr_W bd.2.1 bd.2.2]
theorem resD_cases (k : Wk) (z : Str) : (resD k z = .non ∧ ¬ (k.okB = true ∧ k.line = z)) ∨ (resD k z = k.d ∧ k.okB = true ∧ k.line = z) := by
  unfold resD
  by_cases c : k.okB = true ∧ k.line = z
  · right; rw [if_pos c]; exact ⟨rfl, c⟩
  · left; rw [if_neg c]; exact ⟨rfl, c⟩
theorem res_line {k : Wk} (h : k.Ok) : resO k.line (wkOf (Txt.split k.line spc)) = k.d ∧ resO k.line (lawOf (Txt.split k.line spc)) = k.d := by
  rw [line_split h.b, wkOf_words h, lawOf_words h]
  have : resD k k.line = k.d := if_pos ⟨h.b, rfl⟩
  exact ⟨this, this⟩
/-- there is nothing, or a work whose line the text is -/
inductive Fnd (z : Str) : D → Prop
  | no : (∀ k : Wk, k.Ok → k.line ≠ z) → Fnd z .non
  | yes (k : Wk) : k.Ok → k.line = z → Fnd z k.d
theorem fnd_of {z : Str} {o o' : Option Wk} (hb : ∀ k, o = some k → k.bd) (hl : ∀ k : Wk, k.Ok → k.line = z → resO z o = k.d) : Fnd z (resO z o) := by
  cases o with
  | none =>
    refine .no fun k hk e => ?_
    have := hl k hk e
    cases k <;> cases this
  | some k =>
    rcases resD_cases k z with ⟨e, n⟩ | ⟨e, y⟩
    · have e' : resO z (some k) = .non := e
      rw [e']
      refine .no fun k' hk e2 => ?_
      have := hl k' hk e2
      rw [e'] at this
      cases k' <;> cases this
    · have e' : resO z (some k) = k.d := e
      rw [e']
      exact .yes k ⟨y.1, hb k rfl⟩ y.2
theorem fnd_wk (z : Str) (h : z.length ≤ 1000000) : Fnd z (resO z (wkOf (Txt.split z spc))) :=
  fnd_of (o' := none) (fun k e => wkOf_bd (split_len h) e) (fun k hk e => by subst e; exact (res_line hk).1)
theorem fnd_law (z : Str) (h : z.length ≤ 1000000) : Fnd z (resO z (lawOf (Txt.split z spc))) :=
  fnd_of (o' := none) (fun k e => lawOf_bd (split_len h) e) (fun k hk e => by subst e; exact (res_line hk).2)
/-- program and law find the same -/
theorem res_same (z : Str) (h : z.length ≤ 1000000) : resO z (wkOf (Txt.split z spc)) = resO z (lawOf (Txt.split z spc)) := by
  have a := fnd_wk z h
  have b := fnd_law z h
  generalize hx : resO z (wkOf (Txt.split z spc)) = x at a ⊢
  generalize hy : resO z (lawOf (Txt.split z spc)) = y at b ⊢
  cases a with
  | no na =>
    cases b with
    | no _ => rfl
    | yes k hk e => exact absurd e (na k hk)
  | yes k hk e =>
    subst e
    rw [← hy]; exact (res_line hk).2.symm
theorem v_work_in (z : Str) (h : z.length ≤ 1000000) (w : W) : F_work_in [.str z] w = .ok (false, resO z (lawOf (Txt.split z spc))) w := by
  rw [v_work_in0 z h, res_same z h]
theorem v_read_yes (z : Str) (h : z.length ≤ 1000000) (w : W) (k : Wk) (e : resO z (lawOf (Txt.split z spc)) = k.d) : F_read_work [.str z] w = .ok (false, k.d) w := by
  have a := v_work_in z h w
  rw [e] at a
  have n : isNo k.d = false := rfl
  simp [F_read_work, b_read_work, a, n]
theorem v_read_no (z : Str) (h : z.length ≤ 1000000) (w : W) (e : resO z (lawOf (Txt.split z spc)) = .non) : F_read_work [.str z] w = .ex ⟨"BadText", some 0⟩ w := by
  have a := v_work_in z h w
  rw [e] at a
  simp [F_read_work, b_read_work, a, raiseAt]
/-! ### how it is shown -/
structure Sh (k n : Nat) (d : D) : Prop where
  pl : d.pl k = true
  sh : d.py.showable = true
  len : d.py.shown.length ≤ n
theorem sh_str {k : Nat} {x : Str} {m : Nat} (h : ∀ c ∈ tl x, c < 128) (hm : x.length ≤ m) : Sh k (10 * m + 2) (.str x) := by
  refine ⟨pl_str k x, by rw [py_str, PyData.showable], ?_⟩
  rw [py_str, PyData.shown]
  have := StrLaws.reprText_len x fun c hc => Nat.lt_trans (h c hc) (by decide)
  omega
theorem sh_int {k : Nat} {i : Int} (h : i.natAbs < lim400) : Sh k 401 (.int i) := by
  refine ⟨pl_int k i, by rw [py_int, PyData.showable]; exact decide_eq_true (log2_lt h), ?_⟩
  rw [py_int, PyData.shown]; exact sI_len h
theorem Sh.up {k n m : Nat} {d : D} (h : Sh k n d) (l : n ≤ m) : Sh k m d := ⟨h.pl, h.sh, Nat.le_trans h.len l⟩
theorem sh_all {k n : Nat} : ∀ (ds : List D), (∀ d ∈ ds, Sh k n d) → PyData.showableAll (D.pyAll ds) = true ∧ ((PyData.shownAll (D.pyAll ds)).map (·.length)).sum ≤ ds.length * n ∧ (PyData.shownAll (D.pyAll ds)).length = ds.length
  | [], _ => by rw [pyAll_nil, PyData.showableAll, PyData.shownAll]; simp
  | d :: ds, h => by
    have ih := sh_all ds fun e he => h e (List.mem_cons_of_mem _ he)
    have hd := h d List.mem_cons_self
    rw [pyAll_cons, PyData.showableAll, PyData.shownAll]
    refine ⟨by rw [hd.sh, ih.1]; rfl, ?_, by simp [ih.2.2]⟩
    have := hd.len
    have := ih.2.1
    rw [List.map_cons, List.sum_cons, List.length_cons, Nat.succ_mul]; omega
theorem sh_lst {k n : Nat} {ds : List D} (h : ∀ d ∈ ds, Sh k n d) : Sh (k + 1) (ds.length * (n + 2) + 3) (.lst ds) := by
  have a := sh_all ds h
  refine ⟨?_, by rw [py_lst, PyData.showable]; exact a.1, ?_⟩
  · rw [pl_lst, List.all_eq_true]; exact fun d hd => (h d hd).pl
  · rw [py_lst, PyData.shown]
    have := listText_len_le (PyData.shownAll (D.pyAll ds))
    rw [a.2.2] at this
    have := a.2.1
    rw [Nat.mul_add]; omega
theorem sh_tup {k n : Nat} {ds : List D} (h : ∀ d ∈ ds, Sh k n d) : Sh (k + 1) (ds.length * (n + 2) + 3) (.tup ds) := by
  have a := sh_all ds h
  refine ⟨?_, by rw [py_tup, PyData.showable]; exact a.1, ?_⟩
  · rw [pl_tup, List.all_eq_true]; exact fun d hd => (h d hd).pl
  · rw [py_tup, PyData.shown]
    have := tupleText_len_le (PyData.shownAll (D.pyAll ds))
    rw [a.2.2] at this
    have := a.2.1
    rw [Nat.mul_add]; omega
theorem kRepr_of {d : D} {n : Nat} (h : Sh deep n d) (hn : n ≤ 16777216) (hs : isSeqD d = true) : kRepr d = some (false, .str d.py.shown) := by
  have : (d.pl deep && d.py.showable && decide (d.py.shown.length ≤ 16777216) && isSeqD d) = true := by
    rw [h.pl, h.sh, decide_eq_true (Nat.le_trans h.len hn), hs]; rfl
  show (if (d.pl deep && d.py.showable && decide (d.py.shown.length ≤ 16777216) && isSeqD d) = true then _ else _) = _
  rw [if_pos this]
theorem v__law_same {d : D} {n : Nat} (h : Sh deep n d) (hn : n ≤ 16777216) (hs : isSeqD d = true) (w : W) : F__law_same [d, d] w = .ok (false, .bl true) w := by
  have := kRepr_of h hn hs
  simp [F__law_same, b__law_same, this]
theorem nameB_small {x : Str} (h : nameB x = true) : ∀ c ∈ tl x, c < 128 := by
  unfold nameB at h
  rw [Bool.and_eq_true, List.all_eq_true] at h
  have l : ∀ c ∈ lets, c < 128 := by decide +kernel
  exact fun c hc => l c (of_decide_eq_true (h.2 c hc))
theorem sh_s {k : Nat} {x : Str} (h : ∀ c ∈ tl x, c < 128) (hm : x.length ≤ 100) : Sh k 1002 (.str x) := sh_str h hm
theorem sh_f {k : Nat} {p q : Int} (hp : p.natAbs < lim400) (hq : q.natAbs < lim400) : Sh (k + 1) 1002 (.tup [.int p, .int q]) :=
  (sh_tup (n := 401) (fun d hd => by
    simp only [List.mem_cons, List.not_mem_nil, or_false] at hd
    rcases hd with rfl | rfl
    · exact sh_int hp
    · exact sh_int hq)).up (by simp)
theorem sh_wk {j : Nat} {k : Wk} (h : k.Ok) : Sh (j + 2) 5000 k.d := by
  have st : ∀ s : String, s = "tell" ∨ s = "take" ∨ s = "scale" → (∀ c ∈ tl (Str.ofString s), c < 128) ∧ (Str.ofString s).length ≤ 100 := by
    intro s hs
    rcases hs with rfl | rfl | rfl <;> decide +kernel
  obtain ⟨b, bd⟩ := h
  cases k with
  | tell a c p q =>
    simp only [Wk.okB, Bool.and_eq_true] at b
    have l1 := nameB_len b.1.1
    have l2 := nameB_len b.1.2
    refine (sh_tup (n := 1002) fun d hd => ?_).up (by simp [Wk.pts])
    simp only [Wk.pts, List.map_cons, List.map_nil, List.mem_cons, List.not_mem_nil, or_false, Pt.d] at hd
    rcases hd with rfl | rfl | rfl | rfl
    · exact sh_s (st "tell" (by simp)).1 (st "tell" (by simp)).2
    · exact sh_s (nameB_small b.1.1) (by omega)
    · exact sh_s (nameB_small b.1.2) (by omega)
    · exact sh_f bd.2.2.1 bd.2.2.2
  | take a c =>
    simp only [Wk.okB, Bool.and_eq_true] at b
    have l1 := nameB_len b.1
    have l2 := nameB_len b.2
    refine (sh_tup (n := 1002) fun d hd => ?_).up (by simp [Wk.pts])
    simp only [Wk.pts, List.map_cons, List.map_nil, List.mem_cons, List.not_mem_nil, or_false, Pt.d] at hd
    rcases hd with rfl | rfl | rfl
    · exact sh_s (st "take" (by simp)).1 (st "take" (by simp)).2
    · exact sh_s (nameB_small b.1) (by omega)
    · exact sh_s (nameB_small b.2) (by omega)
  | scale a p q =>
    simp only [Wk.okB, Bool.and_eq_true] at b
    have l1 := nameB_len b.1
    refine (sh_tup (n := 1002) fun d hd => ?_).up (by simp [Wk.pts])
    simp only [Wk.pts, List.map_cons, List.map_nil, List.mem_cons, List.not_mem_nil, or_false, Pt.d] at hd
    rcases hd with rfl | rfl | rfl
    · exact sh_s (st "scale" (by simp)).1 (st "scale" (by simp)).2
    · exact sh_s (nameB_small b.1) (by omega)
    · exact sh_f bd.2.1 bd.2.2
end K72
set_option maxHeartbeats 4000000
namespace PV
open PySem L2
def hndK : Option Sl → W → Option Dr
  | some (.fz .hnd), w => w
  | _, _ => none
@[simp] theorem u_hnd (i : Nat) (l : List Sl) (w : W) (n : Nat) : hndAt i ⟨l, w, n⟩ = hndK l[i]? w := by
  unfold hndAt hndK
  dsimp only
  cases l[i]? with
  | none => rfl
  | some s =>
    cases s with
    | no => rfl
    | ow d => rfl
    | fz d => cases d <;> rfl
@[simp] theorem u_hndK (w : W) : hndK (some (.fz .hnd)) w = w := rfl
def wgK (k : Dr → D) (st : S) : Option Dr → R Vl
  | some dr => .ok (false, k dr) st
  | none => .bad
@[simp] theorem u_wget (i : Nat) (k : Dr → D) (st : S) : wgetE i k st = wgK k st (hndAt i st) := by
  unfold wgetE wgK; cases hndAt i st <;> rfl
@[simp] theorem u_wgK (k : Dr → D) (st : S) (dr : Dr) : wgK k st (some dr) = .ok (false, k dr) st := rfl
def wpK (i : Nat) (up : Dr → Int → Dr) : Vl → S → R Fl
  | (_, .int n), st => (match hndAt i st with | some dr => .ok .nx { st with w := some (up dr n) } | none => .bad)
  | _, _ => .bad
@[simp] theorem u_wput (i : Nat) (up : Dr → Int → Dr) (f : DE) (st : S) : wputS i up f st = (f st).bind (wpK i up) := by
  refine congrArg (f st).bind (funext fun a => funext fun st => ?_)
  obtain ⟨b, d⟩ := a
  cases d with
  | int n => cases h : hndAt i st <;> simp [wpK, h]
  | _ => rfl
def wp1 (up : Dr → Int → Dr) (n : Int) (st : S) : Option Dr → R Fl
  | some dr => .ok .nx { st with w := some (up dr n) }
  | none => .bad
@[simp] theorem u_wpK (i : Nat) (up : Dr → Int → Dr) (b : Bool) (n : Int) (st : S) : wpK i up (b, .int n) st = wp1 up n st (hndAt i st) := by
  cases h : hndAt i st <;> simp [wpK, wp1, h]
@[simp] theorem u_wp1 (up : Dr → Int → Dr) (n : Int) (l : List Sl) (w : W) (m : Nat) (dr : Dr) : wp1 up n ⟨l, w, m⟩ (some dr) = .ok .nx ⟨l, some (up dr n), m⟩ := rfl
def wnK (st : S) : Option Dr → R Bool
  | some dr => .ok (!dr.large.isEmpty) st
  | none => .bad
@[simp] theorem u_wne (i : Nat) (st : S) : wneT i st = wnK st (hndAt i st) := by
  unfold wneT wnK; cases hndAt i st <;> rfl
@[simp] theorem u_wnK (st : S) (dr : Dr) : wnK st (some dr) = .ok (!dr.large.isEmpty) st := rfl
def wqK (st : S) : Option Dr → R Vl
  | some dr => (match dr.large with
    | n :: r => .ok (false, .int n) { st with w := some { dr with large := r } }
    | [] => .bad)
  | none => .bad
@[simp] theorem u_wpop (i : Nat) (st : S) : wpopE i st = wqK st (hndAt i st) := by
  unfold wpopE wqK; cases hndAt i st <;> rfl
@[simp] theorem u_wqK (l : List Sl) (w : W) (m : Nat) (n : Int) (r cs : List Int) (rest turn : Int) : wqK ⟨l, w, m⟩ (some ⟨n :: r, cs, rest, turn⟩) = .ok (false, .int n) ⟨l, some ⟨r, cs, rest, turn⟩, m⟩ := rfl
theorem kMul_int {a b : Int} (ha : a.natAbs < 2 ^ 4000) (hb : b.natAbs < 2 ^ 4000) : k1 fMul (.int a) (.int b) = some (false, .int (a * b)) := by
  have lg : ∀ n : Nat, n < 2 ^ 4000 → n.log2 < 4000 := fun n h => by
    by_cases z : n = 0
    · subst z; decide
    · exact (Nat.log2_lt z).2 h
  have := lg _ ha
  have := lg _ hb
  rw [k1_int]
  unfold fMul
  rw [if_pos (by omega)]; rfl
theorem kSub_int (a b : Int) : k1 fSub (.int a) (.int b) = some (false, .int (a - b)) := rfl
theorem kMod_int {a b : Int} (h : 0 < b) : k1 fMod (.int a) (.int b) = some (false, .int (a % b)) := by
  rw [k1_int]; unfold fMod
  rw [if_pos (by omega), Int.fmod_eq_emod_of_nonneg _ (by omega)]; rfl
theorem kDiv_int {a b : Int} (h : 0 < b) (hb : b.natAbs < 2 ^ 4000) : k1 fDiv (.int a) (.int b) = some (false, .int (a / b)) := by
  have : b.natAbs.log2 < 4000 := (Nat.log2_lt (by omega)).2 hb
  rw [k1_int]; unfold fDiv
  rw [if_pos ⟨by omega, by omega⟩, Int.fdiv_eq_ediv_of_nonneg _ (by omega)]; rfl
end PV
namespace K72
open PySem PySem.Spec PyProof.Rows L2 PV TL
theorem kInt_int (i : Int) : kInt (.int i) = some (false, .int i) := rfl
theorem pw (k : Nat) (h : k ≤ 4000) {n : Nat} (hn : n < 2 ^ k) : n < 2 ^ 4000 := Nat.lt_of_lt_of_le hn (Nat.pow_le_pow_right (by decide) h)
/-- a blend of the cells -/
theorem cells_loop (w : W) (n : Nat) (h0 : Sl) (prime turn : Int) (f0 : Sl) (hp : 0 < prime) (hp2 : prime < 2 ^ 31) : ∀ (xs : List Int) (blend : Int) (s : Sl), blend.natAbs < 2 ^ 64 → ∃ (b' : Int) (s' : Sl), b'.natAbs < 2 ^ 64 ∧
    forL (.nm 5) (seqS (setS 4 (bE (k1 fMod) (oE1 kInt (.ex (bE kAdd (bE kAdd (bE (k1 fMul) (nE 4) (cE (.int 69621))) (nE 5)) (nE 2)))) (nE 1))) nxS) (dI xs) ⟨[h0, .fz (.int prime), .fz (.int turn), f0, .fz (.int blend), s], w, n⟩
      = .ok .nx ⟨[h0, .fz (.int prime), .fz (.int turn), f0, .fz (.int b'), s'], w, n⟩ := by
  intro xs
  induction xs with
  | nil => intro blend s h; exact ⟨blend, s, h, rfl⟩
  | cons x xs ih =>
    intro blend s h
    have km := kMul_int (a := blend) (b := 69621) (pw 64 (by decide) h) (by decide)
    have kd := kMod_int (a := blend * 69621 + x + turn) hp
    have lt := Int.emod_lt_of_pos (blend * 69621 + x + turn) hp
    have ge := Int.emod_nonneg (blend * 69621 + x + turn) (by omega : prime ≠ 0)
    obtain ⟨b', s', hb, e⟩ := ih ((blend * 69621 + x + turn) % prime) (.fz (.int x)) (by omega)
    refine ⟨b', s', hb, ?_⟩
    rw [← e]
    simp [forL, Tg.put, turnK, km, kd, kAdd_int, kInt_int]
theorem primes_loop (dr : Dr) (n : Nat) (turn : Int) (ht : turn.natAbs < 2 ^ 40) : ∀ (ps : List Int) (s1 s4 s5 : Sl) (found : Int) (B : Nat), (∀ p ∈ ps, 0 < p ∧ p < 2 ^ 31) → 64 ≤ B → found.natAbs < 2 ^ B → B + 40 * ps.length ≤ 3000 →
    ∃ (f' : Int) (t1 t4 t5 : Sl), forL (.nm 1) (seqS (setS 4 (bE kAdd (bE (k1 fMul) (cE (.int 48271)) (nE 2)) (bE (k1 fDiv) (nE 1) (cE (.int 37))))) (seqS (forS (itE (wgetE 0 (fun dr => .lst (dr.cells.map .int)))) (.nm 5) (seqS (setS 4 (bE (k1 fMod) (oE1 kInt (.ex (bE kAdd (bE kAdd (bE (k1 fMul) (nE 4) (cE (.int 69621))) (nE 5)) (nE 2)))) (nE 1))) nxS)) (seqS (setS 3 (bE kAdd (bE (k1 fMul) (nE 3) (cE (.int 2147483648))) (nE 4))) nxS))) (dI ps)
      ⟨[.fz .hnd, s1, .fz (.int turn), .fz (.int found), s4, s5], some dr, n⟩ = .ok .nx ⟨[.fz .hnd, t1, .fz (.int turn), .fz (.int f'), t4, t5], some dr, n⟩ := by
  intro ps
  induction ps with
  | nil => intro s1 s4 s5 found B _ _ _ _; exact ⟨found, s1, s4, s5, rfl⟩
  | cons p ps ih =>
    intro s1 s4 s5 found B hp hB hf hl
    have hp0 := hp p List.mem_cons_self
    have km := kMul_int (a := 48271) (b := turn) (by decide) (pw 40 (by decide) ht)
    have kd := kDiv_int (a := p) (b := 37) (by decide) (by decide)
    have lb : (48271 * turn + p / 37).natAbs < 2 ^ 64 := by omega
    obtain ⟨b', s', hb', e⟩ := cells_loop (some dr) n (.fz .hnd) p turn (.fz (.int found)) hp0.1 hp0.2 dr.cells (48271 * turn + p / 37) s5 lb
    rw [List.length_cons] at hl
    have km2 := kMul_int (a := found) (b := 2147483648) (pw B (by omega) hf) (by decide)
    have lf : (found * 2147483648 + b').natAbs < 2 ^ (B + 40) := by
      have a1 : (found * 2147483648 + b').natAbs ≤ found.natAbs * 2147483648 + b'.natAbs := by
        refine Nat.le_trans (Int.natAbs_add_le _ _) ?_
        rw [Int.natAbs_mul]; exact Nat.le_refl _
      have a2 : 2 ^ (B + 40) = 2 ^ B * 2 ^ 40 := Nat.pow_add 2 B 40
      have a3 : b'.natAbs < 2 ^ B := Nat.lt_of_lt_of_le hb' (Nat.pow_le_pow_right (by decide) hB)
      rw [a2]
      generalize 2 ^ B = P at hf a3 ⊢
      have : (2 : Nat) ^ 40 = 1099511627776 := by decide
      rw [this]; omega
    obtain ⟨f', t1, t4, t5, e2⟩ := ih (.fz (.int p)) (.fz (.int b')) s' (found * 2147483648 + b') (B + 40) (fun q hq => hp q (List.mem_cons_of_mem _ hq)) (by omega) lf (by omega)
    refine ⟨f', t1, t4, t5, ?_⟩
    rw [← e2]
    show (R.bind _ _) = _
    simp [forL, Tg.put, turnK, km, kd, kAdd_int, e, km2]
theorem v__law_mixed (dr : Dr) (ht : dr.turn.natAbs < 2 ^ 30) : ∃ v : Int, F__law_mixed [.hnd] (some dr) = .ok (false, .int v) (some { dr with turn := dr.turn + 1 }) := by
  obtain ⟨f', t1, t4, t5, e⟩ := primes_loop { dr with turn := dr.turn + 1 } 0 (dr.turn + 1) (by omega) [2147483647, 2147483629, 2147483587, 2147483579] .no .no .no 0 64 (by decide) (by decide) (by decide) (by decide)
  refine ⟨f', ?_⟩
  simp only [dI, List.map_cons, List.map_nil] at e
  simp [F__law_mixed, b__law_mixed, kAdd_int]
  rw [e]
  simp
structure DrOK (n : Nat) (w : W) : Prop where
  ex : ∃ dr, w = some dr ∧ dr.turn.natAbs ≤ n
theorem DrOK.up {n m : Nat} {w : W} (h : DrOK n w) (l : n ≤ m) : DrOK m w := by
  obtain ⟨dr, e, h⟩ := h.ex
  exact ⟨dr, e, Nat.le_trans h l⟩
theorem v__law_take {n : Nat} {w : W} (h : DrOK n w) (hn : n ≤ 1000000) {m : Int} (hm : 0 < m) (hm2 : m.natAbs < 2 ^ 4000) : ∃ v w', F__law_take [.hnd, .int m] w = .ok (false, .int v) w' ∧ (0 ≤ v ∧ v < m) ∧ DrOK (n + 1) w' := by
  obtain ⟨dr, rfl, ht⟩ := h.ex
  obtain ⟨large, cells, rest, turn⟩ := dr
  have kd : ∀ a : Int, k1 fDiv (.int a) (.int m) = _ := fun a => kDiv_int (a := a) hm hm2
  have kr : ∀ a : Int, k1 fMod (.int a) (.int m) = _ := fun a => kMod_int (a := a) hm
  have rg : ∀ a : Int, 0 ≤ a % m ∧ a % m < m := fun a => ⟨Int.emod_nonneg a (by omega), Int.emod_lt_of_pos a hm⟩
  by_cases hr : rest = 0
  · cases large with
    | nil =>
      obtain ⟨v, e⟩ := v__law_mixed ⟨[], cells, rest, turn⟩ (by show turn.natAbs < 2 ^ 30; have : turn.natAbs ≤ n := ht; omega)
      refine ⟨v % m, some ⟨[], cells, v / m, turn + 1⟩, ?_, rg v, ⟨_, rfl, by show (turn + 1).natAbs ≤ n + 1; have : turn.natAbs ≤ n := ht; omega⟩⟩
      simp [F__law_take, b__law_take, hr, e, kInt_int, kd, kr]
      simp [hr] at e
      simp [e, kInt_int, kd, kr]
    | cons x large =>
      refine ⟨x % m, some ⟨large, cells, x / m, turn⟩, ?_, rg x, ⟨_, rfl, by show turn.natAbs ≤ n + 1; have : turn.natAbs ≤ n := ht; omega⟩⟩
      simp [F__law_take, b__law_take, hr, kInt_int, kd, kr]
  · refine ⟨rest % m, some ⟨large, cells, rest / m, turn⟩, ?_, rg rest, ⟨_, rfl, by show turn.natAbs ≤ n + 1; have : turn.natAbs ≤ n := ht; omega⟩⟩
    simp [F__law_take, b__law_take, hr, kInt_int, kd, kr]
theorem v__law_pick {n : Nat} {w : W} (h : DrOK n w) (hn : n ≤ 1000000) (ds : List D) (hd : ds ≠ []) (hl : ds.length ≤ 1000000) : ∃ d w', F__law_pick [.hnd, .lst ds] w = .ok (false, d) w' ∧ d ∈ ds ∧ DrOK (n + 1) w' := by
  have hp : 0 < ds.length := List.length_pos_iff.2 hd
  obtain ⟨v, w', e, ⟨h0, h1⟩, ok⟩ := v__law_take h hn (m := (ds.length : Int)) (by omega) (by
    rw [Int.natAbs_natCast]
    exact Nat.lt_of_le_of_lt hl (pw 20 (by decide) (by decide)))
  have hv : v.toNat < ds.length := by omega
  have ix := kIx_lst ds v.toNat ds[v.toNat] (List.getElem?_eq_getElem hv)
  rw [Int.toNat_of_nonneg h0] at ix
  refine ⟨ds[v.toNat], w', ?_, List.getElem_mem hv, ok⟩
  simp [F__law_pick, b__law_pick, e, ix]
end K72
set_option maxHeartbeats 4000000
namespace PV
open PySem L2
def meK2 (i : Nat) (k : MD) (ds : List D) (st : S) : Option Sl → R Vl
  | some (.ow d) => (match k d ds with
    | some (d', r) => .ok (false, r) { st with env := st.env.set i (.ow d') }
    | none => .bad)
  | _ => .bad
def meK1 (ty : D → Bool) (i : Nat) (k : MD) (h : DA) (st : S) : Option Sl → R Vl
  | some (.ow d0) => if ty d0 = true then (h st).bind fun ds st1 => meK2 i k ds st1 st1.env[i]? else .bad
  | _ => .bad
@[simp] theorem u_meE (ty : D → Bool) (i : Nat) (k : MD) (h : DA) (l : List Sl) (w : W) (n : Nat) : meE ty i k h ⟨l, w, n⟩ = meK1 ty i k h ⟨l, w, n⟩ l[i]? := by
  unfold meE meK1
  dsimp only
  cases l[i]? with
  | none => rfl
  | some s => cases s <;> rfl
@[simp] theorem u_meK1 (ty : D → Bool) (i : Nat) (k : MD) (h : DA) (st : S) (d0 : D) (e : ty d0 = true) : meK1 ty i k h st (some (.ow d0)) = (h st).bind fun ds st1 => meK2 i k ds st1 st1.env[i]? := if_pos e
def mrK (i : Nat) (st : S) : Option (D × D) → R Vl
  | some (d', r) => .ok (false, r) { st with env := st.env.set i (.ow d') }
  | none => .bad
@[simp] theorem u_meK2 (i : Nat) (k : MD) (ds : List D) (st : S) (d : D) : meK2 i k ds st (some (.ow d)) = mrK i st (k d ds) := by
  cases h : k d ds <;> simp [meK2, mrK, h]
@[simp] theorem u_mrK (i : Nat) (l : List Sl) (w : W) (n : Nat) (d' r : D) : mrK i ⟨l, w, n⟩ (some (d', r)) = .ok (false, r) ⟨l.set i (.ow d'), w, n⟩ := rfl
@[simp] theorem u_meL (i : Nat) (k : MD) (h : DA) (st : S) (xs : List D) : meK1 isL i k h st (some (.ow (.lst xs))) = (h st).bind fun ds st1 => meK2 i k ds st1 st1.env[i]? := rfl
theorem erase_map {α β : Type} (f : α → β) : ∀ (l : List α) (i : Nat), (l.map f).eraseIdx i = (l.eraseIdx i).map f
  | [], _ => rfl
  | _ :: _, 0 => rfl
  | x :: l, i + 1 => by
    show f x :: (l.map f).eraseIdx i = f x :: (l.eraseIdx i).map f
    rw [erase_map f l i]
theorem isL_lst (xs : List D) : isL (.lst xs) = true := rfl
theorem kAppend_of (xs : List D) (y : D) (h : xs.length < 1000000) : kAppend (.lst xs) [y] = some (.lst (xs ++ [y]), .non) := if_pos h
theorem kPopAt_of (xs : List D) (j : Nat) (y : D) (h : xs[j]? = some y) (hl : xs.length ≤ 1000000) : kPopAt (.lst xs) [.int (j : Int)] = some (.lst (xs.eraseIdx j), y) := by
  have hj : j < xs.length := by
    rcases Nat.lt_or_ge j xs.length with z | z
    · exact z
    · rw [List.getElem?_eq_none z] at h; cases h
  have e : ixN xs.length (j : Int) = some j := by
    unfold ixN
    rw [if_pos (by omega), if_pos (by omega)]; simp
  have e1 : kPopAt (.lst xs) [.int (j : Int)] = if -(2 ^ 63) ≤ (j : Int) ∧ (j : Int) < 2 ^ 63 then (ixN xs.length (j : Int)).bind fun j => (xs[j]?).map fun y => (.lst (xs.eraseIdx j), y) else none := rfl
  rw [e1, if_pos ⟨by omega, by omega⟩, e]
  show (xs[j]?).map _ = _
  rw [h]; rfl
end PV
namespace K72
open PySem PySem.Spec PyProof.Rows L2 PV TL
theorem shuf_loop (s1 : Sl) : ∀ (m : Nat) (left found : List Str) (n : Nat) (w : W), left.length = m → DrOK n w → n + m ≤ 1000 → found.length + m ≤ 1000 → ∃ (ys : List Str) (w' : W), ys.length = m ∧ (∀ y ∈ ys, y ∈ left) ∧ DrOK (n + m) w' ∧
    whS (bT (oE2 (kCmp .NotEq) (.var 2) (.ex (lstE aNil)))) (seqS (dropS (meE isL 3 kAppend (aCons (meE isL 2 kPopAt (aCons (callE F__law_take (aCons (nE 0) (aCons (oE1 kLenA (.var 2)) aNil))) aNil)) aNil))) nxS) ⟨[.fz .hnd, s1, .ow (.lst (dS left)), .ow (.lst (dS found))], w, 0⟩
      = .ok .nx ⟨[.fz .hnd, s1, .ow (.lst []), .ow (.lst (dS (found ++ ys)))], w', 0⟩ := by
  intro m
  induction m with
  | zero =>
    intro left found n w hl ok _ _
    have : left = [] := List.eq_nil_of_length_eq_zero hl
    subst this
    refine ⟨[], w, rfl, fun _ h => h, ok, ?_⟩
    rw [whS_eq]
    have := kNe_strs0 []
    simp only [dS, List.map_nil] at this
    simp [this]
  | succ m ih =>
    intro left found n w hl ok hn hf
    obtain ⟨v, w1, e, ⟨h0, h1⟩, ok1⟩ := v__law_take ok (by omega) (m := (left.length : Int)) (by omega) (by
      rw [Int.natAbs_natCast]
      exact Nat.lt_of_le_of_lt (by omega : left.length ≤ 1000) (pw 20 (by decide) (by decide)))
    have hv : v.toNat < left.length := by omega
    have ev : v = ((v.toNat : Nat) : Int) := (Int.toNat_of_nonneg h0).symm
    have px := kPopAt_of (dS left) v.toNat (.str left[v.toNat]) (by simp [hv]) (by simp; omega)
    rw [← ev] at px
    have er : (dS left).eraseIdx v.toNat = dS (left.eraseIdx v.toNat) := by
      show (left.map D.str).eraseIdx _ = (left.eraseIdx _).map D.str
      rw [erase_map]
    rw [er] at px
    have ap := kAppend_of (dS found) (.str left[v.toNat]) (by simp; omega)
    have ea : dS found ++ [D.str left[v.toNat]] = dS (found ++ [left[v.toNat]]) := by simp
    rw [ea] at ap
    have ll : (left.eraseIdx v.toNat).length = m := by rw [List.length_eraseIdx]; rw [if_pos hv]; omega
    obtain ⟨ys, w2, l2, mem, ok2, e2⟩ := ih (left.eraseIdx v.toNat) (found ++ [left[v.toNat]]) (n + 1) w1 ll ok1 (by omega) (by simp; omega)
    refine ⟨left[v.toNat] :: ys, w2, by simp [l2], ?_, ok2.up (by omega), ?_⟩
    · intro y hy
      rcases List.mem_cons.1 hy with rfl | hy
      · exact List.getElem_mem hv
      · exact List.mem_of_mem_eraseIdx (mem y hy)
    · rw [whS_eq]
      have ne : ¬ left = [] := fun h => by rw [h] at hl; simp at hl
      have kn := kNe_strs0 left
      rw [decide_eq_false ne] at kn
      have lenA : kLenA (.lst (dS left)) = some (false, .int (left.length : Int)) := by rw [kLenA_lst]; simp
      have e2' := e2
      rw [List.append_assoc, List.singleton_append] at e2'
      generalize dS (found ++ left[v.toNat] :: ys) = res at e2' ⊢
      generalize dS (found ++ [left[v.toNat]]) = fd' at ap e2'
      generalize dS found = fd at ap
      generalize dS (left.eraseIdx v.toNat) = lf' at px e2'
      generalize dS left = lf at px kn lenA
      simp only [u_ne] at e2'
      simp [kn, lenA, e, px, ap, isL_lst, turnK]
      exact e2'
theorem v__law_shuffled {n : Nat} {w : W} (h : DrOK n w) (xs : List Str) (hn : n + xs.length ≤ 1000) : ∃ (ys : List Str) (w' : W), F__law_shuffled [.hnd, .lst (dS xs)] w = .ok (true, .lst (dS ys)) w' ∧ ys.length = xs.length ∧ (∀ y ∈ ys, y ∈ xs) ∧ DrOK (n + xs.length) w' := by
  obtain ⟨ys, w', l, m, ok, e⟩ := shuf_loop (.fz (.lst (dS xs))) xs.length xs [] n w rfl h hn (by simp; omega)
  refine ⟨ys, w', ?_, l, m, ok⟩
  rw [List.nil_append] at e
  generalize dS xs = lx at e ⊢
  generalize dS ys = ly at e ⊢
  simp only [u_ne, dS, List.map_nil] at e
  simp [F__law_shuffled, b__law_shuffled, kList_lst]
  rw [e]
  simp
def poolL : List Str := ["ash", "bay", "elm", "fir", "gum", "holly", "ivy", "oak", "pine", "yew"]
theorem pool_name : ∀ x ∈ poolL, nameB x = true := by decide +kernel
theorem al_str (i j : Str) : PySem.W.alike (.str i) (.str j) = true := by rw [PySem.W.alike]
theorem sortOk_two (a b : Str) : sortOk [.str a, .str b] = true := by
  simp [sortOk, alikeD, selfD, py_str, al_str, pl_str, isLeafC]
theorem sorted_two (a b : Str) : ∃ c d : Str, kSorted (.lst [.str a, .str b]) = some (true, .lst [.str c, .str d]) ∧ (c = a ∨ c = b) ∧ (d = a ∨ d = b) := by
  have e : kSorted (.lst [.str a, .str b]) = if sortOk [.str a, .str b] = true then some (true, .lst (sortD [.str a, .str b])) else none := rfl
  rw [sortOk_two, if_pos rfl] at e
  have p : (sortD [D.str a, D.str b]).Perm [D.str a, D.str b] := List.mergeSort_perm _ _
  have l := p.length_eq
  match hs : sortD [D.str a, D.str b], l with
  | [x, y], _ =>
    have mx : x ∈ [D.str a, D.str b] := p.subset (by rw [hs]; simp)
    have my : y ∈ [D.str a, D.str b] := p.subset (by rw [hs]; simp)
    simp at mx my
    obtain ⟨c, hc, hc'⟩ : ∃ c, x = .str c ∧ (c = a ∨ c = b) := by
      rcases mx with h | h
      · exact ⟨a, h, .inl rfl⟩
      · exact ⟨b, h, .inr rfl⟩
    obtain ⟨d, hd, hd'⟩ : ∃ c, y = .str c ∧ (c = a ∨ c = b) := by
      rcases my with h | h
      · exact ⟨a, h, .inl rfl⟩
      · exact ⟨b, h, .inr rfl⟩
    subst hc hd
    exact ⟨c, d, by rw [e, hs], hc', hd'⟩
theorem v__law_names {n : Nat} {w : W} (h : DrOK n w) (hn : n ≤ 900) : ∃ (a b : Str) (w' : W), F__law_names [.hnd, .int 2] w = .ok (false, .tup [.str a, .str b]) w' ∧ nameB a = true ∧ nameB b = true ∧ DrOK (n + 10) w' := by
  obtain ⟨ys, w', e, l, m, ok⟩ := v__law_shuffled h poolL (by simp [poolL]; omega)
  match ys, l with
  | x :: y :: r, l =>
    obtain ⟨c, d, ks, hc, hd⟩ := sorted_two x y
    refine ⟨c, d, w', ?_, ?_, ?_, ok⟩
    · have tk : cutA (dS (x :: y :: r)) none (some 2) = [.str x, .str y] := by rw [cut2]; rfl
      generalize dS (x :: y :: r) = ds at e tk
      simp only [poolL, dS, List.map_cons, List.map_nil] at e
      simp [F__law_names, b__law_names, e, kSl_lst, tk, ks, kTuple_lst]
    · rcases hc with rfl | rfl
      · exact pool_name _ (m _ (by simp))
      · exact pool_name _ (m _ (by simp))
    · rcases hd with rfl | rfl
      · exact pool_name _ (m _ (by simp))
      · exact pool_name _ (m _ (by simp))
  | [], l => simp [poolL] at l
  | [_], l => simp [poolL] at l
theorem v__law_fraction (a d : Int) (hd : 0 < d) (ha : a.natAbs ≤ 10000) (hd2 : d ≤ 10000) (w : W) : ∃ p q : Int, F__law_fraction [.int a, .int d] w = .ok (false, .tup [.int p, .int q]) w ∧ frB p q = true ∧ p.natAbs ≤ 10000 ∧ q.natAbs ≤ 10000 := by
  have sm : d.natAbs < lim400 := Nat.lt_of_le_of_lt (by omega : d.natAbs ≤ 10000) (by decide +kernel)
  have dv := v__law_divisor a.natAbs d.natAbs sm w
  have gp : 0 < Nat.gcd a.natAbs d.natAbs := Nat.gcd_pos_of_pos_right _ (by omega)
  have gle : Nat.gcd a.natAbs d.natAbs ≤ d.natAbs := Nat.gcd_le_right _ (by omega)
  obtain ⟨p, hp⟩ : ((Nat.gcd a.natAbs d.natAbs : Nat) : Int) ∣ a := Int.ofNat_dvd_left.2 (Nat.gcd_dvd_left _ _)
  obtain ⟨q, hq⟩ : ((Nat.gcd a.natAbs d.natAbs : Nat) : Int) ∣ d := Int.ofNat_dvd_left.2 (Nat.gcd_dvd_right _ _)
  have gg : Nat.gcd a.natAbs d.natAbs = Nat.gcd a.natAbs d.natAbs * Nat.gcd p.natAbs q.natAbs := by
    have e1 : a.natAbs = Nat.gcd a.natAbs d.natAbs * p.natAbs := by
      have := congrArg Int.natAbs hp; rw [Int.natAbs_mul, Int.natAbs_natCast] at this; exact this
    have e2 : d.natAbs = Nat.gcd a.natAbs d.natAbs * q.natAbs := by
      have := congrArg Int.natAbs hq; rw [Int.natAbs_mul, Int.natAbs_natCast] at this; exact this
    have e3 := Nat.gcd_mul_left (Nat.gcd a.natAbs d.natAbs) p.natAbs q.natAbs
    rw [← e1, ← e2] at e3
    exact e3
  generalize hg : Nat.gcd a.natAbs d.natAbs = g at *
  have pa : p.natAbs ≤ a.natAbs := by
    have := congrArg Int.natAbs hp
    rw [Int.natAbs_mul, Int.natAbs_natCast] at this
    rw [this]; exact Nat.le_mul_of_pos_left _ gp
  have qa : q.natAbs ≤ d.natAbs := by
    have := congrArg Int.natAbs hq
    rw [Int.natAbs_mul, Int.natAbs_natCast] at this
    rw [this]; exact Nat.le_mul_of_pos_left _ gp
  have q0 : 0 < q := by
    rcases Int.lt_or_le 0 q with h | h
    · exact h
    · have : (g : Int) * q ≤ 0 := Int.mul_nonpos_of_nonneg_of_nonpos (by omega) h
      omega
  have g1 : Nat.gcd p.natAbs q.natAbs = 1 := by
    have := gg
    rcases Nat.eq_or_lt_of_le (Nat.gcd_pos_of_pos_right p.natAbs (by omega : 0 < q.natAbs)) with h | h
    · exact h.symm
    · have := Nat.mul_lt_mul_of_pos_left h gp
      omega
  refine ⟨p, q, ?_, frB_iff.2 ⟨by omega, g1⟩, by omega, by omega⟩
  have km := kMul_int (a := (g : Int)) (b := 1) (by rw [Int.natAbs_natCast]; exact Nat.lt_of_le_of_lt (by omega : g ≤ 10000) (pw 20 (by decide) (by decide))) (by decide)
  rw [Int.mul_one] at km
  have k1' := kDiv_int (a := a) (b := (g : Int)) (by omega) (by rw [Int.natAbs_natCast]; exact Nat.lt_of_le_of_lt (by omega : g ≤ 10000) (pw 20 (by decide) (by decide)))
  have k2' := kDiv_int (a := d) (b := (g : Int)) (by omega) (by rw [Int.natAbs_natCast]; exact Nat.lt_of_le_of_lt (by omega : g ≤ 10000) (pw 20 (by decide) (by decide)))
  have r1 : a / (g : Int) = p := by rw [hp, Int.mul_ediv_cancel_left _ (by omega)]
  have r2 : d / (g : Int) = q := by rw [hq, Int.mul_ediv_cancel_left _ (by omega)]
  rw [r1] at k1'
  rw [r2] at k2'
  simp [F__law_fraction, b__law_fraction, abs_nat, dv, hd, km, k1', k2']
end K72
set_option maxHeartbeats 4000000
namespace PV
open PySem L2
@[simp] theorem u_callKE (fs : FS) (ix : List Nat) (h : DA) (st : S) : callKE fs ix h st = (h st).bind fun ds st => rfK st (fs (perm ix ds) st.w) := by
  unfold callKE
  rw [u_callE]
  cases h st <;> rfl
@[simp] theorem u_perm0 (d : D) (ds : List D) : perm [0] (d :: ds) = [d] := rfl
end PV
namespace K72
open PySem PySem.Spec PyProof.Rows L2 PV TL
noncomputable def B0 : DS := (setS 3 (callE F__law_names (aCons (nE 1) (aCons (cE (.int 2)) aNil))))
noncomputable def B1 : DS := (setS 4 (callE F__law_fraction (aCons (bE (k1 fSub) (callE F__law_take (aCons (nE 1) (aCons (cE (.int 20001)) aNil))) (cE (.int 10000))) (aCons (bE kAdd (cE (.int 1)) (callE F__law_take (aCons (nE 1) (aCons (callE F__law_pick (aCons (nE 1) (aCons (lstE (aCons (cE (.int 1)) (aCons (cE (.int 4)) (aCons (cE (.int 10000)) aNil)))) aNil))) aNil)))) aNil))))
noncomputable def B2 : DS := (setS 5 (callE F__law_pick (aCons (nE 1) (aCons (lstE (aCons (tupE (aCons (cE (.str "tell")) (aCons (oE2 kIx (.var 3) (.ex (cE (.int 0)))) (aCons (oE2 kIx (.var 3) (.ex (cE (.int 1)))) (aCons (nE 4) aNil))))) (aCons (tupE (aCons (cE (.str "tell")) (aCons (oE2 kIx (.var 3) (.ex (cE (.int 1)))) (aCons (oE2 kIx (.var 3) (.ex (cE (.int 0)))) (aCons (nE 4) aNil))))) (aCons (tupE (aCons (cE (.str "take")) (aCons (oE2 kIx (.var 3) (.ex (cE (.int 1)))) (aCons (oE2 kIx (.var 3) (.ex (cE (.int 0)))) aNil)))) (aCons (tupE (aCons (cE (.str "scale")) (aCons (oE2 kIx (.var 3) (.ex (cE (.int 0)))) (aCons (nE 4) aNil)))) (aCons (tupE (aCons (cE (.str "take")) (aCons (oE2 kIx (.var 3) (.ex (cE (.int 0)))) (aCons (oE2 kIx (.var 3) (.ex (cE (.int 0)))) aNil)))) aNil)))))) aNil))))
noncomputable def B3 : DS := (setS 6 (callE F__law_work_line (aCons (nE 5) aNil)))
noncomputable def B4 : DS := (ifS (notT (bT (callE F__law_same (aCons (lstE (aCons (callE F_work_text (aCons (nE 5) aNil)) (aCons (callE F_read_work (aCons (nE 6) aNil)) (aCons (callKE F_read_work [0] (aCons (callKE F_work_text [0] (aCons (nE 5) aNil)) aNil)) aNil)))) (aCons (lstE (aCons (nE 6) (aCons (nE 5) (aCons (nE 5) aNil)))) aNil))))) (seqS (retS (cE (.bl false))) nxS) nxS)
noncomputable def B5 : DS := (setS 7 (m1S kSplit (nE 6) (cE (.str " "))))
noncomputable def B6 : DS := (parS 11 12 (callE F__law_take (aCons (nE 1) (aCons (oE1 kLenA (.var 7)) aNil))) (callE F__law_take (aCons (nE 1) (aCons (cE (.int 4)) aNil))))
noncomputable def B7 : DS := (ifS (bT (oE2 (kCmp .Eq) (.var 12) (.ex (cE (.int 0))))) (seqS (setS 7 (bE kAdd (slE (.var 7) none (some (nE 11))) (slE (.var 7) (some (bE kAdd (nE 11) (cE (.int 1)))) none))) nxS) (seqS (ifS (bT (oE2 (kCmp .Eq) (.var 12) (.ex (cE (.int 1))))) (seqS (setS 7 (bE kAdd (bE kAdd (slE (.var 7) none (some (nE 11))) (slE (.var 7) (some (nE 11)) (some (bE kAdd (nE 11) (cE (.int 1)))))) (slE (.var 7) (some (nE 11)) none))) nxS) (seqS (ifS (bT (oE2 (kCmp .Eq) (.var 12) (.ex (cE (.int 2))))) (seqS (asgP (pSub 7 (nE 11)) (callE F__law_pick (aCons (nE 1) (aCons (lstE (aCons (cE (.str "")) (aCons (cE (.str "all")) (aCons (cE (.str "zed")) (aCons (cE (.str "0")) (aCons (cE (.str "1")) (aCons (cE (.str "over")) (aCons (cE (.str "10001")) (aCons (cE (.str "-3")) (aCons (cE (.str "take")) (aCons (cE (.str "tell")) (aCons (cE (.str "scale")) (aCons (cE (.str "Ash")) (aCons (cE (.str "7")) aNil)))))))))))))) aNil)))) nxS) (seqS (setS 7 (bE kAdd (nE 7) (lstE (aCons (callE F__law_pick (aCons (nE 1) (aCons (lstE (aCons (cE (.str "")) (aCons (cE (.str "over")) (aCons (cE (.str "1")) (aCons (cE (.str "over 2")) (aCons (cE (.str "zed")) aNil)))))) aNil))) aNil)))) nxS)) nxS)) nxS))
noncomputable def B8 : DS := (setS 8 (m1S kJoin (cE (.str " ")) (nE 7)))
noncomputable def B9 : DS := (setS 9 (cE .non))
noncomputable def B10 : DS := (setS 7 (m1S kSplit (nE 8) (cE (.str " "))))
noncomputable def B11 : DS := (setS 10 (ifE (bT (oE2 (kCmp .In) (.ex (oE2 kIx (.var 7) (.ex (cE (.int 0))))) (.ex (tupE (aCons (cE (.str "tell")) (aCons (cE (.str "take")) aNil)))))) (cE (.int 3)) (ifE (bT (oE2 (kCmp .Eq) (.ex (oE2 kIx (.var 7) (.ex (cE (.int 0))))) (.ex (cE (.str "scale"))))) (cE (.int 2)) (cE (.int 0)))))
noncomputable def B12 : DS := (parS 13 14 (slE (.var 7) (some (nE 10)) none) (oE1 kTuple (.ex (slE (.var 7) none (some (nE 10))))))
noncomputable def B13 : DS := (ifS (andT (bT (oE2 (kCmp .Gt) (.var 10) (.ex (cE (.int 0))))) (bT (oE2 (kCmp .GtE) (.ex (oE1 kLenA (.var 7))) (.var 10)))) (seqS (ifS (bT (oE2 (kCmp .Eq) (.ex (oE2 kIx (.var 7) (.ex (cE (.int 0))))) (.ex (cE (.str "take"))))) (seqS (setS 9 (ifE (bT (oE2 (kCmp .Eq) (.var 13) (.ex (lstE aNil)))) (nE 14) (cE .non))) nxS) (seqS (ifS (andT (bT (oE2 (kCmp .In) (.ex (oE1 kLenA (.var 13))) (.ex (tupE (aCons (cE (.int 1)) (aCons (cE (.int 3)) aNil)))))) (andT (bT (oE2 (kCmp .Eq) (.ex (lcD [15] (itE (stepE 2 (.var 13))) (.nm 15) (notT (bT (callE F__law_is_figures (aCons (nE 15) aNil)))) (nE 15))) (.ex (lstE aNil)))) (orT (bT (oE2 (kCmp .Eq) (.ex (oE1 kLenA (.var 13))) (.ex (cE (.int 1))))) (bT (oE2 (kCmp .Eq) (.ex (oE2 kIx (.var 13) (.ex (cE (.int 1))))) (.ex (cE (.str "over")))))))) (seqS (setS 9 (bE kAdd (nE 14) (tupE (aCons (tupE (aCons (oE1 kInt (.ex (oE2 kIx (.var 13) (.ex (cE (.int 0)))))) (aCons (ifE (bT (oE2 (kCmp .Eq) (.ex (oE1 kLenA (.var 13))) (.ex (cE (.int 3))))) (oE1 kInt (.ex (oE2 kIx (.var 13) (.ex (cE (.int 2)))))) (cE (.int 1))) aNil))) aNil)))) nxS) nxS) nxS)) nxS) nxS)
noncomputable def B14 : DS := (ifS (andT (bT (oE2 (kCmp .IsNot) (.var 9) (.ex (cE .non)))) (orT (notT (bT (callE F__law_is_a_work (aCons (nE 9) aNil)))) (bT (oE2 (kCmp .NotEq) (.ex (callE F__law_work_line (aCons (nE 9) aNil))) (.var 8))))) (seqS (setS 9 (cE .non)) nxS) nxS)
noncomputable def B15 : DS := (ifS (andT (bT (oE2 (kCmp .Is) (.var 9) (.ex (cE .non)))) (notT (bT (callE F__law_same (aCons (errE (callE F_read_work (aCons (nE 8) aNil))) (aCons (tupE (aCons (cE (.str "BadText")) (aCons (cE (.int 0)) aNil))) aNil)))))) (seqS (retS (cE (.bl false))) nxS) nxS)
noncomputable def B16 : DS := (ifS (andT (bT (oE2 (kCmp .IsNot) (.var 9) (.ex (cE .non)))) (notT (bT (callE F__law_same (aCons (lstE (aCons (callE F_read_work (aCons (nE 8) aNil)) (aCons (callE F_work_text (aCons (nE 9) aNil)) aNil))) (aCons (lstE (aCons (nE 9) (aCons (nE 8) aNil))) aNil)))))) (seqS (retS (cE (.bl false))) nxS) nxS)
noncomputable def lawB : DS := (seqS B0 (seqS B1 (seqS B2 (seqS B3 (seqS B4 (seqS B5 (seqS B6 (seqS B7 (seqS B8 (seqS B9 (seqS B10 (seqS B11 (seqS B12 (seqS B13 (seqS B14 (seqS B15 (seqS B16 nxS)))))))))))))))))
theorem b_law_eq : b_law = seqS (setS 1 (callE F__law_begun (aCons (nE 0) aNil))) (seqS (forS (rngI (aCons (bE kAdd (cE (.int 10)) (bE kMin (oE1 kLenA (.var 0)) (cE (.int 10)))) aNil)) (.nm 2) lawB) (seqS (retS (cE (.bl true))) nxS)) := rfl
section
variable {a0 s2 s3 s4 s5 s6 s7 s8 s9 s10 s11 s12 s13 s14 : Sl} {n : Nat} {w : W} {f : Nat}
theorem B0_ok (h : DrOK n w) (hn : n ≤ 900) : ∃ (a b : Str) (w' : W), B0 ⟨[a0, .fz .hnd, s2, s3, s4, s5, s6, s7, s8, s9, s10, s11, s12, s13, s14, .no], w, f⟩ = .ok .nx ⟨[a0, .fz .hnd, s2, .fz (.tup [.str a, .str b]), s4, s5, s6, s7, s8, s9, s10, s11, s12, s13, s14, .no], w', f⟩ ∧ nameB a = true ∧ nameB b = true ∧ DrOK (n + 10) w' := by
  obtain ⟨a, b, w', e, ha, hb, ok⟩ := v__law_names h hn
  exact ⟨a, b, w', by simp [B0, e], ha, hb, ok⟩
theorem B1_ok (h : DrOK n w) (hn : n ≤ 900) : ∃ (p q : Int) (w' : W), B1 ⟨[a0, .fz .hnd, s2, s3, s4, s5, s6, s7, s8, s9, s10, s11, s12, s13, s14, .no], w, f⟩ = .ok .nx ⟨[a0, .fz .hnd, s2, s3, .fz (.tup [.int p, .int q]), s5, s6, s7, s8, s9, s10, s11, s12, s13, s14, .no], w', f⟩ ∧ frB p q = true ∧ p.natAbs ≤ 10000 ∧ q.natAbs ≤ 10000 ∧ DrOK (n + 3) w' := by
  obtain ⟨v, w1, e1, r1, ok1⟩ := v__law_take h (by omega) (m := 20001) (by decide) (by decide)
  obtain ⟨m, w2, e2, r2, ok2⟩ := v__law_pick ok1 (by omega) [.int 1, .int 4, .int 10000] (by simp) (by simp)
  obtain ⟨M, rfl, hm, hm2⟩ : ∃ M : Int, m = .int M ∧ 0 < M ∧ M ≤ 10000 := by
    simp at r2
    rcases r2 with rfl | rfl | rfl
    · exact ⟨1, rfl, by decide, by decide⟩
    · exact ⟨4, rfl, by decide, by decide⟩
    · exact ⟨10000, rfl, by decide, by decide⟩
  obtain ⟨u, w3, e3, r3, ok3⟩ := v__law_take ok2 (by omega) (m := M) hm (Nat.lt_of_le_of_lt (by omega : M.natAbs ≤ 10000) (pw 20 (by decide) (by decide)))
  obtain ⟨p, q, e4, fr, hp, hq⟩ := v__law_fraction (v - 10000) (1 + u) (by omega) (by omega) (by omega) w3
  refine ⟨p, q, w3, ?_, fr, hp, hq, ok3⟩
  simp [B1, e1, kSub_int, e2, e3, kAdd_int, e4]
theorem small_lim {i : Int} (h : i.natAbs ≤ 10000) : i.natAbs < lim400 := Nat.lt_of_le_of_lt h (by decide +kernel)
theorem B2_ok (h : DrOK n w) (hn : n ≤ 900) {a b : Str} {p q : Int} (ha : nameB a = true) (hb : nameB b = true) (fr : frB p q = true) (hp : p.natAbs ≤ 10000) (hq : q.natAbs ≤ 10000) : ∃ (k : Wk) (w' : W), B2 ⟨[a0, .fz .hnd, s2, .fz (.tup [.str a, .str b]), .fz (.tup [.int p, .int q]), s5, s6, s7, s8, s9, s10, s11, s12, s13, s14, .no], w, f⟩ = .ok .nx ⟨[a0, .fz .hnd, s2, .fz (.tup [.str a, .str b]), .fz (.tup [.int p, .int q]), .fz k.d, s6, s7, s8, s9, s10, s11, s12, s13, s14, .no], w', f⟩ ∧ k.Ok ∧ DrOK (n + 1) w' := by
  obtain ⟨d, w', e, m, ok⟩ := v__law_pick h (by omega) [(Wk.tell a b p q).d, (Wk.tell b a p q).d, (Wk.take b a).d, (Wk.scale a p q).d, (Wk.take a a).d] (by simp) (by simp)
  obtain ⟨k, rfl, hk⟩ : ∃ k : Wk, d = k.d ∧ k.Ok := by
    have la := nameB_len ha
    have lb := nameB_len hb
    have sp := small_lim hp
    have sq := small_lim hq
    simp only [List.mem_cons, List.not_mem_nil, or_false] at m
    rcases m with rfl | rfl | rfl | rfl | rfl
    · exact ⟨_, rfl, by simp [Wk.okB, ha, hb, fr], ⟨by omega, by omega, sp, sq⟩⟩
    · exact ⟨_, rfl, by simp [Wk.okB, ha, hb, fr], ⟨by omega, by omega, sp, sq⟩⟩
    · exact ⟨_, rfl, by simp [Wk.okB, ha, hb], ⟨by omega, by omega⟩⟩
    · exact ⟨_, rfl, by simp [Wk.okB, ha, fr], ⟨by omega, sp, sq⟩⟩
    · exact ⟨_, rfl, by simp [Wk.okB, ha], ⟨by omega, by omega⟩⟩
  refine ⟨k, w', ?_, hk, ok⟩
  generalize hd : k.d = kd at e ⊢
  simp only [Wk.d, Wk.pts, List.map_cons, List.map_nil, Pt.d] at e
  simp [B2, e]
theorem B3_ok {k : Wk} (hk : k.Ok) : B3 ⟨[a0, .fz .hnd, s2, s3, s4, .fz k.d, s6, s7, s8, s9, s10, s11, s12, s13, s14, .no], w, f⟩ = .ok .nx ⟨[a0, .fz .hnd, s2, s3, s4, .fz k.d, .fz (.str k.line), s7, s8, s9, s10, s11, s12, s13, s14, .no], w, f⟩ := by
  have e := v__law_work_lineK k hk w
  simp [B3, e]
theorem join_len_le (xs : List Str) (b : Nat) (h : ∀ x ∈ xs, x.length ≤ b) : (Txt.join spc xs).length ≤ xs.length * (b + 1) := by
  rw [join_eq]
  refine Nat.le_trans (StrLaws.join_length_le spc xs) ?_
  have := sum_le (xs.map (·.length)) b (fun n hn => by
    obtain ⟨x, hx, rfl⟩ := List.mem_map.1 hn
    exact h x hx)
  rw [List.length_map] at this
  have e : spc.length = 1 := rfl
  rw [e, Nat.mul_add]; omega
theorem join_small : ∀ (xs : List Str), (∀ x ∈ xs, ∀ c ∈ tl x, c < 128) → ∀ c ∈ tl (Str.join spc xs), c < 128
  | [], _, c, h => by
    have : tl (Str.join spc []) = [] := rfl
    rw [this] at h; simp at h
  | [x], h, c, hc => h x (by simp) c hc
  | x :: y :: r, h, c, hc => by
    rw [join_cons2, tl_append, tl_append] at hc
    rcases List.mem_append.1 hc with hc | hc
    · rcases List.mem_append.1 hc with hc | hc
      · exact h x (by simp) c hc
      · have e : tl spc = [32] := rfl
        rw [e] at hc; simp at hc; omega
    · exact join_small (y :: r) (fun z hz => h z (List.mem_cons_of_mem _ hz)) c hc
/-- a word of a line -/
structure Wd (x : Str) : Prop where
  len : x.length ≤ 500
  sm : ∀ c ∈ tl x, c < 128
theorem wd_name {x : Str} (h : nameB x = true) : Wd x := ⟨by have := nameB_len h; omega, nameB_small h⟩
theorem wd_num {p : Int} (h : p.natAbs < lim400) : Wd (sI p) := ⟨by have := sI_len h; omega, sI_small p⟩
theorem wd_frac {p q : Int} (hp : p.natAbs < lim400) (hq : q.natAbs < lim400) : ∀ x ∈ fracW p q, Wd x := by
  unfold fracW
  split
  · intro x h; simp at h; rw [h]; exact wd_num hp
  · intro x h; simp at h
    rcases h with h | h | h <;> rw [h]
    · exact wd_num hp
    · exact ⟨by decide +kernel, by decide +kernel⟩
    · exact wd_num hq
theorem wd_words {k : Wk} (hk : k.Ok) : (∀ x ∈ k.words, Wd x) ∧ k.words.length ≤ 6 ∧ 3 ≤ k.words.length := by
  obtain ⟨b, bd⟩ := hk
  have fl : ∀ p q : Int, (fracW p q).length ≤ 3 ∧ 1 ≤ (fracW p q).length := fun p q => by unfold fracW; split <;> simp
  cases k with
  | tell a c p q =>
    simp only [Wk.okB, Bool.and_eq_true] at b
    refine ⟨fun x hx => ?_, by have := fl p q; simp [Wk.words]; omega, by have := fl p q; simp [Wk.words]⟩
    simp only [Wk.words, List.mem_cons] at hx
    rcases hx with rfl | rfl | rfl | hx
    · exact ⟨by decide +kernel, by decide +kernel⟩
    · exact wd_name b.1.1
    · exact wd_name b.1.2
    · exact wd_frac bd.2.2.1 bd.2.2.2 x hx
  | take a c =>
    simp only [Wk.okB, Bool.and_eq_true] at b
    refine ⟨fun x hx => ?_, by simp [Wk.words], by simp [Wk.words]⟩
    simp only [Wk.words, List.mem_cons, List.not_mem_nil, or_false] at hx
    rcases hx with rfl | rfl | rfl
    · exact ⟨by decide +kernel, by decide +kernel⟩
    · exact wd_name b.1
    · exact wd_name b.2
  | scale a p q =>
    simp only [Wk.okB, Bool.and_eq_true] at b
    refine ⟨fun x hx => ?_, by have := fl p q; simp [Wk.words]; omega, by have := fl p q; simp [Wk.words]; omega⟩
    simp only [Wk.words, List.mem_cons] at hx
    rcases hx with rfl | rfl | hx
    · exact ⟨by decide +kernel, by decide +kernel⟩
    · exact wd_name b.1
    · exact wd_frac bd.2.1 bd.2.2 x hx
/-- a text of few words -/
structure Tx (z : Str) : Prop where
  len : z.length ≤ 10000
  sm : ∀ c ∈ tl z, c < 128
theorem tx_join {xs : List Str} (h : ∀ x ∈ xs, Wd x) (hl : xs.length ≤ 10) : Tx (Txt.join spc xs) := by
  refine ⟨?_, by rw [join_eq]; exact join_small xs fun x hx => (h x hx).sm⟩
  have := join_len_le xs 500 fun x hx => (h x hx).len
  omega
theorem tx_line {k : Wk} (hk : k.Ok) : Tx k.line := by
  rw [line_eq]; exact tx_join (wd_words hk).1 (by have := (wd_words hk).2.1; omega)
theorem sh_tx {j : Nat} {z : Str} (h : Tx z) : Sh j 100002 (.str z) := sh_str h.sm h.len
theorem B4_ok {k : Wk} (hk : k.Ok) : B4 ⟨[a0, .fz .hnd, s2, s3, s4, .fz k.d, .fz (.str k.line), s7, s8, s9, s10, s11, s12, s13, s14, .no], w, f⟩ = .ok .nx ⟨[a0, .fz .hnd, s2, s3, s4, .fz k.d, .fz (.str k.line), s7, s8, s9, s10, s11, s12, s13, s14, .no], w, f⟩ := by
  have tx := tx_line hk
  have e1 := v_work_text k hk w
  have e2 := v_read_yes k.line (by have := tx.len; omega) w k (res_line hk).2
  have sh : Sh deep 1000000 (.lst [.str k.line, k.d, k.d]) := (sh_lst (k := 15) (n := 100002) (fun d hd => by
    simp only [List.mem_cons, List.not_mem_nil, or_false] at hd
    rcases hd with rfl | rfl | rfl
    · exact sh_tx tx
    · exact (sh_wk hk).up (by decide)
    · exact (sh_wk hk).up (by decide))).up (by simp)
  have sm := v__law_same sh (by decide) rfl w
  generalize k.d = kd at *
  generalize k.line = kl at *
  simp [B4, e1, e2, sm]
theorem B5_ok {k : Wk} (hk : k.Ok) : B5 ⟨[a0, .fz .hnd, s2, s3, s4, s5, .fz (.str k.line), s7, s8, s9, s10, s11, s12, s13, s14, .no], w, f⟩ = .ok .nx ⟨[a0, .fz .hnd, s2, s3, s4, s5, .fz (.str k.line), .ow (.lst (dS k.words)), s8, s9, s10, s11, s12, s13, s14, .no], w, f⟩ := by
  have tx := tx_line hk
  have sp := kSplit_str k.line spc (by decide +kernel) (by have := tx.len; omega)
  rw [line_split hk.b] at sp
  generalize dS k.words = ws at sp ⊢
  simp [B5, spc_eq, sp]
theorem B6_ok (h : DrOK n w) (hn : n ≤ 900) {ws : List Str} (hl : 0 < ws.length) (hl2 : ws.length ≤ 10) : ∃ (k : Nat) (c : Int) (w' : W), B6 ⟨[a0, .fz .hnd, s2, s3, s4, s5, s6, .ow (.lst (dS ws)), s8, s9, s10, s11, s12, s13, s14, .no], w, f⟩ = .ok .nx ⟨[a0, .fz .hnd, s2, s3, s4, s5, s6, .ow (.lst (dS ws)), s8, s9, s10, .fz (.int (k : Int)), .fz (.int c), s13, s14, .no], w', f⟩ ∧ k < ws.length ∧ DrOK (n + 2) w' := by
  obtain ⟨v, w1, e1, r1, ok1⟩ := v__law_take h (by omega) (m := (ws.length : Int)) (by omega) (by
    rw [Int.natAbs_natCast]
    exact Nat.lt_of_le_of_lt hl2 (pw 20 (by decide) (by decide)))
  obtain ⟨c, w2, e2, r2, ok2⟩ := v__law_take ok1 (by omega) (m := 4) (by decide) (by decide)
  have ev : v = ((v.toNat : Nat) : Int) := (Int.toNat_of_nonneg r1.1).symm
  refine ⟨v.toNat, c, w2, ?_, by omega, ok2⟩
  rw [← ev]
  have lenA : kLenA (.lst (dS ws)) = some (false, .int (ws.length : Int)) := by rw [kLenA_lst]; simp
  generalize dS ws = wd at lenA ⊢
  simp [B6, lenA, e1, e2]
def ex1 : List Str := ["", "all", "zed", "0", "1", "over", "10001", "-3", "take", "tell", "scale", "Ash", "7"]
def ex2 : List Str := ["", "over", "1", "over 2", "zed"]
theorem wd_ex1 : ∀ x ∈ ex1, Wd x := fun x hx => ⟨by revert x hx; decide +kernel, by revert x hx; decide +kernel⟩
theorem wd_ex2 : ∀ x ∈ ex2, Wd x := fun x hx => ⟨by revert x hx; decide +kernel, by revert x hx; decide +kernel⟩
theorem cutN (xs : List D) (k : Nat) : cutA xs none (some (k : Int)) = xs.take k := cutA_take xs k
theorem cutM (xs : List D) (k : Nat) : cutA xs (some (k : Int)) none = xs.drop k := cutA_drop xs k
theorem cutM1 (xs : List D) (k : Nat) : cutA xs (some ((k : Int) + 1)) none = xs.drop (k + 1) := cutA_drop xs (k + 1)
theorem cutB (xs : List D) (k : Nat) (h : k < xs.length) : cutA xs (some (k : Int)) (some ((k : Int) + 1)) = (xs.drop k).take 1 := by
  unfold cutA
  have : ((k : Int) + 1) = ((k + 1 : Nat) : Int) := rfl
  rw [this, HT.sIx_nat, HT.sIx_nat, Nat.min_eq_left (by omega), Nat.min_eq_left (by omega)]
  congr 1; omega
theorem B7_ok (h : DrOK n w) (hn : n ≤ 900) {ws : List Str} {k : Nat} {c : Int} (hl : k < ws.length) (hl2 : ws.length ≤ 8) (hw : ∀ x ∈ ws, Wd x) : ∃ (ys : List Str) (w' : W), B7 ⟨[a0, .fz .hnd, s2, s3, s4, s5, s6, .ow (.lst (dS ws)), s8, s9, s10, .fz (.int (k : Int)), .fz (.int c), s13, s14, .no], w, f⟩ = .ok .nx ⟨[a0, .fz .hnd, s2, s3, s4, s5, s6, .ow (.lst (dS ys)), s8, s9, s10, .fz (.int (k : Int)), .fz (.int c), s13, s14, .no], w', f⟩ ∧ (∀ x ∈ ys, Wd x) ∧ ys.length ≤ 10 ∧ DrOK (n + 1) w' := by
  by_cases c0 : c = 0
  · refine ⟨ws.take k ++ ws.drop (k + 1), w, ?_, ?_, by simp; omega, h.up (by omega)⟩
    · have ka := kAdd_lst ((dS ws).take k) ((dS ws).drop (k + 1)) (by simp; omega)
      have e : (dS ws).take k ++ (dS ws).drop (k + 1) = dS (ws.take k ++ ws.drop (k + 1)) := by simp
      rw [e] at ka
      generalize dS (ws.take k ++ ws.drop (k + 1)) = res at ka ⊢
      generalize dS ws = wd at ka ⊢
      simp [B7, c0, kSl_lst, cutN, cutM1, kAdd_int, ka]
    · intro x hx
      rcases List.mem_append.1 hx with hx | hx
      · exact hw x (List.mem_of_mem_take hx)
      · exact hw x (List.mem_of_mem_drop hx)
  · by_cases c1 : c = 1
    · refine ⟨(ws.take k ++ (ws.drop k).take 1) ++ ws.drop k, w, ?_, ?_, by simp; omega, h.up (by omega)⟩
      · have ka := kAdd_lst ((dS ws).take k) (((dS ws).drop k).take 1) (by simp; omega)
        have kb := kAdd_lst ((dS ws).take k ++ ((dS ws).drop k).take 1) ((dS ws).drop k) (by simp; omega)
        have e : ((dS ws).take k ++ ((dS ws).drop k).take 1) ++ (dS ws).drop k = dS ((ws.take k ++ (ws.drop k).take 1) ++ ws.drop k) := by simp
        have cb := cutB (dS ws) k (by simpa using hl)
        rw [e] at kb
        generalize dS ((ws.take k ++ (ws.drop k).take 1) ++ ws.drop k) = res at kb ⊢
        generalize dS ws = wd at ka kb cb ⊢
        simp [B7, c1, kSl_lst, cutN, cutM, cb, kAdd_int, ka, -List.append_assoc, kb]
      · intro x hx
        rcases List.mem_append.1 hx with hx | hx
        · rcases List.mem_append.1 hx with hx | hx
          · exact hw x (List.mem_of_mem_take hx)
          · exact hw x (List.mem_of_mem_drop (List.mem_of_mem_take hx))
        · exact hw x (List.mem_of_mem_drop hx)
    · by_cases c2 : c = 2
      · obtain ⟨d, w', e, m, ok⟩ := v__law_pick h (by omega) (dS ex1) (by simp [ex1]) (by simp [ex1])
        obtain ⟨x, hx, rfl⟩ := List.mem_map.1 m
        refine ⟨ws.set k x, w', ?_, ?_, by simp; omega, ok⟩
        · have kp : kPut (.lst (dS ws)) (.int (k : Int)) (.str x) = some (.lst (dS (ws.set k x))) := by
            have i : ixN (dS ws).length (k : Int) = some k := by
              unfold ixN
              rw [if_pos (by omega), if_pos (by simpa using hl)]; simp
            show (ixN (dS ws).length (k : Int)).map _ = _
            rw [i]; simp [List.map_set]
          generalize dS (ws.set k x) = res at kp ⊢
          generalize dS ws = wd at kp ⊢
          simp only [ex1, dS, List.map_cons, List.map_nil] at e
          simp [B7, c2, asgP, pSub, onOw, e, kp]
        · intro y hy
          rcases List.mem_or_eq_of_mem_set hy with hy | rfl
          · exact hw y hy
          · exact wd_ex1 _ hx
      · obtain ⟨d, w', e, m, ok⟩ := v__law_pick h (by omega) (dS ex2) (by simp [ex2]) (by simp [ex2])
        obtain ⟨x, hx, rfl⟩ := List.mem_map.1 m
        refine ⟨ws ++ [x], w', ?_, ?_, by simp; omega, ok⟩
        · have ka := kAdd_lst (dS ws) [.str x] (by simp; omega)
          have ea : dS ws ++ [D.str x] = dS (ws ++ [x]) := by simp
          rw [ea] at ka
          generalize dS (ws ++ [x]) = res at ka ⊢
          generalize dS ws = wd at ka ⊢
          simp only [ex2, dS, List.map_cons, List.map_nil] at e
          simp [B7, c0, c1, c2, e, ka]
        · intro y hy
          rcases List.mem_append.1 hy with hy | hy
          · exact hw y hy
          · rw [List.mem_singleton.1 hy]; exact wd_ex2 _ hx
theorem B8_ok {ys : List Str} (hw : ∀ x ∈ ys, Wd x) (hl : ys.length ≤ 10) : B8 ⟨[a0, .fz .hnd, s2, s3, s4, s5, s6, .ow (.lst (dS ys)), s8, s9, s10, s11, s12, s13, s14, .no], w, f⟩ = .ok .nx ⟨[a0, .fz .hnd, s2, s3, s4, s5, s6, .fz (.lst (dS ys)), .fz (.str (Txt.join spc ys)), s9, s10, s11, s12, s13, s14, .no], w, f⟩ := by
  have j := kJoin_lst spc ys (joinOk_spc ys 500 (fun x hx => (hw x hx).len) (by omega))
  generalize dS ys = wd at j ⊢
  simp [B8, spc_eq, j]
theorem B9_ok : B9 ⟨[a0, .fz .hnd, s2, s3, s4, s5, s6, s7, s8, s9, s10, s11, s12, s13, s14, .no], w, f⟩ = .ok .nx ⟨[a0, .fz .hnd, s2, s3, s4, s5, s6, s7, s8, .fz .non, s10, s11, s12, s13, s14, .no], w, f⟩ := by simp [B9]
theorem B10_ok {z : Str} (tx : Tx z) : B10 ⟨[a0, .fz .hnd, s2, s3, s4, s5, s6, s7, .fz (.str z), s9, s10, s11, s12, s13, s14, .no], w, f⟩ = .ok .nx ⟨[a0, .fz .hnd, s2, s3, s4, s5, s6, .ow (.lst (dS (Txt.split z spc))), .fz (.str z), s9, s10, s11, s12, s13, s14, .no], w, f⟩ := by
  have sp := kSplit_str z spc (by decide +kernel) (by have := tx.len; omega)
  generalize dS (Txt.split z spc) = ws at sp ⊢
  simp [B10, spc_eq, sp]
end
end K72
set_option maxHeartbeats 4000000
namespace PV
open PySem L2
theorem stepA_1 (x : D) : stepA [x] (some 2) = [x] := by
  have e : sliceRange (sliceBounds none none (some 2) 1).1 (sliceBounds none none (some 2) 1).2.1 (sliceBounds none none (some 2) 1).2.2 = [0] := by decide +kernel
  show (sliceRange (sliceBounds none none (some 2) 1).1 (sliceBounds none none (some 2) 1).2.1 (sliceBounds none none (some 2) 1).2.2).filterMap (fun i => [x][i]?) = [x]
  rw [e]; rfl
theorem stepA_3 (x y z : D) : stepA [x, y, z] (some 2) = [x, z] := by
  have e : sliceRange (sliceBounds none none (some 2) 3).1 (sliceBounds none none (some 2) 3).2.1 (sliceBounds none none (some 2) 3).2.2 = [0, 2] := by decide +kernel
  show (sliceRange (sliceBounds none none (some 2) 3).1 (sliceBounds none none (some 2) 3).2.1 (sliceBounds none none (some 2) 3).2.2).filterMap (fun i => [x, y, z][i]?) = [x, z]
  rw [e]; rfl
def stpK (i : Int) (st : S) : Option D → R Vl
  | some (.lst ds) => .ok (true, .lst (stepA ds (some i))) st
  | _ => .bad
@[simp] theorem u_stepE (i : Int) (o : Opn) (st : S) : stepE i o st = (o.go st).bind fun d st => stpK i st (o.fin d st) := by
  refine congrArg (o.go st).bind (funext fun d => funext fun st => ?_)
  cases h : o.fin d st with
  | none => simp [stpK, h]
  | some x => cases x <;> simp [stpK, h]
@[simp] theorem u_stpK (i : Int) (st : S) (ds : List D) : stpK i st (some (.lst ds)) = .ok (true, .lst (stepA ds (some i))) st := rfl
def errK (st : S) : R Vl → R Vl
  | .ex e w => (match e.at' with
    | some n => .ok (false, .tup [.str "BadText", .int n]) { frz st with w := w }
    | none => .bad)
  | _ => .bad
@[simp] theorem u_errE (f : DE) (st : S) : errE f st = errK st (f (frz st)) := by
  unfold errE errK
  cases f (frz st) <;> rfl
@[simp] theorem u_frz (l : List Sl) (w : W) (n : Nat) : frz ⟨l, w, n⟩ = ⟨l.map frzSl, w, n⟩ := rfl
@[simp] theorem u_errX (l : List Sl) (w w' : W) (f : Nat) (c : Str) (n : Int) : errK ⟨l, w, f⟩ (.ex ⟨c, some n⟩ w') = .ok (false, .tup [.str "BadText", .int n]) ⟨l.map frzSl, w', f⟩ := rfl
@[simp] theorem u_frzF (d : D) : frzSl (.fz d) = .fz d := rfl
@[simp] theorem u_frzO (d : D) : frzSl (.ow d) = .fz d := rfl
@[simp] theorem u_frzN : frzSl .no = .no := rfl
end PV
namespace K72
open PySem PySem.Spec PyProof.Rows L2 PV TL
theorem kIn_2 (x a b : Str) : kIn (.str x) (.tup [.str a, .str b]) = some (false, .bl (decide (x = a ∨ x = b))) := by
  refine (kIn_tupS x [a, b]).trans ?_; simp
def manyN (w0 : Str) : Nat := if w0 = Str.ofString "tell" ∨ w0 = Str.ofString "take" then 3 else if w0 = Str.ofString "scale" then 2 else 0
def rawD : Option Wk → D
  | some k => k.d
  | none => .non
section
variable {a0 s2 s3 s4 s5 s6 s7 s8 s9 s10 s11 s12 s13 s14 : Sl} {n : Nat} {w : W} {f : Nat}
theorem B11_ok {z w0 : Str} {r : List Str} : B11 ⟨[a0, .fz .hnd, s2, s3, s4, s5, s6, .ow (.lst (dS (w0 :: r))), .fz (.str z), .fz .non, s10, s11, s12, s13, s14, .no], w, f⟩ = .ok .nx ⟨[a0, .fz .hnd, s2, s3, s4, s5, s6, .ow (.lst (dS (w0 :: r))), .fz (.str z), .fz .non, .fz (.int ((manyN w0 : Nat) : Int)), s11, s12, s13, s14, .no], w, f⟩ := by
  have ix : kIx (.lst (dS (w0 :: r))) (.int 0) = some (false, .str w0) := kIx_l0 _ _
  generalize dS (w0 :: r) = wd at ix ⊢
  unfold manyN
  by_cases c1 : w0 = Str.ofString "tell" ∨ w0 = Str.ofString "take"
  · simp [B11, ix, kIn_2, c1]
  · by_cases c2 : w0 = Str.ofString "scale"
    · have c1' : ¬ (Str.ofString "scale" = Str.ofString "tell" ∨ Str.ofString "scale" = Str.ofString "take") := by rw [← c2]; exact c1
      subst c2
      simp [B11, ix, kIn_2, n_st, n_sk]
    · simp [B11, ix, kIn_2, c1, c2]
theorem B12_ok {z : Str} {ws : List Str} {m : Nat} : B12 ⟨[a0, .fz .hnd, s2, s3, s4, s5, s6, .ow (.lst (dS ws)), .fz (.str z), .fz .non, .fz (.int (m : Int)), s11, s12, s13, s14, .no], w, f⟩ = .ok .nx ⟨[a0, .fz .hnd, s2, s3, s4, s5, s6, .ow (.lst (dS ws)), .fz (.str z), .fz .non, .fz (.int (m : Int)), s11, s12, .ow (.lst (dS (ws.drop m))), .fz (.tup (dS (ws.take m))), .no], w, f⟩ := by
  have e1 : dS (ws.drop m) = (dS ws).drop m := by simp
  have e2 : dS (ws.take m) = (dS ws).take m := by simp
  rw [e1, e2]
  generalize dS ws = wd
  simp [B12, kSl_lst, cutM, cutN, kTuple_lst]
theorem figs_lc {it : DI} {st : S} {xs : List Str} (hi : it st = .ok (dS xs) st) (hs : unOw st.env 15) (hl : 15 < st.env.length) (hx : ∀ x ∈ xs, x.length ≤ 1000000) :
    lcD [15] it (.nm 15) (notT (bT (callE F__law_is_figures (aCons (nE 15) aNil)))) (nE 15) st = .ok (true, .lst (dS (xs.filter fun x => !figB x))) st := by
  obtain ⟨l, w, n⟩ := st
  have := lcD_pure (tt := notT (bT (callE F__law_is_figures (aCons (nE 15) aNil)))) (te := nE 15) (fun d => match d with | .str x => !figB x | _ => false) (fun d => d) hi hs (fun d hd => ?_) (fun d hd _ => ?_)
  · rw [this]
    congr 3
    rw [List.map_id', dS, List.filter_map]; rfl
  · obtain ⟨x, hx', rfl⟩ := List.mem_map.1 hd
    have e : (l.set 15 (.fz (.str x)))[15]? = some (.fz (.str x)) := List.getElem?_set_self hl
    have v := v__law_is_figures x (hx x hx') w
    simp [e, v]
  · refine ⟨false, ?_⟩
    have e : (l.set 15 (.fz d))[15]? = some (.fz d) := List.getElem?_set_self hl
    simp [e]
theorem B13_ok {z : Str} {ws : List Str} (hx : ∀ x ∈ ws, x.length ≤ 1000000) {w0 : Str} {r : List Str} (hw : ws = w0 :: r) {m : Nat} (hm : m = manyN w0) : B13 ⟨[a0, .fz .hnd, s2, s3, s4, s5, s6, .ow (.lst (dS ws)), .fz (.str z), .fz .non, .fz (.int (m : Int)), s11, s12, .ow (.lst (dS (ws.drop m))), .fz (.tup (dS (ws.take m))), .no], w, f⟩ = .ok .nx ⟨[a0, .fz .hnd, s2, s3, s4, s5, s6, .ow (.lst (dS ws)), .fz (.str z), .fz (rawD (lawOf ws)), .fz (.int (m : Int)), s11, s12, .ow (.lst (dS (ws.drop m))), .fz (.tup (dS (ws.take m))), .no], w, f⟩ := by
  have ix : kIx (.lst (dS ws)) (.int 0) = some (false, .str w0) := by rw [hw]; exact kIx_l0 _ _
  have lenA : kLenA (.lst (dS ws)) = some (false, .int (ws.length : Int)) := by rw [kLenA_lst]; simp
  by_cases c1 : w0 = Str.ofString "tell"
  · have m3 : m = 3 := by rw [hm, manyN, if_pos (.inl c1)]
    subst c1 m3
    match r, hw with
    | [], hw => subst hw; simp [B13, lawOf, rawD]
    | [a], hw => subst hw; simp [B13, lawOf, rawD]
    | a :: b :: rest, hw =>
      have dr : ws.drop 3 = rest := by rw [hw]; rfl
      have tk : ws.take 3 = [Str.ofString "tell", a, b] := by rw [hw]; rfl
      have lg : ¬ ((ws.length : Int) < 3) := by rw [hw]; simp; omega
      have lw : lawOf ws = (lawFr rest).map fun x => Wk.tell a b x.1 x.2 := by rw [hw]; simp [lawOf]
      have hr : ∀ x ∈ rest, x.length ≤ 1000000 := fun x h => hx x (by rw [hw]; simp [h])
      rw [dr, tk, lw]
      generalize dS ws = wd at ix lenA ⊢
      clear hw dr tk lw hx
      match rest, hr with
      | [], _ => simp [B13, ix, lenA, lg, n_tk, kIn_13, lawFr, rawD]
      | [x, y], _ => simp [B13, ix, lenA, lg, n_tk, kIn_13, lawFr, rawD]
      | x :: y :: u :: v :: t, _ =>
        have h13 : ¬ (((t.length : Nat) : Int) + 1 + 1 + 1 + 1 = 1 ∨ ((t.length : Nat) : Int) + 1 + 1 + 1 + 1 = 3) := by omega
        simp [B13, ix, lenA, lg, n_tk, kIn_13, lawFr, rawD, h13]
      | [x], hr =>
        have hm := figs_lc (it := itE (stepE 2 (.var 13))) (st := ⟨[a0, .fz .hnd, s2, s3, s4, s5, s6, .ow (.lst wd), .fz (.str z), .fz .non, .fz (.int 3), s11, s12, .ow (.lst (dS [x])), .fz (.tup (dS [Str.ofString "tell", a, b])), .no], w, f⟩) (xs := [x]) (by simp [stepA_1]) (.inl rfl) (by simp) hr
        simp only [List.map_cons, List.map_nil, dS] at hm
        by_cases fx : figB x = true
        · have ki := kInt_fig fx
          have ke : kEq (.lst []) (.lst []) = some (false, .bl true) := kEq_strs0 []
          have ka := kAdd_tup [.str (Str.ofString "tell"), .str a, .str b] [.tup [.int (valS x), .int 1]] (by simp)
          simp only [List.filter_cons, fx, Bool.not_true, Bool.false_eq_true, if_false, List.filter_nil, List.map_nil] at hm
          simp [B13, ix, lenA, lg, n_tk, kIn_13, lawFr, rawD, hm, ke, ki, fx, ka, Wk.d, Wk.pts, Pt.d]
        · have fx' : figB x = false := by simpa using fx
          have ke : kEq (.lst [.str x]) (.lst []) = some (false, .bl false) := (kEq_strs0 [x]).trans (by simp)
          simp only [List.filter_cons, fx', Bool.not_false, if_true, List.filter_nil, List.map_nil, List.map_cons] at hm
          simp [B13, ix, lenA, lg, n_tk, kIn_13, lawFr, rawD, hm, ke, fx']
      | [x, y, u], hr =>
        have hm := figs_lc (it := itE (stepE 2 (.var 13))) (st := ⟨[a0, .fz .hnd, s2, s3, s4, s5, s6, .ow (.lst wd), .fz (.str z), .fz .non, .fz (.int 3), s11, s12, .ow (.lst (dS [x, y, u])), .fz (.tup (dS [Str.ofString "tell", a, b])), .no], w, f⟩) (xs := [x, u]) (by simp [stepA_3]) (.inl rfl) (by simp) (fun v hv => hr v (by simp at hv ⊢; rcases hv with h | h <;> simp [h]))
        simp only [List.map_cons, List.map_nil, dS] at hm
        have uo : Str.ofString "over" = ovW := rfl
        by_cases fx : figB x = true
        · by_cases fu : figB u = true
          · have ki := kInt_fig fx
            have ku := kInt_fig fu
            have ke : kEq (.lst []) (.lst []) = some (false, .bl true) := kEq_strs0 []
            have ka := kAdd_tup [.str (Str.ofString "tell"), .str a, .str b] [.tup [.int (valS x), .int (valS u)]] (by simp)
            simp only [List.filter_cons, fx, fu, Bool.not_true, Bool.false_eq_true, if_false, List.filter_nil, List.map_nil] at hm
            by_cases yo : y = ovW
            · subst yo
              simp [B13, uo, ix, lenA, lg, n_tk, kIn_13, lawFr, rawD, hm, ke, ki, ku, fx, fu, ka, Wk.d, Wk.pts, Pt.d]
            · simp [B13, uo, ix, lenA, lg, n_tk, kIn_13, lawFr, rawD, hm, ke, fx, fu, yo]
          · have fu' : figB u = false := by simpa using fu
            have ke : kEq (.lst [.str u]) (.lst []) = some (false, .bl false) := (kEq_strs0 [u]).trans (by simp)
            simp only [List.filter_cons, fx, fu', Bool.not_true, Bool.false_eq_true, if_false, Bool.not_false, if_true, List.filter_nil, List.map_nil, List.map_cons] at hm
            simp [B13, ix, lenA, lg, n_tk, kIn_13, lawFr, rawD, hm, ke, fx, fu']
        · have fx' : figB x = false := by simpa using fx
          cases fu : figB u with
          | true =>
            have ke : kEq (.lst [.str x]) (.lst []) = some (false, .bl false) := (kEq_strs0 [x]).trans (by simp)
            simp only [List.filter_cons, fx', fu, Bool.not_true, Bool.false_eq_true, if_false, Bool.not_false, if_true, List.filter_nil, List.map_nil, List.map_cons] at hm
            simp [B13, ix, lenA, lg, n_tk, kIn_13, lawFr, rawD, hm, ke, fx', fu]
          | false =>
            have ke : kEq (.lst [.str x, .str u]) (.lst []) = some (false, .bl false) := (kEq_strs0 [x, u]).trans (by simp)
            simp only [List.filter_cons, fx', fu, Bool.not_false, if_true, List.filter_nil, List.map_nil, List.map_cons] at hm
            simp [B13, ix, lenA, lg, n_tk, kIn_13, lawFr, rawD, hm, ke, fx', fu]
  · by_cases c2 : w0 = Str.ofString "take"
    · have m3 : m = 3 := by rw [hm, manyN, if_pos (.inr c2)]
      subst c2 m3
      match r, hw with
      | [], hw => subst hw; simp [B13, lawOf, rawD, n_kt]
      | [a], hw => subst hw; simp [B13, lawOf, rawD, n_kt]
      | a :: b :: rest, hw =>
        have dr : ws.drop 3 = rest := by rw [hw]; rfl
        have tk : ws.take 3 = [Str.ofString "take", a, b] := by rw [hw]; rfl
        have lg : ¬ ((ws.length : Int) < 3) := by rw [hw]; simp; omega
        have ke := kEq_strs0 rest
        cases rest with
        | nil =>
          have lw : lawOf ws = some (Wk.take a b) := by rw [hw]; simp [lawOf, n_kt]
          rw [dr, tk, lw]
          have ke' : kEq (.lst []) (.lst []) = some (false, .bl true) := kEq_strs0 []
          generalize dS ws = wd at ix lenA ⊢
          simp [B13, ix, lenA, lg, ke', rawD, Wk.d, Wk.pts, Pt.d]
        | cons x rest =>
          have lw : lawOf ws = none := by rw [hw]; simp [lawOf, n_kt]
          rw [dr, tk, lw]
          rw [decide_eq_false (by simp)] at ke
          generalize dS ws = wd at ix lenA ⊢
          generalize dS (x :: rest) = rd at ke ⊢
          simp [B13, ix, lenA, lg, ke, rawD]
    · by_cases c3 : w0 = Str.ofString "scale"
      · have m3 : m = 2 := by rw [hm, manyN, if_neg (by rintro (h | h) <;> contradiction), if_pos c3]
        subst c3 m3
        match r, hw with
        | [], hw => subst hw; simp [B13, lawOf, rawD, n_st, n_sk]
        | a :: rest, hw =>
          have dr : ws.drop 2 = rest := by rw [hw]; rfl
          have tk : ws.take 2 = [Str.ofString "scale", a] := by rw [hw]; rfl
          have lg : ¬ ((ws.length : Int) < 2) := by rw [hw]; simp; omega
          have lw : lawOf ws = (lawFr rest).map fun x => Wk.scale a x.1 x.2 := by rw [hw]; simp [lawOf, n_st, n_sk]
          have hr : ∀ x ∈ rest, x.length ≤ 1000000 := fun x h => hx x (by rw [hw]; simp [h])
          rw [dr, tk, lw]
          generalize dS ws = wd at ix lenA ⊢
          clear hw dr tk lw hx
          match rest, hr with
          | [], _ => simp [B13, ix, lenA, lg, n_sk, kIn_13, lawFr, rawD]
          | [x, y], _ => simp [B13, ix, lenA, lg, n_sk, kIn_13, lawFr, rawD]
          | x :: y :: u :: v :: t, _ =>
            have h13 : ¬ (((t.length : Nat) : Int) + 1 + 1 + 1 + 1 = 1 ∨ ((t.length : Nat) : Int) + 1 + 1 + 1 + 1 = 3) := by omega
            simp [B13, ix, lenA, lg, n_sk, kIn_13, lawFr, rawD, h13]
          | [x], hr =>
            have hm := figs_lc (it := itE (stepE 2 (.var 13))) (st := ⟨[a0, .fz .hnd, s2, s3, s4, s5, s6, .ow (.lst wd), .fz (.str z), .fz .non, .fz (.int 2), s11, s12, .ow (.lst (dS [x])), .fz (.tup (dS [Str.ofString "scale", a])), .no], w, f⟩) (xs := [x]) (by simp [stepA_1]) (.inl rfl) (by simp) hr
            simp only [List.map_cons, List.map_nil, dS] at hm
            by_cases fx : figB x = true
            · have ki := kInt_fig fx
              have ke : kEq (.lst []) (.lst []) = some (false, .bl true) := kEq_strs0 []
              have ka := kAdd_tup [.str (Str.ofString "scale"), .str a] [.tup [.int (valS x), .int 1]] (by simp)
              simp only [List.filter_cons, fx, Bool.not_true, Bool.false_eq_true, if_false, List.filter_nil, List.map_nil] at hm
              simp [B13, ix, lenA, lg, n_sk, kIn_13, lawFr, rawD, hm, ke, ki, fx, ka, Wk.d, Wk.pts, Pt.d]
            · have fx' : figB x = false := by simpa using fx
              have ke : kEq (.lst [.str x]) (.lst []) = some (false, .bl false) := (kEq_strs0 [x]).trans (by simp)
              simp only [List.filter_cons, fx', Bool.not_false, if_true, List.filter_nil, List.map_nil, List.map_cons] at hm
              simp [B13, ix, lenA, lg, n_sk, kIn_13, lawFr, rawD, hm, ke, fx']
          | [x, y, u], hr =>
            have hm := figs_lc (it := itE (stepE 2 (.var 13))) (st := ⟨[a0, .fz .hnd, s2, s3, s4, s5, s6, .ow (.lst wd), .fz (.str z), .fz .non, .fz (.int 2), s11, s12, .ow (.lst (dS [x, y, u])), .fz (.tup (dS [Str.ofString "scale", a])), .no], w, f⟩) (xs := [x, u]) (by simp [stepA_3]) (.inl rfl) (by simp) (fun v hv => hr v (by simp at hv ⊢; rcases hv with h | h <;> simp [h]))
            simp only [List.map_cons, List.map_nil, dS] at hm
            have uo : Str.ofString "over" = ovW := rfl
            by_cases fx : figB x = true
            · by_cases fu : figB u = true
              · have ki := kInt_fig fx
                have ku := kInt_fig fu
                have ke : kEq (.lst []) (.lst []) = some (false, .bl true) := kEq_strs0 []
                have ka := kAdd_tup [.str (Str.ofString "scale"), .str a] [.tup [.int (valS x), .int (valS u)]] (by simp)
                simp only [List.filter_cons, fx, fu, Bool.not_true, Bool.false_eq_true, if_false, List.filter_nil, List.map_nil] at hm
                by_cases yo : y = ovW
                · subst yo
                  simp [B13, uo, ix, lenA, lg, n_sk, kIn_13, lawFr, rawD, hm, ke, ki, ku, fx, fu, ka, Wk.d, Wk.pts, Pt.d]
                · simp [B13, uo, ix, lenA, lg, n_sk, kIn_13, lawFr, rawD, hm, ke, fx, fu, yo]
              · have fu' : figB u = false := by simpa using fu
                have ke : kEq (.lst [.str u]) (.lst []) = some (false, .bl false) := (kEq_strs0 [u]).trans (by simp)
                simp only [List.filter_cons, fx, fu', Bool.not_true, Bool.false_eq_true, if_false, Bool.not_false, if_true, List.filter_nil, List.map_nil, List.map_cons] at hm
                simp [B13, ix, lenA, lg, n_sk, kIn_13, lawFr, rawD, hm, ke, fx, fu']
            · have fx' : figB x = false := by simpa using fx
              cases fu : figB u with
              | true =>
                have ke : kEq (.lst [.str x]) (.lst []) = some (false, .bl false) := (kEq_strs0 [x]).trans (by simp)
                simp only [List.filter_cons, fx', fu, Bool.not_true, Bool.false_eq_true, if_false, Bool.not_false, if_true, List.filter_nil, List.map_nil, List.map_cons] at hm
                simp [B13, ix, lenA, lg, n_sk, kIn_13, lawFr, rawD, hm, ke, fx', fu]
              | false =>
                have ke : kEq (.lst [.str x, .str u]) (.lst []) = some (false, .bl false) := (kEq_strs0 [x, u]).trans (by simp)
                simp only [List.filter_cons, fx', fu, Bool.not_false, if_true, List.filter_nil, List.map_nil, List.map_cons] at hm
                simp [B13, ix, lenA, lg, n_sk, kIn_13, lawFr, rawD, hm, ke, fx', fu]
      · have m0 : m = 0 := by rw [hm, manyN, if_neg (by rintro (h | h) <;> contradiction), if_neg c3]
        subst m0
        have lw : lawOf ws = none := by rw [hw]; simp [lawOf, c1, c2, c3]
        rw [lw]
        generalize dS ws = wd at ix lenA ⊢
        simp [B13, rawD]

end
end K72
set_option maxHeartbeats 4000000
namespace K72
open PySem PySem.Spec PyProof.Rows L2 PV TL
section
variable {a0 s2 s3 s4 s5 s6 s7 s8 s9 s10 s11 s12 s13 s14 : Sl} {n : Nat} {w : W} {f : Nat}
theorem isNo_wk (k : Wk) : isNo k.d = false := rfl
theorem B14_ok {z : Str} {o : Option Wk} (hb : ∀ k, o = some k → k.bd) : B14 ⟨[a0, .fz .hnd, s2, s3, s4, s5, s6, s7, .fz (.str z), .fz (rawD o), s10, s11, s12, s13, s14, .no], w, f⟩ = .ok .nx ⟨[a0, .fz .hnd, s2, s3, s4, s5, s6, s7, .fz (.str z), .fz (resO z o), s10, s11, s12, s13, s14, .no], w, f⟩ := by
  cases o with
  | none => simp [B14, rawD, resO]
  | some k =>
    have bd := hb k rfl
    have nk := isNo_wk k
    have a := v__law_is_a_work k bd w
    show _ = R.ok Fl.nx ⟨[a0, .fz .hnd, s2, s3, s4, s5, s6, s7, .fz (.str z), .fz (resD k z), s10, s11, s12, s13, s14, .no], w, f⟩
    by_cases c : k.okB = true
    · have l := v__law_work_lineK k ⟨c, bd⟩ w
      by_cases e : k.line = z
      · have r : resD k z = k.d := if_pos ⟨c, e⟩
        rw [r]
        show B14 ⟨[a0, .fz .hnd, s2, s3, s4, s5, s6, s7, .fz (.str z), .fz k.d, s10, s11, s12, s13, s14, .no], w, f⟩ = _
        generalize k.d = kd at *
        simp [B14, nk, a, c, l, e]
      · have r : resD k z = .non := if_neg (fun h => e h.2)
        rw [r]
        show B14 ⟨[a0, .fz .hnd, s2, s3, s4, s5, s6, s7, .fz (.str z), .fz k.d, s10, s11, s12, s13, s14, .no], w, f⟩ = _
        generalize k.d = kd at *
        simp [B14, nk, a, c, l, e]
    · have r : resD k z = .non := if_neg (fun h => c h.1)
      rw [r]
      show B14 ⟨[a0, .fz .hnd, s2, s3, s4, s5, s6, s7, .fz (.str z), .fz k.d, s10, s11, s12, s13, s14, .no], w, f⟩ = _
      generalize k.d = kd at *
      simp [B14, nk, a, c]
theorem bt_small : (∀ c ∈ tl (Str.ofString "BadText"), c < 128) ∧ (Str.ofString "BadText").length ≤ 100 := by decide +kernel
theorem B15_no {z : Str} (tx : Tx z) (e : resO z (lawOf (Txt.split z spc)) = .non) : B15 ⟨[a0, .fz .hnd, s2, s3, s4, s5, s6, s7, .fz (.str z), .fz .non, s10, s11, s12, s13, s14, .no], w, f⟩ = .ok .nx ⟨[frzSl a0, .fz .hnd, frzSl s2, frzSl s3, frzSl s4, frzSl s5, frzSl s6, frzSl s7, .fz (.str z), .fz .non, frzSl s10, frzSl s11, frzSl s12, frzSl s13, frzSl s14, .no], w, f⟩ := by
  have r := v_read_no z (by have := tx.len; omega) w e
  have sh : Sh deep 100000 (.tup [.str "BadText", .int 0]) := (sh_tup (k := 15) (n := 1002) (fun d hd => by
    simp only [List.mem_cons, List.not_mem_nil, or_false] at hd
    rcases hd with rfl | rfl
    · exact sh_s bt_small.1 bt_small.2
    · exact (sh_int (by decide +kernel)).up (by decide))).up (by simp)
  have sm := v__law_same sh (by decide) rfl w
  simp [B15, r, sm]
theorem B15_yes {z : Str} {k : Wk} : B15 ⟨[a0, .fz .hnd, s2, s3, s4, s5, s6, s7, .fz (.str z), .fz k.d, s10, s11, s12, s13, s14, .no], w, f⟩ = .ok .nx ⟨[a0, .fz .hnd, s2, s3, s4, s5, s6, s7, .fz (.str z), .fz k.d, s10, s11, s12, s13, s14, .no], w, f⟩ := by
  have nk := isNo_wk k
  generalize k.d = kd at *
  simp [B15, nk]
theorem B16_no {z : Str} : B16 ⟨[a0, .fz .hnd, s2, s3, s4, s5, s6, s7, .fz (.str z), .fz .non, s10, s11, s12, s13, s14, .no], w, f⟩ = .ok .nx ⟨[a0, .fz .hnd, s2, s3, s4, s5, s6, s7, .fz (.str z), .fz .non, s10, s11, s12, s13, s14, .no], w, f⟩ := by
  simp [B16]
theorem B16_yes {z : Str} (tx : Tx z) {k : Wk} (hk : k.Ok) (hz : k.line = z) : B16 ⟨[a0, .fz .hnd, s2, s3, s4, s5, s6, s7, .fz (.str z), .fz k.d, s10, s11, s12, s13, s14, .no], w, f⟩ = .ok .nx ⟨[a0, .fz .hnd, s2, s3, s4, s5, s6, s7, .fz (.str z), .fz k.d, s10, s11, s12, s13, s14, .no], w, f⟩ := by
  subst hz
  have nk := isNo_wk k
  have r := v_read_yes k.line (by have := tx.len; omega) w k (res_line hk).2
  have t := v_work_text k hk w
  have sh : Sh deep 1000000 (.lst [k.d, .str k.line]) := (sh_lst (k := 15) (n := 100002) (fun d hd => by
    simp only [List.mem_cons, List.not_mem_nil, or_false] at hd
    rcases hd with rfl | rfl
    · exact (sh_wk hk).up (by decide)
    · exact sh_tx tx)).up (by simp)
  have sm := v__law_same sh (by decide) rfl w
  generalize k.d = kd at *
  generalize k.line = kl at *
  simp [B16, nk, r, t, sm]
/-- the slots of the law at the head of a turn -/
def Shape (l : List Sl) : Prop := ∃ a0 s2 s3 s4 s5 s6 s7 s8 s9 s10 s11 s12 s13 s14 : Sl, l = [a0, .fz .hnd, s2, s3, s4, s5, s6, s7, s8, s9, s10, s11, s12, s13, s14, .no]
theorem lawB_ok {l : List Sl} (hs : Shape l) (h : DrOK n w) (hn : n ≤ 800) : ∃ l' w', lawB ⟨l, w, f⟩ = .ok .nx ⟨l', w', f⟩ ∧ Shape l' ∧ DrOK (n + 20) w' := by
  obtain ⟨a0, s2, s3, s4, s5, s6, s7, s8, s9, s10, s11, s12, s13, s14, rfl⟩ := hs
  obtain ⟨a, b, w0, e0, ha, hb, ok0⟩ := B0_ok (a0 := a0) (s2 := s2) (s3 := s3) (s4 := s4) (s5 := s5) (s6 := s6) (s7 := s7) (s8 := s8) (s9 := s9) (s10 := s10) (s11 := s11) (s12 := s12) (s13 := s13) (s14 := s14) (f := f) h (by omega)
  unfold lawB
  rw [u_seqS, e0, R.bind_ok, u_seqK1, u_seqS]
  generalize hs3 : Sl.fz (.tup [.str a, .str b]) = t3
  obtain ⟨p, q, w1, e1, fr, hp, hq, ok1⟩ := B1_ok (a0 := a0) (s2 := s2) (s3 := t3) (s4 := s4) (s5 := s5) (s6 := s6) (s7 := s7) (s8 := s8) (s9 := s9) (s10 := s10) (s11 := s11) (s12 := s12) (s13 := s13) (s14 := s14) (f := f) ok0 (by omega)
  rw [e1, R.bind_ok, u_seqK1, u_seqS]
  subst hs3
  obtain ⟨k, w2, e2, hk, ok2⟩ := B2_ok (a0 := a0) (s2 := s2) (s5 := s5) (s6 := s6) (s7 := s7) (s8 := s8) (s9 := s9) (s10 := s10) (s11 := s11) (s12 := s12) (s13 := s13) (s14 := s14) (f := f) ok1 (by omega) ha hb fr hp hq
  rw [e2, R.bind_ok, u_seqK1, u_seqS, B3_ok hk, R.bind_ok, u_seqK1, u_seqS, B4_ok hk, R.bind_ok, u_seqK1, u_seqS, B5_ok hk, R.bind_ok, u_seqK1, u_seqS]
  obtain ⟨wd, wl, wl3⟩ := wd_words hk
  generalize Sl.fz (.tup [.str a, .str b]) = t3
  generalize Sl.fz (.tup [.int p, .int q]) = t4
  generalize Sl.fz k.d = t5
  generalize Sl.fz (.str k.line) = t6
  generalize k.words = ws at wd wl wl3 ⊢
  obtain ⟨j, c, w6, e6, hj, ok6⟩ := B6_ok (a0 := a0) (s2 := s2) (s3 := t3) (s4 := t4) (s5 := t5) (s6 := t6) (s8 := s8) (s9 := s9) (s10 := s10) (s11 := s11) (s12 := s12) (s13 := s13) (s14 := s14) (f := f) ok2 (by omega) (ws := ws) (by omega) (by omega)
  rw [e6, R.bind_ok, u_seqK1, u_seqS]
  obtain ⟨ys, w7, e7, wy, ly, ok7⟩ := B7_ok (a0 := a0) (s2 := s2) (s3 := t3) (s4 := t4) (s5 := t5) (s6 := t6) (s8 := s8) (s9 := s9) (s10 := s10) (s13 := s13) (s14 := s14) (f := f) ok6 (by omega) (c := c) hj (by omega) wd
  rw [e7, R.bind_ok, u_seqK1, u_seqS, B8_ok wy ly, R.bind_ok, u_seqK1, u_seqS, B9_ok, R.bind_ok, u_seqK1, u_seqS]
  have tx := tx_join wy ly
  generalize Txt.join spc ys = z at tx ⊢
  generalize Sl.fz (.int (j : Int)) = t11
  generalize Sl.fz (.int c) = t12
  rw [B10_ok tx, R.bind_ok, u_seqK1, u_seqS]
  have zl : z.length ≤ 1000000 := by have := tx.len; omega
  have sl := split_len zl
  have fd := fnd_law z zl
  have lb : ∀ k, lawOf (Txt.split z spc) = some k → k.bd := fun k e => lawOf_bd sl e
  have ne := split_ne z
  have ln := fun (t7 t10 t13 t14 : Sl) e => B15_no (a0 := a0) (s2 := s2) (s3 := t3) (s4 := t4) (s5 := t5) (s6 := t6) (s7 := t7) (s10 := t10) (s13 := t13) (s14 := t14) (s11 := t11) (s12 := t12) (w := w7) (f := f) tx e
  cases hw : Txt.split z spc with
  | nil => exact absurd hw ne
  | cons x0 r =>
    rw [hw] at sl fd lb ln
    rw [B11_ok, R.bind_ok, u_seqK1, u_seqS, B12_ok, R.bind_ok, u_seqK1, u_seqS, B13_ok sl rfl rfl, R.bind_ok, u_seqK1, u_seqS, B14_ok lb, R.bind_ok, u_seqK1, u_seqS]
    generalize hd : resO z (lawOf (x0 :: r)) = d at fd ln ⊢
    cases fd with
    | no _ =>
      rw [ln _ _ _ _ rfl, R.bind_ok, u_seqK1, u_seqS, B16_no, R.bind_ok, u_seqK1, u_nxS]
      exact ⟨_, w7, rfl, ⟨_, _, _, _, _, _, _, _, _, _, _, _, _, _, rfl⟩, ok7.up (by omega)⟩
    | yes k hk hz =>
      rw [B15_yes, R.bind_ok, u_seqK1, u_seqS, B16_yes tx hk hz, R.bind_ok, u_seqK1, u_nxS]
      exact ⟨_, w7, rfl, ⟨_, _, _, _, _, _, _, _, _, _, _, _, _, _, rfl⟩, ok7.up (by omega)⟩
theorem law_loop : ∀ (ds : List D) (l : List Sl) (n : Nat) (w : W), Shape l → DrOK n w → n + 20 * ds.length ≤ 800 → ∃ l' w', forL (.nm 2) lawB ds ⟨l, w, f⟩ = .ok .nx ⟨l', w', f⟩
  | [], l, n, w, _, _, _ => ⟨l, w, rfl⟩
  | d :: ds, l, n, w, hs, ok, hn => by
    rw [List.length_cons] at hn
    have hs' : Shape (l.set 2 (.fz d)) := by
      obtain ⟨a0, s2, s3, s4, s5, s6, s7, s8, s9, s10, s11, s12, s13, s14, rfl⟩ := hs
      exact ⟨a0, .fz d, s3, s4, s5, s6, s7, s8, s9, s10, s11, s12, s13, s14, rfl⟩
    obtain ⟨l1, w1, e, h1, ok1⟩ := lawB_ok (f := f) hs' ok (by omega)
    obtain ⟨l2, w2, e2⟩ := law_loop ds l1 (n + 20) w1 h1 ok1 (by omega)
    refine ⟨l2, w2, ?_⟩
    show (lawB (stS 2 (false, d) ⟨l, w, f⟩)).bind _ = _
    rw [u_stF, e, R.bind_ok]
    exact e2
end
theorem pow18 : ∃ K : Int, k1 fPow (.int 10) (.int 18) = some (false, .int K) := by
  refine ⟨(10 : Int) ^ (18 : Int).toNat, ?_⟩
  rw [k1_int]; unfold fPow
  rw [if_pos ⟨by decide, by decide, by decide⟩]; rfl
def onI (F : Int → Int) : D → D
  | .int i => .int (F i)
  | d => d
def isI (p : Int → Bool) : D → Bool
  | .int i => p i
  | _ => false
theorem onI_map (p : Int → Bool) (F : Int → Int) : ∀ ns : List Int, ((dI ns).filter (isI p)).map (onI F) = dI ((ns.filter p).map F)
  | [] => rfl
  | n :: ns => by
    have ih := onI_map p F ns
    show ((D.int n :: dI ns).filter (isI p)).map (onI F) = _
    rw [List.filter_cons, List.filter_cons]
    have e : isI p (.int n) = p n := rfl
    rw [e]
    cases p n with
    | true => rw [if_pos rfl, if_pos rfl, List.map_cons, ih]; rfl
    | false => rw [if_neg (by decide), if_neg (by decide), ih]
theorem onI_map0 (F : Int → Int) (ns : List Int) : (dI ns).map (onI F) = dI (ns.map F) := by
  rw [dI, List.map_map, dI, List.map_map]; rfl
theorem v__law_begun (ns : List Int) : ∃ large cells, F__law_begun [.ro ns] none = .ok (false, .hnd) (some ⟨large, cells, 0, 0⟩) := by
  obtain ⟨K, pow18⟩ := pow18
  have h1 := lcD_pure (i := 2) (it := itE (nE 0)) (tt := bT (oE2 (kCmp .GtE) (.ex (oE1 kAbs (.var 2))) (.ex (bE (k1 fPow) (cE (.int 10)) (cE (.int 18)))))) (te := bE (k1 fSub) (oE1 kAbs (.var 2)) (bE (k1 fPow) (cE (.int 10)) (cE (.int 18))))
    (st := ⟨[.fz (.ro ns), .no, .no], none, 0⟩) (ds := dI ns) (isI fun i => !decide ((i.natAbs : Int) < K)) (onI fun i => (i.natAbs : Int) - K)
    (by simp) (.inl rfl) (fun d hd => by
      obtain ⟨i, _, rfl⟩ := List.mem_map.1 hd
      simp [abs_nat, pow18, isI]) (fun d hd _ => by
      obtain ⟨i, _, rfl⟩ := List.mem_map.1 hd
      exact ⟨false, by simp [abs_nat, pow18, kSub_int, onI]⟩)
  rw [onI_map] at h1
  have h2 := lcD_map (i := 2) (it := itE (nE 0)) (te := bE (k1 fMod) (oE1 kInt (.ex (oE1 kAbs (.var 2)))) (cE (.int 2147483629)))
    (st := ⟨[.fz (.ro ns), .no, .no], none, 0⟩) (ds := dI ns) (onI fun i => (i.natAbs : Int) % 2147483629)
    (by simp) (.inl rfl) (fun d hd => by
      obtain ⟨i, _, rfl⟩ := List.mem_map.1 hd
      have km := kMod_int (a := (i.natAbs : Int)) (b := 2147483629) (by decide)
      exact ⟨false, by simp [abs_nat, kInt_int, km, onI]⟩)
  rw [onI_map0] at h2
  generalize (ns.filter fun i => !decide ((i.natAbs : Int) < K)).map (fun i => (i.natAbs : Int) - K) = large at h1
  generalize ns.map (fun i => (i.natAbs : Int) % 2147483629) = cells at h2
  refine ⟨large, cells, ?_⟩
  have d1 := dints_of large
  have d2 := dints_of cells
  generalize dI large = dl at *
  generalize dI cells = dc at *
  simp only [u_ge, u_bT] at h1 h2
  simp [F__law_begun, b__law_begun, h1, wnewE, h2, d1, d2]
theorem laps (n : Nat) : ∃ m : Nat, m ≤ 20 ∧ kMin (.int (n : Int)) (.int 10) = some (false, .int ((m : Int) - 10)) ∧ 10 ≤ m := by
  have e : kMin (.int (n : Int)) (.int 10) = some (false, .int (if (10 : Int) < (n : Int) then 10 else (n : Int))) := rfl
  rw [e]
  by_cases h : (10 : Int) < (n : Int)
  · rw [if_pos h]; exact ⟨20, Nat.le_refl _, rfl, by decide⟩
  · rw [if_neg h]; refine ⟨10 + n, by omega, ?_, by omega⟩
    congr 3; omega
theorem run_1 (ns : List Int) (w' : W) (e : F__law_begun [.ro ns] none = .ok (false, .hnd) w') : (setS 1 (callE F__law_begun (aCons (nE 0) aNil))) ⟨[.fz (.ro ns), .no, .no, .no, .no, .no, .no, .no, .no, .no, .no, .no, .no, .no, .no, .no], none, 0⟩ = .ok .nx ⟨[.fz (.ro ns), .fz .hnd, .no, .no, .no, .no, .no, .no, .no, .no, .no, .no, .no, .no, .no, .no], w', 0⟩ := by simp [e]
theorem run_2 (ns : List Int) (ds : List D) (w' : W) (m : Nat) (hm2 : kMin (.int (ns.length : Int)) (.int 10) = some (false, .int ((m : Int) - 10))) (r : rngOf [.int (m : Int)] = some ds) : (rngI (aCons (bE kAdd (cE (.int 10)) (bE kMin (oE1 kLenA (.var 0)) (cE (.int 10)))) aNil)) ⟨[.fz (.ro ns), .fz .hnd, .no, .no, .no, .no, .no, .no, .no, .no, .no, .no, .no, .no, .no, .no], w', 0⟩ = .ok ds ⟨[.fz (.ro ns), .fz .hnd, .no, .no, .no, .no, .no, .no, .no, .no, .no, .no, .no, .no, .no, .no], w', 0⟩ := by
  have sm : (10 : Int) + ((m : Int) - 10) = (m : Int) := by omega
  have ka : kAdd (.int 10) (.int ((m : Int) - 10)) = some (false, .int (m : Int)) := by rw [kAdd_int, sm]
  have a1 : bE kMin (oE1 kLenA (.var 0)) (cE (.int 10)) ⟨[.fz (.ro ns), .fz .hnd, .no, .no, .no, .no, .no, .no, .no, .no, .no, .no, .no, .no, .no, .no], w', 0⟩ = .ok (false, .int ((m : Int) - 10)) ⟨[.fz (.ro ns), .fz .hnd, .no, .no, .no, .no, .no, .no, .no, .no, .no, .no, .no, .no, .no, .no], w', 0⟩ := by simp [hm2]
  generalize (⟨[.fz (.ro ns), .fz .hnd, .no, .no, .no, .no, .no, .no, .no, .no, .no, .no, .no, .no, .no, .no], w', 0⟩ : S) = st at a1 ⊢
  have a2 : bE kAdd (cE (.int 10)) (bE kMin (oE1 kLenA (.var 0)) (cE (.int 10))) st = .ok (false, .int (m : Int)) st := by rw [u_bE, u_cE, R.bind_ok, a1, R.bind_ok, ka, ofO_some]
  have a3 : aCons (bE kAdd (cE (.int 10)) (bE kMin (oE1 kLenA (.var 0)) (cE (.int 10)))) aNil st = .ok [.int (m : Int)] st := by rw [u_aCons, a2, R.bind_ok, u_aNil, R.bind_ok]
  rw [u_rngI, a3, R.bind_ok, r, ofO_some]
theorem law_run (ns : List Int) (ds : List D) (w0 : W) (m : Nat) (hm2 : kMin (.int (ns.length : Int)) (.int 10) = some (false, .int ((m : Int) - 10))) (r : rngOf [.int (m : Int)] = some ds) (e : F__law_begun [.ro ns] none = .ok (false, .hnd) w0) {l' : List Sl} {w' : W}
    (e2 : forL (.nm 2) lawB ds ⟨[.fz (.ro ns), .fz .hnd, .no, .no, .no, .no, .no, .no, .no, .no, .no, .no, .no, .no, .no, .no], w0, 0⟩ = .ok .nx ⟨l', w', 0⟩) : F_law [.ro ns] none = .ok (false, .bl true) w' := by
  have s0 : startE 16 [D.ro ns] = [.fz (.ro ns), .no, .no, .no, .no, .no, .no, .no, .no, .no, .no, .no, .no, .no, .no, .no] := rfl
  have t1 := run_1 ns w0 e
  have t2 := run_2 ns ds w0 m hm2 r
  have u : F_law [.ro ns] none = r0K (rdK (b_law ⟨startE 16 [D.ro ns], none, 0⟩)) := u_runDef0 16 b_law [.ro ns] none
  rw [u, b_law_eq, s0, u_seqS, t1, R.bind_ok, u_seqK1, u_seqS, u_forS, t2, R.bind_ok, e2, R.bind_ok, u_seqK1]
  rfl
theorem law_holds (ns : List Int) : ∃ w', F_law [.ro ns] none = .ok (false, .bl true) w' := by
  obtain ⟨large, cells, e⟩ := v__law_begun ns
  have ok : DrOK 0 (some ⟨large, cells, 0, 0⟩) := ⟨_, rfl, Nat.le_refl _⟩
  obtain ⟨m, hm1, hm2, hm3⟩ := laps ns.length
  have r := rng_law m (by omega)
  have hl : ((List.range m).map fun (i : Nat) => D.int (i : Int)).length = m := by rw [List.length_map, List.length_range]
  generalize (List.range m).map (fun (i : Nat) => D.int (i : Int)) = ds at r hl
  obtain ⟨l', w', e2⟩ := law_loop (f := 0) ds [.fz (.ro ns), .fz .hnd, .no, .no, .no, .no, .no, .no, .no, .no, .no, .no, .no, .no, .no, .no] 0 _ ⟨_, _, _, _, _, _, _, _, _, _, _, _, _, _, rfl⟩ ok (by omega)
  exact ⟨w', law_run ns ds _ m hm2 r e e2⟩
end K72
set_option maxHeartbeats 4000000
/-! The end: a law that makes lambdas is called with its script, where no text of an object is being made. -/
namespace PV
open PySem PySem.Spec PyProof.Rows L2
/-- what is tracked at the call: the empty table, the script unless the written part has it -/
def scH (t : Option HO) (a Q : Addr) : Hp := fun b => if b = Q then some (.tbl #[]) else if b = a then t else none
theorem scH_Q (t : Option HO) (a Q : Addr) : scH t a Q Q = some (.tbl #[]) := if_pos rfl
theorem scH_a (t : Option HO) {a Q : Addr} (h : a ≠ Q) : scH t a Q a = t := by unfold scH; rw [if_neg h, if_pos rfl]
theorem scH_o (t : Option HO) {a Q b : Addr} (h1 : b ≠ Q) (h2 : b ≠ a) : scH t a Q b = none := by unfold scH; rw [if_neg h1, if_neg h2]
/-- the script, frozen -/
def ScT (ns : List Int) (t : Option HO) : Prop := t = none ∨ ∃ o, t = some (.frz o (.lst (ns.map V.int)))
/-- the call's end -/
def GoodEnd (s : Shared) (r : Result) (s' : Shared) : Prop := r = .ok (.ret (.bool true)) ∧ OldK s.heap s'.heap ∧ s'.os = s.os ∧ AllBare s'.gens
section
variable {P : Program} {w : World} {K : PySem.W.Frag} {mg mb : Str → Option Value} {k : Nat} {fa a c Q : Addr} {fd : FuncData} {x : Str} {sp : Sp} {s : Shared} {vs : List Value} {ns : List Int}
theorem law_go {t : Option HO} (KX : K.In s.heap) (gN : s.heap.Ns mainGlobals mg) (bN : s.heap.Ns builtinsNs mb) (bB : ∀ y : Str, y ≠ "__name__" → mb y = bootBuiltins y) (lim : s.heap.NoLimit) (gn : s.gens = #[])
    (tQ : s.heap.get? Q = some (PySem.W.tabObj #[])) (kQ : K.lookup Q = none) (cQ : PySem.W.CodeHd s.heap c Q)
    (bM : ∃ (m : Addr) (om : Obj), mg "__builtins__" = some (.ref m) ∧ m ≠ builtinsNs ∧ s.heap.get? m = some om ∧ om.cls = .type "module" ∧ om.dict = some builtinsNs ∧ om.data = .plain)
    (la : s.heap.get? a = some { cls := .type "list", data := .seq vs.toArray }) (ia : IntsAre vs ns) (ln : ns.length ≤ sizeLine) (hr : Room k callerA)
    (F : ∀ base : Heap, K.In base → base.Ns mainGlobals mg → LamX.TabB base mg c Q → FnG P w K mg base CX0 k fa fd [x] sp) (bd : ∀ (z : Shared) (u : Value), BindsTo z fd ⟨[u], []⟩ [(x, u)])
    (ht : t = none ∨ t = some (.frz { cls := .type "list", data := .seq vs.toArray } (.lst (ns.map V.int)))) (hk : t ≠ none → K.lookup a = none) (hsp : sp [.ref a] (scH t a Q) (fun v _ => v = .bl true) fun _ _ _ => False) :
    codeAny (model P w) callerA (.call (.ref fa) ⟨[.ref a], []⟩) (GoodEnd s) s := by
  have vI := vals_ints ia
  have aQ : a ≠ Q := fun e => by
    rw [e, tQ] at la
    cases congrArg Obj.data (Option.some.inj la)
  -- what is no list and no empty table is not tracked
  have free : ∀ {b : Addr} {o : Obj}, s.heap.get? b = some o → (∀ us n, o.data ≠ .seq us n) → o.data ≠ .fields #[] → scH t a Q b = none := fun {b o} e d1 d2 => by
    refine scH_o t (fun z => ?_) fun z => ?_
    · rw [z, tQ] at e; cases e; exact d2 rfl
    · rw [z, la] at e; cases e; exact d1 _ _ rfl
  have stay : ∀ {b : Addr} {o : Obj}, s.heap.get? b = some o → scH t a Q b = none → (hidT s.heap (scH t a Q)).get? b = some o := fun e n => hidT_get e n
  have ns_ : ∀ {b : Addr} {m : Str → Option Value}, s.heap.Ns b m → (hidT s.heap (scH t a Q)).Ns b m := fun {b m} ⟨o, es, ep, e, d, r⟩ =>
    ⟨o, es, ep, stay e (free e (fun us n z => by rw [d] at z; cases z) fun z => by rw [d] at z; cases z), d, r⟩
  have KB : K.In (hidT s.heap (scH t a Q)) := fun b o e => stay (KX b o e) (by
    by_cases z : b = Q
    · rw [z, kQ] at e; cases e
    · by_cases y : b = a
      · rw [y, scH_a t aQ]
        cases q : t with
        | none => rfl
        | some u => rw [y, hk (by rw [q]; simp)] at e; cases e
      · exact scH_o t z y)
  have gQ : mainGlobals ≠ Q := fun z => by
    obtain ⟨o, es, ep, e, d, _⟩ := gN
    rw [z, tQ] at e; cases e; cases d
  have TB : LamX.TabB (hidT s.heap (scH t a Q)) mg c Q := by
    refine ⟨?_, ?_, gQ⟩
    · obtain ⟨o, us, fl, tf, fg, tg, inF, tx, tt, e1, r1, r2, r3, r⟩ := cQ
      exact ⟨o, us, fl, tf, fg, tg, inF, tx, tt, stay e1 (free e1 (fun us n z => by rw [r2] at z; cases z) fun z => by rw [r2] at z; cases z; simp at r3), r1, r2, r3, r⟩
    · obtain ⟨m, om, b1, b2, b3, b4, b5, b6⟩ := bM
      refine ⟨m, om, b1, b2, fun z => ?_, fun z => ?_, stay b3 (free b3 (fun us n z => by rw [b6] at z; cases z) fun z => by rw [b6] at z; cases z), b4, b5, b6⟩
      · obtain ⟨o, es, ep, e, d, _⟩ := gN
        rw [z, e] at b3; cases b3; rw [d] at b6; cases b6
      · rw [z, tQ] at b3; cases b3; cases b6
  have ok : HOk P w (scH t a Q) s.heap := fun b u e => by
    by_cases z : b = Q
    · subst z
      rw [scH_Q] at e; cases e
      exact tQ
    · by_cases y : b = a
      · subst y
        rw [scH_a t z] at e
        rcases ht with q | q
        · rw [q] at e; cases e
        · rw [q] at e; cases e
          exact ⟨la, by rw [List.length_map]; exact ln, vs, _, vI, la⟩
      · rw [scH_o t z y] at e; cases e
  have M : L2.Mod K mg (hidT s.heap (scH t a Q)) := ⟨KB, ns_ gN, ⟨mb, ns_ bN, bB⟩, let ⟨mc, h1, h2⟩ := lim; ⟨mc, ns_ h1, h2⟩⟩
  have e0 : Env0 P w K mg (hidT s.heap (scH t a Q)) callerA [] s (scH t a Q) :=
    ⟨rfl, M, fun b o e => of_hidT e, Nat.le_of_eq (hidT_size _ _), trivial, (fun b hb => by cases (show b ∈ ([] : List Addr) from hb)), ok, .of_eq gn⟩
  have G := F _ KB (ns_ gN) TB
  refine codeAny_mono (G.go callerA [] s (scH t a Q) ⟨[.ref a], []⟩ [.ref a] [.ref a] _ _ rfl hr e0 (bd s (.ref a)) (.cons rfl .nil) hsp) fun r s' h => ?_
  match r, h with
  | .error e, h => exact (show False from h).elim
  | .ok (.ret u), h =>
    obtain ⟨v, H', os, bare, un, ok', rv, q⟩ := h
    have q' : v = .bl true := q
    subst q'
    obtain rfl : u = Value.bool true := rv
    obtain ⟨more, gr⟩ := un.tbls Q #[] (scH_Q t a Q)
    have grown : s'.heap.get? Q = some (PySem.W.tabObj (#[] ++ more)) := ok' Q _ gr
    have keep : ∀ b o, b ≠ Q → s.heap.get? b = some o → s'.heap.get? b = some o := fun b o nq e => by
      by_cases y : b = a
      · subst y
        cases q : t with
        | none => exact un.keep b o e (by rw [scH_a t nq, q]) (by intro z; cases (show b ∈ ([] : List Addr) from z)) (by simp)
        | some u =>
          rcases ht with z | z
          · rw [z] at q; cases q
          · have z2 := un.frzs b _ _ (by rw [scH_a t nq]; exact z)
            obtain ⟨e2, _⟩ := ok' b _ z2
            rw [la] at e; cases e
            exact e2
      · exact un.keep b o e (scH_o t nq y) (by intro z; cases (show b ∈ ([] : List Addr) from z)) (by simp)
    refine ⟨rfl, ⟨fun b o e => ?_, fun b o e => ?_⟩, os, bare⟩
    · by_cases z : b = Q
      · subst z
        rw [tQ] at e; cases e
        exact .inr (.inl ⟨(cQ.tab tQ).isCodeTable, rfl, #[], more, rfl, grown⟩)
      · exact .inl (keep b o z e)
    · by_cases z : b = Q
      · subst z; exact ⟨_, grown⟩
      · exact ⟨o, keep b o z e⟩
  | .ok .next, h => exact (show False from h).elim
  | .ok .brk, h => exact (show False from h).elim
  | .ok .cont, h => exact (show False from h).elim
end
/-- what the head gives of the law -/
structure LawG (l : PySem.W.OpenLaw) (w : World) (K : PySem.W.Frag) (k n : Nat) (x : Str) (mg : Str → Option Value) (fa : Addr) (h : Heap) : Prop where
  ex : ∃ (fd : FuncData) (c Q : Addr) (sp : Sp), h.get? Q = some (PySem.W.tabObj #[]) ∧ K.lookup Q = none ∧ PySem.W.CodeHd h c Q ∧ (∀ (z : Shared) (u : Value), BindsTo z fd ⟨[u], []⟩ [(x, u)]) ∧
    (∀ (t : Option HO) (a : Addr) (ns : List Int), ns.length ≤ n → a ≠ Q → ScT ns t → SqL K (scH t a Q) a (ns.map V.int) → sp [.ref a] (scH t a Q) (fun v _ => v = .bl true) fun _ _ _ => False) ∧
    ∀ base : Heap, K.In base → base.Ns mainGlobals mg → LamX.TabB base mg c Q → FnG l.prog w K mg base CX0 k fa fd [x] sp
theorem walk_G {l : PySem.W.OpenLaw} {n k : Nat} {q : Program} {loose : List Str} {XP : (Str → Option Value) → Heap → Prop} {YP : World → Heap → Prop} {d : DefRec} {x : Str}
    (hn : l.most = some n) (hn2 : n ≤ sizeLine) (hdf : d.params.defaults = []) (hr : Room k callerA)
    (F : ∀ (w : World) (mg : Str → Option Value) (fa : Addr) (h : Heap), YP w h → h.Ns mainGlobals mg → mg d.name = some (.ref fa) → ∃ K : PySem.W.Frag, K.In h ∧ LawG l w K k n x mg fa h) :
    PySem.W.WalkO q loose XP YP l.row.toRowW d [] (fun f vs => PySem.call f vs) := by
  refine Att.attach_callB hn hdf fun w s₀ s mg mb fa o pm cd doc a vs ns G Y ho hd hcd hmg la ia hlen hbits gn => ?_
  obtain ⟨K, KX, L⟩ := F w mg fa _ Y G.T.g hmg
  obtain ⟨fd, c, Q, sp, tQ, kQ, cQ, bd, hsp, FG⟩ := L.ex
  have ln := Nat.le_trans hlen hn2
  have vI := vals_ints ia
  have aQ : a ≠ Q := fun e => by
    rw [e, tQ] at la
    cases congrArg Obj.data (Option.some.inj la)
  cases hk : K.lookup a with
  | some o' =>
    have e := KX a o' hk
    rw [la] at e; cases e
    refine law_go (t := none) KX G.T.g G.T.b G.T.builtins G.T.nolimit gn tQ kQ cQ G.T.bmain la ia ln hr FG bd (.inl rfl) (fun z => absurd rfl z) (hsp none a ns hlen aQ (.inl rfl) (.inr ⟨_, vs.toArray, _, hk, rfl, rfl, rfl, by rw [List.size_toArray, ia.length]; exact ln, by simpa using vI⟩))
  | none =>
    refine law_go (t := some (.frz { cls := .type "list", data := .seq vs.toArray } (.lst (ns.map V.int)))) KX G.T.g G.T.b G.T.builtins G.T.nolimit gn tQ kQ cQ G.T.bmain la ia ln hr FG bd (.inr rfl) (fun _ => hk) (hsp _ a ns hlen aQ (.inr ⟨_, rfl⟩) (.inl (.inr ⟨_, scH_a _ aQ⟩)))
end PV
set_option maxHeartbeats 4000000
/-! The head: facts of the top, read off the heap. -/
namespace PV
open PySem PySem.Spec PyProof.Rows L2
/-! ### the law's promise at its call -/
theorem sp_start {K : PySem.W.Frag} {C a Q : Addr} {y : Str} {t : Option HO} {ns : List Int} {fs : FS} (tb : tbOf K = [(Q, lamQ y)]) (aQ : a ≠ Q) (ht : ScT ns t) (hS : SqL K (scH t a Q) a (ns.map V.int)) (hf : ∃ w', fs [.ro ns] none = .ok (false, .bl true) w') :
    spOf K (xrB C) 1 fs [.ref a] (scH t a Q) (fun v _ => v = .bl true) fun _ _ _ => False := by
  obtain ⟨w', hf⟩ := hf
  let g : G := ⟨fun b => if b = Q then none else if b = a then t else none, none, tbOf K⟩
  have gF : ∀ b o, g.F b = some o → b = a ∧ t = some o := fun b o e => by
    have e' : (if b = Q then none else if b = a then t else none) = some o := e
    by_cases z : b = Q
    · rw [if_pos z] at e'; cases e'
    · rw [if_neg z] at e'
      by_cases x : b = a
      · rw [if_pos x] at e'; exact ⟨x, e'⟩
      · rw [if_neg x] at e'; cases e'
  have ga : g.F a = t := by
    show (if a = Q then none else if a = a then t else none) = t
    rw [if_neg aQ, if_pos rfl]
  have ntb : ∀ ps, t ≠ some (.tbl ps) := fun ps e => by
    rcases ht with z | ⟨o, z⟩ <;> rw [z] at e <;> cases e
  refine ⟨rfl, g, [.ro ns], none, .cons (.ro ?_) .nil, ⟨fun b o e => ?_, rfl, fun b x => ?_, ⟨fun p hp => ?_, rfl⟩, fun b ps e => ?_, fun b ps e => ?_⟩, ?_⟩
  · rcases hS with h | h
    · refine .inl ?_
      rcases h with h | ⟨o, h⟩
      · rw [scH_a t aQ] at h; exact .inl (ga.trans h)
      · rw [scH_a t aQ] at h; exact .inr ⟨o, ga.trans h⟩
    · exact .inr h
  · obtain ⟨rfl, e2⟩ := gF b o e
    rw [scH_a t aQ]; exact e2
  · obtain ⟨p, q, r, e, _⟩ := x; cases e
  · have hp' : p ∈ tbOf K := hp
    rw [tb] at hp'
    rw [List.mem_singleton.1 hp']
    exact ⟨#[], scH_Q t a Q, True.intro, fun pos cv hc => by cases (show (none : Option Value) = some cv from hc)⟩
  · by_cases z : b = Q
    · refine ⟨lamQ y, ?_⟩
      show (b, lamQ y) ∈ tbOf K
      rw [tb, z]; exact List.mem_singleton.2 rfl
    · by_cases x : b = a
      · rw [x, scH_a t aQ] at e; exact absurd e (ntb ps)
      · rw [scH_o t z x] at e; cases e
  · exact ntb ps (gF b _ e).2
  · rw [hf]
    intro v g' H' _ _ hv
    have hv' : Dn K g' v (.bl true) := hv
    cases hv'; rfl
/-! ### facts as a Bool -/
/-- a class of errors whose line of bases goes up to ValueError, with a dict -/
def clsB (K : PySem.W.Frag) (C : Addr) : Bool := match K.lookup C with
  | some ⟨.type c, _, .cls cd, sl⟩ => decide (c = "type") && (match cd.mro, sl.toList with
    | .ref C' :: bm, [_, _, _, _, some (.builtin n), _] => decide (C' = C) && decide (n = "ValueError.__new__") && !cd.hasDel && cd.hasDict && HandSPX.refsVE bm
    | _, _ => false)
  | _ => false
theorem clsB_ok {K : PySem.W.Frag} {C : Addr} (h : clsB K C = true) : ∃ nm q N bs bm sn sub ab col dd k0 k1 k2 k3 k5, K.lookup C = some (excClassObj nm q C N bs bm true sn sub ab col dd k0 k1 k2 k3 k5 "ValueError.__new__") ∧ HandSPX.refsVE bm = true := by
  unfold clsB at h
  split at h
  · rename_i c dd cd sl hk
    obtain ⟨h1, h⟩ := Bool.and_eq_true_iff.1 h
    have e1 : c = "type" := of_decide_eq_true h1
    split at h
    · rename_i C' bm k0 k1 k2 k3 n k5 hm hs
      simp only [Bool.and_eq_true, decide_eq_true_eq, Bool.not_eq_true'] at h
      obtain ⟨⟨⟨⟨rfl, rfl⟩, hdel⟩, hd⟩, rv⟩ := h
      obtain ⟨nm, bs, mro, N, q, hdc, sn, sub, ab, col, del⟩ := cd
      dsimp only at hm hdel hd
      subst hm hdel hd e1
      refine ⟨nm, q, N, bs, bm, sn, sub, ab, col, dd, k0, k1, k2, k3, k5, ?_, rv⟩
      rw [hk]
      have : sl = #[k0, k1, k2, k3, some (.builtin "ValueError.__new__"), k5] := by
        rw [← Array.toArray_toList (xs := sl), hs]
      rw [this]
    · cases h
  · cases h
/-- the rest of what is asked of the class BadText at C, f its __init__ -/
def btB2 (K : PySem.W.Frag) (C f : Addr) : Bool :=
  (decide (PySem.W.findIn K (.ref C) "__setattr__" = some (some (.builtin "object.__setattr__"))) && decide (PySem.W.findIn K (.ref C) "at" = some none) && decide (PySem.W.findIn K (.ref C) "__init__" = some (some (.ref f))) &&
  decide (PySem.W.typeIn K (.ref f) = some (.type "function")) && PySem.W.keepIn K (.ref C) && decide (PySem.W.subIn K (.ref C) (.type "BaseException") = some true) && decide (PySem.W.subIn K (.ref C) (.type "ValueError") = some true) &&
  decide (PySem.W.mroIn K C (.ref C) = some true) && decide (PySem.W.typeIn K (.ref C) = some (.type "type")) && PySem.W.hasDictIn K C && decide (PySem.W.ks_superIn K C C "__init__" = some (some (.builtin "ValueError.__init__"))) &&
  decide (PySem.W.nsIn K cStatics "thirdparty.any" = some none))
structure BtF (K : PySem.W.Frag) (C f : Addr) : Prop where
  sa : PySem.W.findIn K (.ref C) "__setattr__" = some (some (.builtin "object.__setattr__"))
  noN : PySem.W.findIn K (.ref C) "at" = some none
  iC : PySem.W.findIn K (.ref C) "__init__" = some (some (.ref f))
  tC : PySem.W.typeIn K (.ref f) = some (.type "function")
  kC : PySem.W.keepIn K (.ref C) = true
  exC : PySem.W.subIn K (.ref C) (.type "BaseException") = some true
  vaC : PySem.W.subIn K (.ref C) (.type "ValueError") = some true
  meC : PySem.W.mroIn K C (.ref C) = some true
  tyC : PySem.W.typeIn K (.ref C) = some (.type "type")
  hdC : PySem.W.hasDictIn K C = true
  sup : PySem.W.ks_superIn K C C "__init__" = some (some (.builtin "ValueError.__init__"))
  opq : PySem.W.nsIn K cStatics "thirdparty.any" = some none
theorem btB2_ok {K : PySem.W.Frag} {C f : Addr} (h : btB2 K C f = true) : BtF K C f := by
  unfold btB2 at h
  simp only [Bool.and_eq_true, decide_eq_true_eq] at h
  obtain ⟨⟨⟨⟨⟨⟨⟨⟨⟨⟨⟨h1, h2⟩, h3⟩, h4⟩, h5⟩, h6⟩, h7⟩, h8⟩, h9⟩, h10⟩, h11⟩, h12⟩ := h
  exact ⟨h1, h2, h3, h4, h5, h6, h7, h8, h9, h10, h11, h12⟩
/-- what is asked of it where it is caught as CP and looked at -/
def erB2 (K : PySem.W.Frag) (C CP : Addr) : Bool :=
  decide (PySem.W.findIn K (.ref C) "__getattribute__" = some (some (.builtin "BaseException.__getattribute__"))) && decide (PySem.W.findIn K (.ref C) "__getattr__" = some none) &&
  decide (PySem.W.findIn K (.ref C) "__class__" = some (some (.builtin "object.__class__"))) && decide (PySem.W.specialIn K (.builtin "object.__class__") "__get__" = some (some (.builtin "getset_descriptor.__get__"))) &&
  decide (PySem.W.takesIn K (.builtin "object.__class__") = some true) && decide (PySem.W.mroIn K C (.type "object") = some true) && decide (PySem.W.kitOne K (.ref C) (.ref C) = some true) && decide (PySem.W.exmOne K (.ref C) (.ref CP) = some true)
structure ErF (K : PySem.W.Frag) (C CP : Addr) : Prop where
  ga : PySem.W.findIn K (.ref C) "__getattribute__" = some (some (.builtin "BaseException.__getattribute__"))
  gg : PySem.W.findIn K (.ref C) "__getattr__" = some none
  ha : PySem.W.findIn K (.ref C) "__class__" = some (some (.builtin "object.__class__"))
  hn : PySem.W.specialIn K (.builtin "object.__class__") "__get__" = some (some (.builtin "getset_descriptor.__get__"))
  ht : PySem.W.takesIn K (.builtin "object.__class__") = some true
  hm : PySem.W.mroIn K C (.type "object") = some true
  kit : PySem.W.kitOne K (.ref C) (.ref C) = some true
  exm : PySem.W.exmOne K (.ref C) (.ref CP) = some true
theorem erB2_ok {K : PySem.W.Frag} {C CP : Addr} (h : erB2 K C CP = true) : ErF K C CP := by
  unfold erB2 at h
  simp only [Bool.and_eq_true, decide_eq_true_eq] at h
  obtain ⟨⟨⟨⟨⟨⟨⟨h1, h2⟩, h3⟩, h4⟩, h5⟩, h6⟩, h7⟩, h8⟩ := h
  exact ⟨h1, h2, h3, h4, h5, h6, h7, h8⟩
theorem ErF.exc {K : PySem.W.Frag} {C CP f : Addr} (e : ErF K C CP) (b : BtF K C f) : L2.ExcC K C := ⟨e.ga, e.gg, b.exC, b.hdC, e.ha, e.hn, e.ht, e.hm⟩
theorem ErF.xf {K : PySem.W.Frag} {C CP f : Addr} (e : ErF K C CP) (b : BtF K C f) : L2.XfC K C := ⟨e.ga, e.gg, b.exC, b.hdC⟩
/-! ### the __init__ with its cell -/
abbrev FnZ : Type := Option (Str × Str × Arguments × FuncBody × Scope × Addr × List Str × Value × Value × Addr)
def fnZ (K : PySem.W.Frag) (f : Addr) : FnZ := match K.lookup f with
  | some ⟨_, _, .func fd, _⟩ => some (fd.name, fd.qualname, fd.params, fd.body, fd.scope, fd.globals, fd.closure.map (·.1), fd.defaults, fd.kwdefaults, fd.builtins)
  | _ => none
/-- its code (in the file fl) and its cell (holding C) -/
def inB (K : PySem.W.Frag) (fl q : Str) (f C : Addr) : Bool := match K.lookup f with
  | some ⟨_, _, .func fd, _⟩ => (match fd.code with
    | .ref cd => PySem.W.codeIn K (.ref cd) q && (match K.lookup cd with
      | some ⟨_, _, .fields vs, _⟩ => (match (vs[2]? : Option Value) with
        | some (.str z _) => fl == z
        | _ => false)
      | _ => false)
    | _ => false) && (match fd.closure with
    | [(_, cc)] => (match K.lookup cc with
      | some ⟨_, _, .cell (some (.ref C')), _⟩ => decide (C' = C)
      | _ => false)
    | _ => false)
  | _ => false
theorem in_ok {K : PySem.W.Frag} {fl nm q : Str} {pA : Arguments} {b : List Stmt} {sc : Scope} {f C : Addr} (e : fnZ K f = (some (nm, q, pA, FuncBody.stmts b, sc, mainGlobals, ["__class__"], Value.none, Value.none, builtinsNs) : FnZ)) (h : inB K fl q f C = true) :
    ∃ (oc : Value) (od : Option Addr) (doc pm : Value) (an : Option Addr) (cda : Addr) (ct : Value) (cc : Addr) (osl : Array (Option Value)),
      K.lookup f = some ⟨oc, od, .func (PySem.W.ksFn nm q pA b sc .none .none doc pm an (.ref cda) ct cc), osl⟩ ∧ PySem.W.codeIn K (.ref cda) q = true ∧
      (∃ (c1 : Value) (d1 : Option Addr) (vs : Array Value) (s1 : Array (Option Value)) (file : Str) (tf : Tok), K.lookup cda = some ⟨c1, d1, .fields vs, s1⟩ ∧ vs[2]? = some (.str file tf) ∧ (fl == file) = true) ∧
      (∃ (c2 : Value) (d2 : Option Addr) (s2 : Array (Option Value)), K.lookup cc = some ⟨c2, d2, .cell (some (.ref C)), s2⟩) := by
  unfold fnZ at e
  unfold inB at h
  split at e
  · rename_i oc od fd osl hk
    rw [hk] at h
    obtain ⟨n1, n2, n3, n4, n5, n6, n7, n8, n9, n10, n11, n12, n13, n14, n15⟩ := fd
    simp only [Option.some.injEq, Prod.mk.injEq] at e
    obtain ⟨h1, h2, h3, h4, h5, h6, h7, h8, h9, h10⟩ := e
    subst h1 h2 h3 h4 h5 h6 h8 h9 h10
    obtain ⟨ha, hb⟩ := Bool.and_eq_true_iff.1 h
    dsimp only at ha hb h7
    split at ha
    · rename_i cd
      obtain ⟨hc, hf⟩ := Bool.and_eq_true_iff.1 ha
      split at hf
      · rename_i c1 d1 us s1 hcd
        split at hf
        · rename_i z tf hz
          split at hb
          · rename_i y cc
            have hy : y = "__class__" := by simpa using h7
            subst hy
            split at hb
            · rename_i c2 d2 C' s2 hcc
              have hC : C' = C := of_decide_eq_true hb
              subst hC
              exact ⟨oc, od, n10, n11, n12, cd, n14, cc, osl, hk, hc, ⟨c1, d1, us, s1, z, tf, hcd, hz, hf⟩, ⟨c2, d2, s2, hcc⟩⟩
            · cases hb
          · cases hb
        · cases hf
      · cases hf
    · cases ha
  · cases e
/-! ### the Hook -/
/-- the module's names, what they reach, and the statics -/
def asZ (g : Addr → Option Obj) (n : Nat) : List Addr := cStatics :: He.asD g n
abbrev AlZ : Type := He.AlD × FnZ × Bool
def obsZ (n : Nat) (fa : List He.Fa) (fn : List He.DefD) (p : He.Defn) (iz : PySem.W.Frag → Addr) (ex : PySem.W.Frag → Bool) (g : Addr → Option Obj) : AlZ :=
  (He.obsD fa fn (He.frT g (asZ g n)), fnZ (He.frT g (asZ g n)) (iz (He.frT g (asZ g n))), ex (He.frT g (asZ g n)) && He.tabsB g [p] (He.frT g (asZ g n)))
structure SaysZ (fa : List He.Fa) (fn : List He.DefD) (p : He.Defn) (iz : PySem.W.Frag → Addr) (ex : PySem.W.Frag → Bool) (z : FnZ) (h : Heap) (K : PySem.W.Frag) : Prop where
  d : He.SaysD fa fn K
  i : fnZ K (iz K) = z
  more : ex K = true
  hd : PySem.W.codeHdIn K (He.cT K p).1 (He.cT K p).2 = true
  out : K.lookup (He.cT K p).2 = none
  emp : h.get? (He.cT K p).2 = some (PySem.W.tabObj #[])
theorem saysZ_of {n : Nat} {fa : List He.Fa} {fn : List He.DefD} {p : He.Defn} {iz : PySem.W.Frag → Addr} {ex : PySem.W.Frag → Bool} {z : FnZ} {h : Heap} (e : obsZ n fa fn p iz ex h.get? = (He.valD fn, z, true)) : SaysZ fa fn p iz ex z h (He.frT h.get? (asZ h.get? n)) := by
  have e1 : He.obsD fa fn (He.frT h.get? (asZ h.get? n)) = He.valD fn := congrArg (fun q : AlZ => q.1) e
  have e2 : fnZ (He.frT h.get? (asZ h.get? n)) (iz (He.frT h.get? (asZ h.get? n))) = z := congrArg (fun q : AlZ => q.2.1) e
  have e3 : (ex (He.frT h.get? (asZ h.get? n)) && He.tabsB h.get? [p] (He.frT h.get? (asZ h.get? n))) = true := congrArg (fun q : AlZ => q.2.2) e
  obtain ⟨h1, h2⟩ := Bool.and_eq_true_iff.1 e3
  obtain ⟨h3, h4⟩ := Bool.and_eq_true_iff.1 (List.all_eq_true.1 h2 p (List.mem_singleton.2 rfl))
  cases q : h.get? (He.cT (He.frT h.get? (asZ h.get? n)) p).2 with
  | none => rw [q] at h4; cases h4
  | some o =>
    rw [q] at h4
    exact ⟨e1, e2, h1, h3, He.frT_none q h4, by rw [q, He.emptyTab_eq h4]⟩
def hookZ (n : Nat) (fa : List He.Fa) (fn : List He.DefD) (p : He.Defn) (iz : PySem.W.Frag → Addr) (ex : PySem.W.Frag → Bool) (z : FnZ) : PySem.W.Hook where
  α := AlZ
  obs := fun s => obsZ n fa fn p iz ex s.heap.get?
  val := fun _ => (He.valD fn, z, true)
  says := fun _ h => ∃ K : PySem.W.Frag, K.In h ∧ SaysZ fa fn p iz ex z h K
  of := fun _ _ e => ⟨_, He.frT_in, saysZ_of e⟩
  keeps := fun _ _ _ ⟨K, hK, c⟩ k => ⟨K, PySem.W.Frag.In.keeps hK k, ⟨c.d, c.i, c.more, c.hd, c.out, k _ _ c.emp⟩⟩
theorem obsZ_eq {n : Nat} {fa : List He.Fa} {fn : List He.DefD} {p : He.Defn} {iz : PySem.W.Frag → Addr} {ex : PySem.W.Frag → Bool} {z : FnZ} {g : Addr → Option Obj} {s : Shared} (h : ∀ a, g a = s.heap.get? a) : obsZ n fa fn p iz ex g = (hookZ n fa fn p iz ex z).obs s := by
  have e : g = s.heap.get? := funext h
  rw [e] <;> rfl
/-! ### defs, constants -/
/-- a def of the text, without defaults -/
def dfOf (y : Str) (st : Stmt) : He.DefD := ⟨(y, none), y, y, defArgs st, defBody st, defScope st, [], []⟩
section
variable {K : PySem.W.Frag} {h : Heap} {mg : Str → Option Value} {fa : List He.Fa} {fn : List He.DefD}
theorem fun_of {y : Str} {st : Stmt} {f : Addr} {fd : FuncData} (F : FunD K y y (defArgs st) (defBody st) (defScope st) [] [] f fd) : Fun K y y st f fd := by
  obtain ⟨oc, od, dV, kV, doc, pm, an, cdv, ct, osl, e, lk, hc, hd, _⟩ := F.ex
  rcases hd with ⟨_, e2⟩ | ⟨hne, _⟩
  · subst e2
    exact ⟨⟨oc, od, kV, doc, pm, an, cdv, ct, osl, e, lk, hc⟩, F.kp⟩
  · exact absurd rfl hne
theorem def_of (X : K.In h) (G : h.Ns mainGlobals mg) (c : He.SaysD fa fn K) {y : Str} {st : Stmt} (hd : dfOf y st ∈ fn) (hf : He.Fa.glo y ∈ fa) : ∃ fd, Fun K y y st (He.ga K y) fd ∧ mg y = some (.ref (He.ga K y)) := by
  obtain ⟨fd, F⟩ := c.defs hd
  exact ⟨fd, fun_of F, He.glo_ok X G (c.facts hf)⟩
theorem txt_of (X : K.In h) (G : h.Ns mainGlobals mg) (c : He.SaysD fa fn K) {y : Str} {st : Stmt} (hd : dfOf y st ∈ fn) (hf : He.Fa.glo y ∈ fa) : TxtDef K mg y st := by
  obtain ⟨fd, F, e⟩ := def_of X G c hd hf
  exact ⟨_, fd, F, e⟩
theorem free_of (X : K.In h) (G : h.Ns mainGlobals mg) (c : He.SaysD fa fn K) {y : Str} (hf : He.Fa.free y ∈ fa) : mg y = none := He.free_ok X G (c.facts hf)
theorem globS (X : K.In h) (G : h.Ns mainGlobals mg) (c : He.SaysD fa fn K) {y z : Str} (hf : He.Fa.str y z ∈ fa) : GlobC K mg y (.str z) := by
  obtain ⟨t, e⟩ := He.str_ok X G (c.facts hf)
  exact ⟨_, .str z, e, ⟨t, rfl⟩, fun g => .str z⟩
theorem globI (X : K.In h) (G : h.Ns mainGlobals mg) (c : He.SaysD fa fn K) {y : Str} {i : Int} (hf : He.Fa.int y i ∈ fa) : GlobC K mg y (.int i) := by
  obtain ⟨t, e⟩ := He.int_ok X G (c.facts hf)
  exact ⟨_, .int i, e, ⟨t, rfl⟩, fun g => .int i⟩
theorem tupW {x : Str} {vs : List He.Dv} (e : He.tupB K x vs = true) : WrT K (He.ga K x) (vs.map (He.Dv.v K)) := by
  rcases He.tupB_ok e (fun _ => none) with h | h
  · rcases h with h | ⟨o, h⟩ <;> cases h
  · exact h
/-- a tuple of many texts -/
theorem globT (X : K.In h) (G : h.Ns mainGlobals mg) (c : He.SaysD fa fn K) {y : Str} {zs : List Str} (hf : He.Fa.glo y ∈ fa) (e : He.tupB K y (zs.map He.Dv.str) = true) (hl : 8 < zs.length) : GlobC K mg y (.tup (zs.map D.str)) := by
  refine ⟨_, .ref (He.ga K y), He.glo_ok X G (c.facts hf), rfl, fun g => .tup (xs := zs.map V.str) (.inr ⟨?_, ?_⟩) (DnAll.of_strs zs)⟩
  · unfold wkey
    rw [List.length_map, decide_eq_false (by omega)]; rfl
  · have z := tupW e
    rw [List.map_map] at z
    exact z
end
end PV
set_option maxHeartbeats 0
namespace K72
open PySem PySem.Spec PyProof.Rows L2 PV TL
def fn : List He.DefD := [dfOf "is_name" (top 31), dfOf "is_number" (top 32), dfOf "is_word" (top 33), dfOf "is_row" (top 34), dfOf "common_divisor" (top 36), dfOf "is_fraction" (top 37), dfOf "is_work" (top 39), dfOf "is_text_of_number" (top 43), dfOf "fraction_text" (top 44), dfOf "fraction_in" (top 45), dfOf "length_of" (top 46), dfOf "check_long" (top 47), dfOf "work_line" (top 49), dfOf "short_line" (top 50), dfOf "work_in" (top 51), dfOf "work_text" (top 52), dfOf "_law_begun" (top 55), dfOf "_law_mixed" (top 56), dfOf "_law_take" (top 57), dfOf "_law_pick" (top 58), dfOf "_law_shuffled" (top 59), dfOf "_law_names" (top 61), dfOf "_law_divisor" (top 62), dfOf "_law_fraction" (top 63), dfOf "_law_same" (top 64), dfOf "_law_kept" (top 67), dfOf "_law_is_name" (top 68), dfOf "_law_is_number" (top 69), dfOf "_law_is_fraction" (top 70), dfOf "_law_is_small" (top 71), dfOf "_law_is_a_work" (top 72), dfOf "_law_fraction_text" (top 73), dfOf "_law_work_line" (top 74), dfOf "_law_is_figures" (top 75), dfOf "read_work" (top 53), dfOf "law" (top 76), dfOf "_law_caught" (top 60), dfOf "_law_error" (top 65)]
def fa : List He.Fa := [.glo "is_name", .glo "is_number", .glo "is_word", .glo "is_row", .glo "common_divisor", .glo "is_fraction", .glo "is_work", .glo "is_text_of_number", .glo "fraction_text", .glo "fraction_in", .glo "length_of", .glo "check_long", .glo "work_line", .glo "short_line", .glo "work_in", .glo "work_text", .glo "_law_begun", .glo "_law_mixed", .glo "_law_take", .glo "_law_pick", .glo "_law_shuffled", .glo "_law_names", .glo "_law_divisor", .glo "_law_fraction", .glo "_law_same", .glo "_law_kept", .glo "_law_is_name", .glo "_law_is_number", .glo "_law_is_fraction", .glo "_law_is_small", .glo "_law_is_a_work", .glo "_law_fraction_text", .glo "_law_work_line", .glo "_law_is_figures", .glo "read_work", .glo "law", .glo "_law_caught", .glo "_law_error", .glo "BadText", .glo "PlaceError", .glo "KEPT", .free "len", .free "abs", .free "int", .free "str", .free "list", .free "tuple", .free "bool", .free "dict", .free "all", .free "any", .free "sum", .free "min", .free "max", .free "sorted", .free "repr", .free "range", .free "isinstance", .free "super", .str "LETTERS" letS, .str "FIGURES" figS, .int "LONG" 400]
def iz (K : PySem.W.Frag) : Addr := He.ma K (He.ga K "BadText") "__init__"
def pL : He.Defn := ("law", none)
def fileS : Str := "/claim/cut.py"
def ex (K : PySem.W.Frag) : Bool := He.tupB K "KEPT" (keptL.map He.Dv.str) && (clsB K (He.ga K "BadText") && (btB2 K (He.ga K "BadText") (iz K) && (inB K fileS "BadText.__init__" (iz K) (He.ga K "BadText") && (erB2 K (He.ga K "BadText") (He.ga K "PlaceError") && decide (tbOf K = [((He.cT K pL).2, lamQ "law")])))))
def zI : FnZ := some ("__init__", "BadText.__init__", btA, FuncBody.stmts btB, btS, mainGlobals, ["__class__"], Value.none, Value.none, builtinsNs)
abbrev R : PySem.W.OpenRow := PySem.W.OpenLaw.row PySem.Challenge.rw_untoldplaces_k72_texts_of_works
abbrev hk : PySem.W.Hook := hookZ 4 fa fn pL iz ex zI
def ob (s : PySem.W.SharedT) : AlZ := obsZ 4 fa fn pL iz ex (HandSHeadRun.getT s)
theorem ob_eq (s : PySem.W.SharedT) : ob s = hk.obs s.abs := obsZ_eq (HandSHeadRun.getT_eq s)
abbrev qv : Program := PySem.W.view R.prog [76]
def lo0 : List Str := ["__name__", "PlaceError", "Alone", "BadBook", "BadFull", "BadGiven", "BadLine", "BadName", "BadNumber", "BadNumbers", "BadOne", "BadOther", "BadOthers", "BadSome", "BadSteps", "BadTable", "BadWeights", "BadWork", "NotChordal", "NotFirm"]
def lo1 : List Str := ["NotNear", "NotNow", "NotSound", "Told", "TooFar", "Untold", "BadText", "TooMany", "KEPT", "LETTERS", "is_name", "is_number", "is_word", "is_row", "common_divisor", "is_fraction", "is_work", "FIGURES", "LONG", "is_text_of_number"]
def lo2 : List Str := ["fraction_text", "fraction_in", "length_of", "check_long", "work_line", "short_line", "work_in", "work_text", "read_work", "_law_begun", "_law_mixed", "_law_take", "_law_pick", "_law_shuffled", "_law_caught", "_law_names", "_law_divisor", "_law_fraction", "_law_same", "_law_error"]
def lo3 : List Str := ["_law_last_error", "_law_kept", "_law_is_name", "_law_is_number", "_law_is_fraction", "_law_is_small", "_law_is_a_work", "_law_fraction_text", "_law_work_line", "_law_is_figures"]
def loose : List Str := lo0 ++ lo1 ++ lo2 ++ lo3
theorem run (w : World) : HandSHeadRun.RunEq R qv hk ob 40000 loose w := by
  intro os
  kernel_rfl
end K72
set_option maxHeartbeats 4000000
namespace K72
open PySem PySem.Spec PyProof.Rows L2 PV TL
section
variable {P : Program} {w : World} {K : PySem.W.Frag} {h : Heap} {mg : Str → Option Value}
theorem f_blt (X : K.In h) (G : h.Ns mainGlobals mg) (c : He.SaysD fa fn K) : Blt mg :=
  ⟨free_of X G c (List.mem_of_getElem? (i := 41) rfl), free_of X G c (List.mem_of_getElem? (i := 42) rfl), free_of X G c (List.mem_of_getElem? (i := 43) rfl), free_of X G c (List.mem_of_getElem? (i := 44) rfl), free_of X G c (List.mem_of_getElem? (i := 45) rfl), free_of X G c (List.mem_of_getElem? (i := 46) rfl), free_of X G c (List.mem_of_getElem? (i := 47) rfl), free_of X G c (List.mem_of_getElem? (i := 48) rfl), free_of X G c (List.mem_of_getElem? (i := 49) rfl), free_of X G c (List.mem_of_getElem? (i := 50) rfl), free_of X G c (List.mem_of_getElem? (i := 51) rfl), free_of X G c (List.mem_of_getElem? (i := 52) rfl), free_of X G c (List.mem_of_getElem? (i := 53) rfl), free_of X G c (List.mem_of_getElem? (i := 54) rfl), free_of X G c (List.mem_of_getElem? (i := 55) rfl), free_of X G c (List.mem_of_getElem? (i := 56) rfl), free_of X G c (List.mem_of_getElem? (i := 57) rfl)⟩
theorem ex_ok {K : PySem.W.Frag} (e : ex K = true) : He.tupB K "KEPT" (keptL.map He.Dv.str) = true ∧ clsB K (He.ga K "BadText") = true ∧ btB2 K (He.ga K "BadText") (iz K) = true ∧ inB K fileS "BadText.__init__" (iz K) (He.ga K "BadText") = true ∧ erB2 K (He.ga K "BadText") (He.ga K "PlaceError") = true ∧ tbOf K = [((He.cT K pL).2, lamQ "law")] := by
  unfold ex at e
  simp only [Bool.and_eq_true, decide_eq_true_eq] at e
  exact e
theorem f_txt (X : K.In h) (G : h.Ns mainGlobals mg) (c : He.SaysD fa fn K) (e : ex K = true) : Txt K mg where
  blt := f_blt X G c
  d_is_name := txt_of X G c (List.mem_of_getElem? (i := 0) rfl) (List.mem_of_getElem? (i := 0) rfl)
  d_is_number := txt_of X G c (List.mem_of_getElem? (i := 1) rfl) (List.mem_of_getElem? (i := 1) rfl)
  d_is_word := txt_of X G c (List.mem_of_getElem? (i := 2) rfl) (List.mem_of_getElem? (i := 2) rfl)
  d_is_row := txt_of X G c (List.mem_of_getElem? (i := 3) rfl) (List.mem_of_getElem? (i := 3) rfl)
  d_common_divisor := txt_of X G c (List.mem_of_getElem? (i := 4) rfl) (List.mem_of_getElem? (i := 4) rfl)
  d_is_fraction := txt_of X G c (List.mem_of_getElem? (i := 5) rfl) (List.mem_of_getElem? (i := 5) rfl)
  d_is_work := txt_of X G c (List.mem_of_getElem? (i := 6) rfl) (List.mem_of_getElem? (i := 6) rfl)
  d_is_text_of_number := txt_of X G c (List.mem_of_getElem? (i := 7) rfl) (List.mem_of_getElem? (i := 7) rfl)
  d_fraction_text := txt_of X G c (List.mem_of_getElem? (i := 8) rfl) (List.mem_of_getElem? (i := 8) rfl)
  d_fraction_in := txt_of X G c (List.mem_of_getElem? (i := 9) rfl) (List.mem_of_getElem? (i := 9) rfl)
  d_length_of := txt_of X G c (List.mem_of_getElem? (i := 10) rfl) (List.mem_of_getElem? (i := 10) rfl)
  d_check_long := txt_of X G c (List.mem_of_getElem? (i := 11) rfl) (List.mem_of_getElem? (i := 11) rfl)
  d_work_line := txt_of X G c (List.mem_of_getElem? (i := 12) rfl) (List.mem_of_getElem? (i := 12) rfl)
  d_short_line := txt_of X G c (List.mem_of_getElem? (i := 13) rfl) (List.mem_of_getElem? (i := 13) rfl)
  d_work_in := txt_of X G c (List.mem_of_getElem? (i := 14) rfl) (List.mem_of_getElem? (i := 14) rfl)
  d_work_text := txt_of X G c (List.mem_of_getElem? (i := 15) rfl) (List.mem_of_getElem? (i := 15) rfl)
  d__law_begun := txt_of X G c (List.mem_of_getElem? (i := 16) rfl) (List.mem_of_getElem? (i := 16) rfl)
  d__law_mixed := txt_of X G c (List.mem_of_getElem? (i := 17) rfl) (List.mem_of_getElem? (i := 17) rfl)
  d__law_take := txt_of X G c (List.mem_of_getElem? (i := 18) rfl) (List.mem_of_getElem? (i := 18) rfl)
  d__law_pick := txt_of X G c (List.mem_of_getElem? (i := 19) rfl) (List.mem_of_getElem? (i := 19) rfl)
  d__law_shuffled := txt_of X G c (List.mem_of_getElem? (i := 20) rfl) (List.mem_of_getElem? (i := 20) rfl)
  d__law_names := txt_of X G c (List.mem_of_getElem? (i := 21) rfl) (List.mem_of_getElem? (i := 21) rfl)
  d__law_divisor := txt_of X G c (List.mem_of_getElem? (i := 22) rfl) (List.mem_of_getElem? (i := 22) rfl)
  d__law_fraction := txt_of X G c (List.mem_of_getElem? (i := 23) rfl) (List.mem_of_getElem? (i := 23) rfl)
  d__law_same := txt_of X G c (List.mem_of_getElem? (i := 24) rfl) (List.mem_of_getElem? (i := 24) rfl)
  d__law_kept := txt_of X G c (List.mem_of_getElem? (i := 25) rfl) (List.mem_of_getElem? (i := 25) rfl)
  d__law_is_name := txt_of X G c (List.mem_of_getElem? (i := 26) rfl) (List.mem_of_getElem? (i := 26) rfl)
  d__law_is_number := txt_of X G c (List.mem_of_getElem? (i := 27) rfl) (List.mem_of_getElem? (i := 27) rfl)
  d__law_is_fraction := txt_of X G c (List.mem_of_getElem? (i := 28) rfl) (List.mem_of_getElem? (i := 28) rfl)
  d__law_is_small := txt_of X G c (List.mem_of_getElem? (i := 29) rfl) (List.mem_of_getElem? (i := 29) rfl)
  d__law_is_a_work := txt_of X G c (List.mem_of_getElem? (i := 30) rfl) (List.mem_of_getElem? (i := 30) rfl)
  d__law_fraction_text := txt_of X G c (List.mem_of_getElem? (i := 31) rfl) (List.mem_of_getElem? (i := 31) rfl)
  d__law_work_line := txt_of X G c (List.mem_of_getElem? (i := 32) rfl) (List.mem_of_getElem? (i := 32) rfl)
  d__law_is_figures := txt_of X G c (List.mem_of_getElem? (i := 33) rfl) (List.mem_of_getElem? (i := 33) rfl)
  d_read_work := txt_of X G c (List.mem_of_getElem? (i := 34) rfl) (List.mem_of_getElem? (i := 34) rfl)
  d_law := txt_of X G c (List.mem_of_getElem? (i := 35) rfl) (List.mem_of_getElem? (i := 35) rfl)
  g_FIGURES := globS X G c (List.mem_of_getElem? (i := 60) rfl)
  g_KEPT := globT X G c (List.mem_of_getElem? (i := 40) rfl) (ex_ok e).1 (by decide +kernel)
  g_LETTERS := globS X G c (List.mem_of_getElem? (i := 59) rfl)
  g_LONG := globI X G c (List.mem_of_getElem? (i := 61) rfl)
theorem f_txx (X : K.In h) (G : h.Ns mainGlobals mg) (c : He.SaysD fa fn K) (e : ex K = true) (ei : fnZ K (iz K) = zI) : TxtX R.prog K mg (xrB (He.ga K "BadText")) (He.ga K "BadText") (iz K) := by
  obtain ⟨_, ec, eb, en, _, _⟩ := ex_ok e
  have b := btB2_ok eb
  refine ⟨{ gC := He.glo_ok X G (c.facts (List.mem_of_getElem? (i := 38) rfl)), cls := clsB_ok ec, sa := b.sa, noN := b.noN, iC := b.iC, tC := b.tC, kC := b.kC, exC := b.exC, vaC := b.vaC, meC := b.meC, tyC := b.tyC, hdC := b.hdC, sup := b.sup, opq := b.opq, spr := free_of X G c (List.mem_of_getElem? (i := 58) rfl), top := by decide +kernel, fn := in_ok ei en }, fun n d H hd => ⟨n, d, rfl, rfl, rfl, hd⟩⟩
theorem f_er (X : K.In h) (G : h.Ns mainGlobals mg) (c : He.SaysD fa fn K) (e : ex K = true) : ErTxt K mg (top 65) (top 60) (He.ga K "BadText") (He.ga K "PlaceError") := by
  obtain ⟨_, ec, eb, en, er, _⟩ := ex_ok e
  have b := btB2_ok eb
  have r := erB2_ok er
  have cg : CgTxt K mg (top 60) (He.ga K "PlaceError") :=
    { d := txt_of X G c (List.mem_of_getElem? (i := 36) rfl) (List.mem_of_getElem? (i := 36) rfl), sc := ⟨rfl, rfl, rfl, by decide +kernel, rfl, by decide +kernel, by decide +kernel⟩, loc := by decide +kernel, prb := by decide +kernel, wrk := by decide +kernel, gpe := by decide +kernel, body := ⟨_, _, _, _, _, _, _, _, _, _, _, _, _, _, rfl⟩,
      bind := (fun _ _ _ _ _ _ us hl => match us, hl with | [_], _ => rfl), gP := He.glo_ok X G (c.facts (List.mem_of_getElem? (i := 39) rfl)) }
  exact { cg := cg, d := txt_of X G c (List.mem_of_getElem? (i := 37) rfl) (List.mem_of_getElem? (i := 37) rfl), sc := ⟨rfl, rfl, rfl, by decide +kernel, rfl, by decide +kernel, by decide +kernel⟩, wrk := by decide +kernel, loc := by decide +kernel, gcg := by decide +kernel, gis := by decide +kernel, gbt := (by decide +kernel), body := ⟨_, _, _, _, _, _, _, _, _, _, _, _, _, _, _, _, _, _, rfl⟩, bind := (fun _ _ _ _ _ _ us hl => match us, hl with | [_], _ => rfl), isi := free_of X G c (List.mem_of_getElem? (i := 57) rfl), gC := He.glo_ok X G (c.facts (List.mem_of_getElem? (i := 38) rfl)), ex := r.exc b, xf := r.xf b, noN := b.noN, kit := r.kit, exm := r.exm }
theorem fun_eq {y : Str} {st : Stmt} {f : Addr} {fd fd' : FuncData} (F : Fun K y y st f fd) (F' : Fun K y y st f fd') : fd = fd' := by
  obtain ⟨oc, od, kV, doc, pm, an, cdv, ct, osl, e, lk, hc⟩ := F.ex
  obtain ⟨oc', od', kV', doc', pm', an', cdv', ct', osl', e', lk', hc'⟩ := F'.ex
  rw [lk] at lk'
  cases lk'; rfl
theorem f_law (X : K.In h) (G : h.Ns mainGlobals mg) (c : He.SaysD fa fn K) (e : ex K = true) : ∃ fd, Fun K "law" "law" s_law (He.ga K "law") fd ∧ mg "law" = some (.ref (He.ga K "law")) ∧ fd.code = .ref (He.cT K pL).1 ∧ ∀ (z : Shared) (u : Value), BindsTo z fd ⟨[u], []⟩ [("script", u)] := by
  obtain ⟨fd, FD0⟩ := c.defs (d := dfOf "law" (top 76)) (List.mem_of_getElem? (i := 35) rfl)
  have FD : FunD K "law" "law" (defArgs (top 76)) (defBody (top 76)) (defScope (top 76)) [] [] (He.ga K "law") fd := FD0
  have F := fun_of FD
  have g := He.glo_ok X G (c.facts (f := .glo "law") (List.mem_of_getElem? (i := 35) rfl))
  have bd := FunD.bindsA (ps := ["script"]) FD fun _ _ _ _ _ _ us hl => match us, hl with | [_], _ => rfl
  refine ⟨fd, F, g, ?_, fun z u => bd z [u] rfl⟩
  obtain ⟨oc, od, kV, doc, pm, an, cdv, ct, osl, e', lk, hc⟩ := F.ex
  obtain ⟨cc, hcc⟩ := He.codeIn_ref hc
  have ec : fd.code = .ref cc := by rw [e']; exact hcc
  have k : He.codeOf K pL = cc := He.codeOf_eq lk ec
  show fd.code = .ref (He.codeOf K pL)
  rw [k, ec]
theorem f_end (X : K.In h) (G : h.Ns mainGlobals mg) {fa' : Addr} (hfa : mg "law" = some (.ref fa')) (s : SaysZ fa fn pL iz ex zI h K) : LawG PySem.Challenge.rw_untoldplaces_k72_texts_of_works w K 9 63 "script" mg fa' h := by
  obtain ⟨fd, F, g, hc, bd⟩ := f_law X G s.d s.more
  rw [g] at hfa
  cases hfa
  have tb := (ex_ok s.more).2.2.2.2.2
  refine ⟨fd, (He.cT K pL).1, (He.cT K pL).2, spOf K (xrB (He.ga K "BadText")) 1 F_law, s.emp, s.out, PySem.W.codeHd_of_K X s.hd, bd, fun t a ns _ aQ ht hS => sp_start tb aQ ht hS (law_holds ns), fun base KB GB TB => ?_⟩
  have D := d_law (P := R.prog) (w := w) (base := base) (f_txt X G s.d s.more) (f_txx X G s.d s.more s.i) (f_er X G s.d s.more) ⟨⟨_, fd, F, g, hc⟩, tb⟩ TB
  obtain ⟨f', fd', F', g', FG, _⟩ := D.ex
  rw [g] at g'
  cases g'
  rw [fun_eq F F']
  exact FG
end
end K72
open PySem PySem.W PySem.Calls PyProof.Rows
theorem PySem.Challenge.cw_untoldplaces_k72_texts_of_works_holds : PySem.Challenge.rw_untoldplaces_k72_texts_of_works.Holds := by
  w_on; o_law
  refine HandSHeadRun.head_any (r := OpenLaw.row PySem.Challenge.rw_untoldplaces_k72_texts_of_works) (q := K72.qv) (H := K72.hk) (ob := K72.ob) (M := 40000) (loose := K72.loose) (d := HandSHeadRun.topDef K72.R.prog 76) (kwd := []) K72.ob_eq
    (by kernel_rfl) (fun s => by kernel_rfl) K72.run (by kernel_rfl) (by kernel_rfl) (by kernel_rfl) (by rfl) (by first | assumption | decide +kernel) (by decide +kernel) ⟨rfl, rfl, rfl, rfl, rfl, by decide +kernel⟩ ?hw ?hc
  case hw => w_witness2
  case hc =>
    refine PV.walk_G (l := PySem.Challenge.rw_untoldplaces_k72_texts_of_works) (n := 63) (k := 9) (x := "script") rfl (by decide) (by kernel_rfl) ⟨rfl, by decide, by decide⟩ ?F
    intro w mg fa h Y G hmg0
    obtain ⟨K, KX, s⟩ := Y
    have hmg : mg ("law" : PySem.Str) = some (.ref fa) := by
      have e : (HandSHeadRun.topDef K72.R.prog 76).name = ("law" : PySem.Str) := by kernel_rfl
      rw [← e]
      exact hmg0
    exact ⟨K, KX, K72.f_end KX G hmg s⟩
