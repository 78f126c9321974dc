import PyProof.Rows.All
import Wide.All
import OpenK.AllK
import Wide.FinOn
import HandS.ForMost
import HandS.Exc
import HandS.ExcOwn
import HandS.TryOnly
import HandS.TryMany
import HandS.WordsExc
import HandS.CallSlots
import HandS.Lambda
import HandS.Nested
import HandS.Zip
import HandS.SortInts
import HandS.IsInst
import KE.LtData
import KE.SortData
import HandS.Flow
import KE.DataEq
import KE.DataCmp
import KE.DataFind
import KE.DataMinMax
import KE.DataAny
import KE.DataIsa
import KE.GoesEnum
import HandS.Small
import HandS.More
import HandS.Style
import HandS.NestedK
import PyProof.ExcBaseAll.ValueError
import KE.KDictPairs
import HandS.NoneIn
import HandS.SetFor
import HandS.Conv
import HandS.EndTab
import KE.KNestM
import HandS.TupMul
import KE.KDictList
import KE.KDictItemsList
import HandS.ListItems
import PySem.Challenge.RW_drumwords_k32_whole_bounds_of_sums
set_option Elab.async false
set_option linter.all false
set_option maxRecDepth 100000
set_option autoImplicit false
set_option maxHeartbeats 4000000
/-! Dw: a small language of values without addresses over the hand layer. -/
namespace Dw
open PySem PySem.Spec PyProof.Rows L2

abbrev D := PyData
inductive W where
  | d (x : D)
  | ref (i : Nat)
  | tup (ws : List W)
  | clo (k : Nat) (ws : List W)
mutual
/-- nothing in it is a lambda -/
def W.noclo : W → Bool
  | .d _ => true
  | .ref _ => true
  | .tup ws => W.nocloAll ws
  | .clo _ _ => false
def W.nocloAll : List W → Bool
  | [] => true
  | w :: ws => W.noclo w && W.nocloAll ws
end
/-- a lambda of the text -/
structure LamCode where
  qual : Str
  params : Arguments
  body : Expr
  scope : Scope
  ps : List Str
  fr : List Str
/-- the lambdas by their numbers; the code objects whose tables may grow, the tables, the names that are told there -/
class LamTab where
  code : Nat → Option LamCode
  tabs : List (Addr × Addr × Str)
variable [LamTab]
/-- the object at f is the lambda c, with its cells and its code object -/
def FnL (f : Addr) (c : LamCode) (cl : List (Str × Addr)) (cd : Addr) : HO := .ext fun h => ∃ (od : Option Addr) (sl : Array (Option Value)) (pm ctv : Value), h.get? f = some (⟨.type "function", od, .func (PySem.W.kla_fn "<lambda>" c.qual c.params c.body c.scope cl pm (.ref cd) ctv), sl⟩ : Obj)
/-- what may be frozen: tuples with nothing of their own -/
def GoodO (o : HO) : Prop := (∀ xs, o ≠ .tup xs) ∧ ∀ ob xs, o = .frz ob (.tup xs) → ob.dict = none
omit [LamTab] in
theorem good_lst (xs : List V) : GoodO (.lst xs) := ⟨fun _ z => (by cases z), fun _ _ z => (by cases z)⟩
omit [LamTab] in
theorem good_tup {ob : Obj} {xs : List V} (h : ob.dict = none) : GoodO (.frz ob (.tup xs)) := ⟨fun _ z => (by cases z), fun _ _ z => (by cases z; exact h)⟩
/-- a cell that is not written -/
def CellO (o : Obj) : HO := .frz o (.ext fun _ => True)

/-- what stands at a place of the small heap -/
inductive MO where
  | lst (ds : List D)
  | dk (kvs : List (Key × D))
  | dt (kvs : List (List Key × D))
  | ins (c : Str) (fs : List (Str × W))

abbrev MH := List MO
abbrev ME := List (Option W)

inductive Res (α : Type) where
  | ok (a : α) (h : MH)
  | exc (c : Str) (h : MH)
  | stuck

@[reducible] def Res.bind {α β : Type} (r : Res α) (f : α → MH → Res β) : Res β :=
  match r with
  | .ok a h => f a h
  | .exc c h => .exc c h
  | .stuck => .stuck

/-- the result of a statement -/
inductive RS where
  | nx (r : ME) (h : MH)
  | rt (w : W) (h : MH)
  | bk (r : ME) (h : MH)
  | ct (r : ME) (h : MH)
  | exc (c : Str) (r : ME) (h : MH)
  | stuck

@[reducible] def Res.toS {α : Type} (r : Res α) (e : ME) (f : α → MH → RS) : RS :=
  match r with
  | .ok a h => f a h
  | .exc c h => .exc c e h
  | .stuck => .stuck

abbrev M := ME → MH → Res W
abbrev MT := ME → MH → Res Bool
abbrev MA := ME → MH → Res (List W)
abbrev MS := ME → MH → RS

/-! ### the layout -/
structure Ly where
  F : Hp
  mu : List Addr
  P : List (Addr × HO)
  C : List (Addr × HO)

structure Ly.le (L L' : Ly) : Prop where
  f : ∀ a o, L.F a = some o → L'.F a = some o
  m : L.mu <+: L'.mu
  p : L'.P = L.P
  c : ∀ p ∈ L.C, p ∈ L'.C
structure Ly.lw (L L' : Ly) : Prop where
  f : ∀ a o, L.F a = some o → L'.F a = some o
  m : L.mu <+: L'.mu
  c : ∀ p ∈ L.C, p ∈ L'.C
theorem Ly.le.w {L L' : Ly} (h : L.le L') : L.lw L' := ⟨h.f, h.m, h.c⟩
theorem Ly.lw.at {L L' : Ly} (h : L.lw L') {i : Nat} {a : Addr} (e : L.mu[i]? = some a) : L'.mu[i]? = some a := by
  obtain ⟨t, ht⟩ := h.m
  rw [← ht, List.getElem?_append_left (List.getElem?_eq_some_iff.mp e).1]
  exact e
theorem Ly.lw.trans {L L1 L2 : Ly} (a : L.lw L1) (b : L1.lw L2) : L.lw L2 := ⟨fun x o h => b.f x o (a.f x o h), a.m.trans b.m, fun p z => b.c p (a.c p z)⟩
theorem Ly.le.refl (L : Ly) : L.le L := ⟨fun _ _ h => h, List.prefix_refl _, rfl, fun _ z => z⟩
theorem Ly.le.trans {L L1 L2 : Ly} (a : L.le L1) (b : L1.le L2) : L.le L2 :=
  ⟨fun x o h => b.f x o (a.f x o h), a.m.trans b.m, b.p.trans a.p, fun p z => b.c p (a.c p z)⟩
theorem Ly.le.at {L L' : Ly} (h : L.le L') {i : Nat} {a : Addr} (e : L.mu[i]? = some a) : L'.mu[i]? = some a := by
  obtain ⟨t, ht⟩ := h.m
  rw [← ht, List.getElem?_append_left (List.getElem?_eq_some_iff.mp e).1]
  exact e

theorem Rd.sub {F H : Hp} (s : ∀ a o, F a = some o → H a = some o) {a : Addr} {u : HO} (h : Rd F a u) : Rd H a u := by
  rcases h with h | ⟨o, h⟩
  · exact .inl (s _ _ h)
  · exact .inr ⟨o, s _ _ h⟩
theorem SqT.sub {K : PySem.W.Frag} {F H : Hp} (s : ∀ a o, F a = some o → H a = some o) {a : Addr} {xs : List V} (h : SqT K F a xs) : SqT K H a xs := by
  rcases h with h | h
  · exact .inl (Rd.sub s h)
  · exact .inr h
theorem SqL.sub {K : PySem.W.Frag} {F H : Hp} (s : ∀ a o, F a = some o → H a = some o) {a : Addr} {xs : List V} (h : SqL K F a xs) : SqL K H a xs := by
  rcases h with h | h
  · exact .inl (Rd.sub s h)
  · exact .inr h
mutual
theorem Dp.sub {K : PySem.W.Frag} {F H : Hp} (s : ∀ a o, F a = some o → H a = some o) : ∀ (d : D) (v : V), Dp K F v d → Dp K H v d
  | .none, _, h => by cases h; exact .non
  | .bool b, _, h => by cases h; exact .bl b
  | .int i, _, h => by cases h; exact .int i
  | .str i, _, h => by cases h; exact .str i
  | .list ds, _, h => by
    cases h with
    | lst hs ha => exact .lst (SqL.sub s hs) (DpAll.sub s ds _ ha)
  | .tuple ds, _, h => by
    cases h with
    | tup hs ha => exact .tup (SqT.sub s hs) (DpAll.sub s ds _ ha)
  | .dict _, _, h => by cases h
theorem DpAll.sub {K : PySem.W.Frag} {F H : Hp} (s : ∀ a o, F a = some o → H a = some o) : ∀ (ds : List D) (vs : List V), DpAll K F vs ds → DpAll K H vs ds
  | [], _, h => by cases h; exact .nil
  | d :: ds, _, h => by
    cases h with
    | cons h1 h2 => exact .cons (Dp.sub s d _ h1) (DpAll.sub s ds _ h2)
end

/-- all of them pure -/
def allD : List W → Option (List D)
  | [] => some []
  | .d x :: ws => (allD ws).map (x :: ·)
  | _ :: _ => none
section
variable (K : PySem.W.Frag)
/-- the cells cl hold, by the names fr, the values vs -/
structure CellsIn (C : List (Addr × HO)) (cl : List (Str × Addr)) (fr : List Str) (vs : List V) : Prop where
  len : vs.length = fr.length
  all : ∀ y c, cl.lookup y = some c → y ∈ fr
  inj : ∀ x y c, cl.lookup x = some c → cl.lookup y = some c → x = y
  has : ∀ (i : Nat) (y : Str), fr[i]? = some y → ∃ (c : Addr) (o : Obj) (u : Value) (v : V), cl.lookup y = some c ∧ (c, CellO o) ∈ C ∧ o.data = .cell (some u) ∧ vs[i]? = some v ∧ RelV v u
mutual
/-- the value v of the layer is w -/
inductive WRel (L : Ly) : V → W → Prop
  | d {v : V} {x : D} : Dp K L.F v x → WRel L v (.d x)
  | ref {i : Nat} {a : Addr} : L.mu[i]? = some a → WRel L (.ref a) (.ref i)
  | tup {a : Addr} {xs : List V} {ws : List W} : (SqT K L.F a xs ∧ allD ws = none) ∨ (a, HO.tup xs) ∈ L.C → WRels L xs ws → WRel L (.ref a) (.tup ws)
  | clo {k : Nat} {f cd : Addr} {c : LamCode} {cl : List (Str × Addr)} {xs : List V} {ws : List W} : LamTab.code k = some c → (f, FnL f c cl cd) ∈ L.C → (cd, LamX.CodeO cd c.qual) ∈ L.C → CellsIn L.C cl c.fr xs → WRels L xs ws → WRel L (.ref f) (.clo k ws)
inductive WRels (L : Ly) : List V → List W → Prop
  | nil : WRels L [] []
  | cons {v : V} {vs : List V} {w : W} {ws : List W} : WRel L v w → WRels L vs ws → WRels L (v :: vs) (w :: ws)
end
end
theorem CellsIn.mono {C C' : List (Addr × HO)} (s : ∀ p ∈ C, p ∈ C') {cl : List (Str × Addr)} {fr : List Str} {vs : List V} (h : CellsIn C cl fr vs) : CellsIn C' cl fr vs :=
  ⟨h.len, h.all, h.inj, fun i y e => by
    obtain ⟨c, o, u, v, a, b, r⟩ := h.has i y e
    exact ⟨c, o, u, v, a, s _ b, r⟩⟩
mutual
theorem WRel.monoW {K : PySem.W.Frag} {L L' : Ly} (l : L.lw L') : ∀ (w : W) (v : V), WRel K L v w → WRel K L' v w
  | .d x, _, h => by
    cases h with
    | d h => exact .d (Dp.sub l.f _ _ h)
  | .ref i, _, h => by
    cases h with
    | ref h => exact .ref (l.at h)
  | .tup ws, _, h => by
    cases h with
    | tup h1 h2 => exact .tup (h1.imp (fun z => ⟨SqT.sub l.f z.1, z.2⟩) fun z => l.c _ z) (WRels.monoW l ws _ h2)
  | .clo k ws, _, h => by
    cases h with
    | clo h1 h2 h3 h4 h5 => exact .clo h1 (l.c _ h2) (l.c _ h3) (h4.mono l.c) (WRels.monoW l ws _ h5)
theorem WRels.monoW {K : PySem.W.Frag} {L L' : Ly} (l : L.lw L') : ∀ (ws : List W) (vs : List V), WRels K L vs ws → WRels K L' vs ws
  | [], _, h => by cases h; exact .nil
  | w :: ws, _, h => by
    cases h with
    | cons h1 h2 => exact .cons (WRel.monoW l w _ h1) (WRels.monoW l ws _ h2)
end
theorem WRel.mono {K : PySem.W.Frag} {L L' : Ly} (l : L.le L') (w : W) (v : V) (h : WRel K L v w) : WRel K L' v w := WRel.monoW l.w w v h
theorem WRels.mono {K : PySem.W.Frag} {L L' : Ly} (l : L.le L') (ws : List W) (vs : List V) (h : WRels K L vs ws) : WRels K L' vs ws := WRels.monoW l.w ws vs h
theorem WRels.length {K : PySem.W.Frag} {L : Ly} : ∀ {ws : List W} {vs : List V}, WRels K L vs ws → vs.length = ws.length
  | [], _, h => by cases h; rfl
  | w :: ws, _, h => by
    cases h with
    | cons h1 h2 => simp [WRels.length h2]
theorem DpAll.length {K : PySem.W.Frag} {F : Hp} : ∀ {ws : List D} {vs : List V}, DpAll K F vs ws → vs.length = ws.length
  | [], _, h => by cases h; rfl
  | w :: ws, _, h => by
    cases h with
    | cons h1 h2 => simp [DpAll.length h2]
theorem DpAll.at {K : PySem.W.Frag} {F : Hp} : ∀ {ds : List D} {vs : List V} {i : Nat} {d : D}, DpAll K F vs ds → ds[i]? = some d → ∃ v, vs[i]? = some v ∧ Dp K F v d
  | [], _, _, _, h, e => by simp at e
  | _ :: ds, _, 0, d, h, e => by
    cases h with
    | cons h1 h2 => simp at e; subst e; exact ⟨_, rfl, h1⟩
  | _ :: ds, _, i + 1, d, h, e => by
    cases h with
    | cons h1 h2 =>
      obtain ⟨v, a, b⟩ := DpAll.at (i := i) h2 (by simpa using e)
      exact ⟨v, by simpa using a, b⟩
theorem DpAll.atV {K : PySem.W.Frag} {F : Hp} : ∀ {ds : List D} {vs : List V} {i : Nat} {v : V}, DpAll K F vs ds → vs[i]? = some v → ∃ d, ds[i]? = some d ∧ Dp K F v d
  | [], _, _, _, h, e => by cases h; simp at e
  | _ :: ds, _, 0, v, h, e => by
    cases h with
    | cons h1 h2 => simp at e; subst e; exact ⟨_, rfl, h1⟩
  | _ :: ds, _, i + 1, v, h, e => by
    cases h with
    | cons h1 h2 =>
      obtain ⟨d, a, b⟩ := DpAll.atV (i := i) h2 (by simpa using e)
      exact ⟨d, by simpa using a, b⟩
theorem DpAll.append {K : PySem.W.Frag} {F : Hp} : ∀ {ds es : List D} {vs us : List V}, DpAll K F vs ds → DpAll K F us es → DpAll K F (vs ++ us) (ds ++ es)
  | [], _, _, _, h, g => by cases h; exact g
  | _ :: ds, _, _, _, h, g => by
    cases h with
    | cons h1 h2 => exact .cons h1 (DpAll.append h2 g)
theorem DpAll.take {K : PySem.W.Frag} {F : Hp} (n : Nat) : ∀ {ds : List D} {vs : List V}, DpAll K F vs ds → DpAll K F (vs.take n) (ds.take n) := by
  induction n with
  | zero => intro ds vs h; simp; exact .nil
  | succ n ih =>
    intro ds vs h
    cases ds with
    | nil => cases h; exact .nil
    | cons d ds =>
      cases h with
      | cons h1 h2 => exact .cons h1 (ih h2)
theorem DpAll.drop {K : PySem.W.Frag} {F : Hp} (n : Nat) : ∀ {ds : List D} {vs : List V}, DpAll K F vs ds → DpAll K F (vs.drop n) (ds.drop n) := by
  induction n with
  | zero => intro ds vs h; exact h
  | succ n ih =>
    intro ds vs h
    cases ds with
    | nil => cases h; exact .nil
    | cons d ds =>
      cases h with
      | cons h1 h2 => exact ih h2
theorem DpAll.set {K : PySem.W.Frag} {F : Hp} {v : V} {d : D} (r : Dp K F v d) : ∀ {ds : List D} {vs : List V} (i : Nat), DpAll K F vs ds → DpAll K F (vs.set i v) (ds.set i d)
  | [], _, _, h => by cases h; exact .nil
  | _ :: ds, _, 0, h => by
    cases h with
    | cons h1 h2 => exact .cons r h2
  | _ :: ds, _, i + 1, h => by
    cases h with
    | cons h1 h2 => exact .cons h1 (DpAll.set r i h2)

theorem WRels.pure {K : PySem.W.Frag} {L : Ly} : ∀ {ws : List W} {vs : List V} {ds : List D}, WRels K L vs ws → allD ws = some ds → DpAll K L.F vs ds
  | [], _, ds, h, e => by
    cases h
    cases e
    exact .nil
  | .d x :: ws, _, ds, h, e => by
    cases h with
    | cons h1 h2 =>
      simp only [allD, Option.map_eq_some_iff] at e
      obtain ⟨r, e1, rfl⟩ := e
      cases h1 with
      | d h1 => exact .cons h1 (WRels.pure h2 e1)
  | .ref _ :: ws, _, ds, h, e => by simp [allD] at e
  | .tup _ :: ws, _, ds, h, e => by simp [allD] at e
  | .clo _ _ :: ws, _, ds, h, e => by simp [allD] at e

section
variable (K : PySem.W.Frag) (mg : Str → Option Value)
def KRel {κ : Type} (F : Hp) : List (κ × V) → List (κ × D) → Prop := Paired fun p q => p.1 = q.1 ∧ Dp K F p.2 q.2
def FRel (L : Ly) : List (Str × V) → List (Str × W) → Prop := Paired fun p q => p.1 = q.1 ∧ WRel K L p.2 q.2
inductive ORel (L : Ly) (H : Hp) (a : Addr) : MO → Prop
  | lst {vs : List V} {ds : List D} : H a = some (.lst vs) → DpAll K L.F vs ds → ORel L H a (.lst ds)
  | dk {vs : List (Key × V)} {ds : List (Key × D)} : H a = some (.dK vs) → KRel K L.F vs ds → ORel L H a (.dk ds)
  | dt {vs : List (List Key × V)} {ds : List (List Key × D)} : H a = some (.dT vs) → KRel K L.F vs ds → ORel L H a (.dt ds)
  | ins {c : Str} {C dx : Addr} {vs : List (Str × V)} {fs : List (Str × W)} : mg c = some (.ref C) → H a = some (.ins C dx vs) → FRel K L vs fs → (fs.all fun p => p.2.noclo) = true → ORel L H a (.ins c fs)
structure HRel (L : Ly) (H : Hp) (h : MH) : Prop where
  sub : ∀ a o, L.F a = some o → H a = some o
  pin : ∀ p ∈ L.P, H p.1 = some p.2 ∧ L.F p.1 = none ∧ p.1 ∉ L.mu
  pnd : (L.P.map (·.1)).Nodup
  len : L.mu.length = h.length
  nd : L.mu.Nodup
  fr : ∀ a ∈ L.mu, L.F a = none
  cpin : ∀ p ∈ L.C, H p.1 = some p.2 ∧ ((∃ φ, p.2 = .ext φ) ∨ (L.F p.1 = none ∧ p.1 ∉ L.mu ∧ ∀ q ∈ L.P, q.1 ≠ p.1))
  tab : ∀ t ∈ LamTab.tabs, LamX.TabS H t.2.1 t.2.2 ∧ L.F t.2.1 = none ∧ ∀ q ∈ L.P, q.1 ≠ t.2.1
  obj : ∀ (i : Nat) (a : Addr) (o : MO), L.mu[i]? = some a → h[i]? = some o → ORel K mg L H a o
  cnt : ∀ p ∈ L.C, ∀ ps, p.2 ≠ .tbl ps
  fx : ∀ a o, L.F a = some o → GoodO o
end

section
variable {K : PySem.W.Frag} {mg : Str → Option Value} {L L' : Ly} {H H' : Hp} {h : MH} {a : Addr}
theorem KRel.sub {κ : Type} {F F' : Hp} (s : ∀ a o, F a = some o → F' a = some o) {vs : List (κ × V)} {ds : List (κ × D)} (r : KRel K F vs ds) : KRel K F' vs ds :=
  Paired.mapP r fun p q z => ⟨z.1, Dp.sub s _ _ z.2⟩
theorem FRel.mono (l : L.lw L') {vs : List (Str × V)} {ds : List (Str × W)} (r : FRel K L vs ds) : FRel K L' vs ds :=
  Paired.mapP r fun p q z => ⟨z.1, WRel.monoW l _ _ z.2⟩
theorem ORel.mono {o : MO} (l : L.lw L') (e : H' a = H a) (r : ORel K mg L H a o) : ORel K mg L' H' a o := by
  cases r with
  | lst h1 h2 => exact .lst (e.trans h1) (DpAll.sub l.f _ _ h2)
  | dk h1 h2 => exact .dk (e.trans h1) (h2.sub l.f)
  | dt h1 h2 => exact .dt (e.trans h1) (h2.sub l.f)
  | ins h0 h1 h2 h3 => exact .ins h0 (e.trans h1) (h2.mono l) h3
theorem ORel.some {o : MO} (r : ORel K mg L H a o) : ∃ u, H a = some u := by
  cases r with
  | lst h1 h2 => exact ⟨_, h1⟩
  | dk h1 h2 => exact ⟨_, h1⟩
  | dt h1 h2 => exact ⟨_, h1⟩
  | ins h0 h1 h2 h3 => exact ⟨_, h1⟩
theorem HRel.get (r : HRel K mg L H h) {i : Nat} {a : Addr} (e : L.mu[i]? = some a) : ∃ o, h[i]? = some o ∧ ORel K mg L H a o := by
  have hi := (List.getElem?_eq_some_iff.mp e).1
  rw [r.len] at hi
  exact ⟨h[i], List.getElem?_eq_getElem hi, r.obj i a _ e (List.getElem?_eq_getElem hi)⟩
theorem HRel.addr (r : HRel K mg L H h) {i : Nat} {o : MO} (e : h[i]? = some o) : ∃ a, L.mu[i]? = some a ∧ ORel K mg L H a o := by
  have hi := (List.getElem?_eq_some_iff.mp e).1
  rw [← r.len] at hi
  exact ⟨L.mu[i], List.getElem?_eq_getElem hi, r.obj i _ o (List.getElem?_eq_getElem hi) e⟩
theorem HRel.memH (r : HRel K mg L H h) {a : Addr} (e : a ∈ L.mu) : ∃ u, H a = Option.some u := by
  obtain ⟨i, hi⟩ := List.getElem?_of_mem e
  obtain ⟨o, _, ho⟩ := r.get hi
  exact ho.some

theorem tab_upd {H : Hp} {p P : Addr} {q : Str} {u : HO} (t : LamX.TabS H P q) (h1 : ∀ ps, H p ≠ some (.tbl ps)) (h2 : ∀ φ, H p ≠ some (.ext φ)) : LamX.TabS (upd H p u) P q := by
  obtain ⟨ps, e, ok, k⟩ := t
  refine ⟨ps, by rw [upd_ne (fun z => h1 ps (by rw [← z]; exact e))]; exact e, ok, fun pos cv ec => ?_⟩
  obtain ⟨c, e1, e2⟩ := k pos cv ec
  exact ⟨c, e1, by rw [upd_ne (fun z => h2 _ (by rw [← z]; exact e2))]; exact e2⟩
theorem tab_ne {H : Hp} {P : Addr} {q : Str} (t : LamX.TabS H P q) (h : H P = none) : False := by
  obtain ⟨ps, e, _⟩ := t
  rw [h] at e
  cases e
theorem tab_new {H : Hp} {p P : Addr} {q : Str} {u : HO} (t : LamX.TabS H P q) (h : H p = none) : LamX.TabS (upd H p u) P q := tab_upd t (fun ps z => by rw [h] at z; cases z) fun φ z => by rw [h] at z; cases z
theorem ORel.noTab {o : MO} (r : ORel K mg L H a o) : (∀ ps, H a ≠ Option.some (.tbl ps)) ∧ ∀ φ, H a ≠ Option.some (.ext φ) := by
  have go : ∀ {u : HO}, H a = Option.some u → (∀ ps, u ≠ .tbl ps) → (∀ φ, u ≠ .ext φ) → (∀ ps, H a ≠ Option.some (.tbl ps)) ∧ ∀ φ, H a ≠ Option.some (.ext φ) := fun e n m =>
    ⟨fun ps z => n ps (Option.some.inj (e.symm.trans z)), fun φ z => m φ (Option.some.inj (e.symm.trans z))⟩
  cases r with
  | lst h1 h2 => exact go h1 (fun _ z => by cases z) (fun _ z => by cases z)
  | dk h1 h2 => exact go h1 (fun _ z => by cases z) (fun _ z => by cases z)
  | dt h1 h2 => exact go h1 (fun _ z => by cases z) (fun _ z => by cases z)
  | ins h0 h1 h2 h3 => exact go h1 (fun _ z => by cases z) (fun _ z => by cases z)
/-- a new thing that never changes is laid at p -/
def Ly.frz (L : Ly) (p : Addr) (o : HO) : Ly := { L with F := upd L.F p o }
theorem HRel.frz (r : HRel K mg L H h) {p : Addr} {o : HO} (np : H p = none) (g : GoodO o := by first | exact good_lst _ | assumption | exact good_tup (by assumption)) : L.le (L.frz p o) ∧ HRel K mg (L.frz p o) (upd H p o) h := by
  have ne : ∀ a u, L.F a = some u → a ≠ p := fun a u e z => by
    subst z
    rw [r.sub _ _ e] at np
    cases np
  have nm : p ∉ L.mu := fun z => by
    obtain ⟨u, e⟩ := r.memH z
    rw [e] at np
    cases np
  have le : L.le (L.frz p o) := ⟨fun a u e => by
    show upd L.F p o a = _
    rw [upd_ne (ne a u e)]
    exact e, List.prefix_refl _, rfl, fun _ z => z⟩
  refine ⟨le, ⟨fun a u e => ?_, fun q hq => ?_, r.pnd, r.len, r.nd, fun a ha => ?_, fun q hq => ?_, fun t ht => ⟨tab_new (r.tab t ht).1 np, ?_, (r.tab t ht).2.2⟩, fun i a u e e2 => ?_, r.cnt, fun a u e => ?_⟩⟩
  · by_cases hp : a = p
    · subst hp
      have e' : upd L.F a o a = some u := e
      rw [upd_same] at e' ⊢
      exact e'
    · have e' : upd L.F p o a = some u := e
      rw [upd_ne hp] at e' ⊢
      exact r.sub _ _ e'
  · obtain ⟨h1, h2, h3⟩ := r.pin q hq
    have hp : q.1 ≠ p := fun z => by
      rw [z, np] at h1
      cases h1
    refine ⟨by rw [upd_ne hp]; exact h1, ?_, h3⟩
    show upd L.F p o q.1 = none
    rw [upd_ne hp]
    exact h2
  · have hp : a ≠ p := fun z => nm (z ▸ ha)
    show upd L.F p o a = none
    rw [upd_ne hp]
    exact r.fr a ha
  · obtain ⟨h1, h2⟩ := r.cpin q hq
    have hp : q.1 ≠ p := fun z => by
      rw [z, np] at h1
      cases h1
    refine ⟨by rw [upd_ne hp]; exact h1, h2.imp id fun ⟨h2, h3, h4⟩ => ⟨?_, h3, h4⟩⟩
    show upd L.F p o q.1 = none
    rw [upd_ne hp]
    exact h2
  · show upd L.F p o t.2.1 = none
    rw [upd_ne fun z => tab_ne (r.tab t ht).1 (by rw [z]; exact np)]
    exact (r.tab t ht).2.1
  · have hp : a ≠ p := fun z => nm (z ▸ List.mem_of_getElem? e)
    exact (r.obj i a u e e2).mono le.w (upd_ne hp)
  · have e : upd L.F p o a = some u := e
    by_cases hp : a = p
    · subst hp
      rw [upd_same] at e
      cases e
      exact g
    · rw [upd_ne hp] at e
      exact r.fx a u e
/-- a new thing that may change is laid at p -/
def Ly.new (L : Ly) (p : Addr) : Ly := { L with mu := L.mu ++ [p] }
theorem HRel.new (r : HRel K mg L H h) {p : Addr} {u : HO} {o : MO} (np : H p = none) (ho : ORel K mg (L.new p) (upd H p u) p o) : L.le (L.new p) ∧ HRel K mg (L.new p) (upd H p u) (h ++ [o]) := by
  have nm : p ∉ L.mu := fun z => by
    obtain ⟨u, e⟩ := r.memH z
    rw [e] at np
    cases np
  have ne : ∀ a u, L.F a = some u → a ≠ p := fun a u e z => by
    subst z
    rw [r.sub _ _ e] at np
    cases np
  have le : L.le (L.new p) := ⟨fun a u e => e, List.prefix_append _ _, rfl, fun _ z => z⟩
  refine ⟨le, ⟨fun a v e => ?_, fun q hq => ?_, r.pnd, ?_, ?_, fun a ha => ?_, fun q hq => ?_, fun t ht => ⟨tab_new (r.tab t ht).1 np, (r.tab t ht).2⟩, fun i a v e e2 => ?_, r.cnt, r.fx⟩⟩
  · rw [upd_ne (ne a v e)]
    exact r.sub _ _ e
  · obtain ⟨h1, h2, h3⟩ := r.pin q hq
    have hp : q.1 ≠ p := fun z => by
      rw [z, np] at h1
      cases h1
    refine ⟨by rw [upd_ne hp]; exact h1, h2, fun z => ?_⟩
    rcases List.mem_append.mp z with z | z
    · exact h3 z
    · exact hp (List.mem_singleton.mp z)
  · show (L.mu ++ [p]).length = _
    rw [List.length_append, List.length_append, r.len]
    rfl
  · show (L.mu ++ [p]).Nodup
    rw [List.nodup_append]
    refine ⟨r.nd, by simp, fun a ha b hb => ?_⟩
    rw [List.mem_singleton.mp hb]
    exact fun z => nm (z ▸ ha)
  · rcases List.mem_append.mp ha with z | z
    · exact r.fr a z
    · rw [List.mem_singleton.mp z]
      cases q : L.F p with
      | none => exact q
      | some v =>
        have := r.sub _ _ q
        rw [np] at this
        cases this
  · obtain ⟨h1, h2⟩ := r.cpin q hq
    have hp : q.1 ≠ p := fun z => by
      rw [z, np] at h1
      cases h1
    refine ⟨by rw [upd_ne hp]; exact h1, h2.imp id fun ⟨h2, h3, h4⟩ => ⟨h2, fun z => ?_, h4⟩⟩
    rcases List.mem_append.mp z with z | z
    · exact h3 z
    · exact hp (List.mem_singleton.mp z)
  · have e : (L.mu ++ [p])[i]? = some a := e
    by_cases hi : i < L.mu.length
    · rw [List.getElem?_append_left hi] at e
      rw [List.getElem?_append_left (by rw [← r.len]; exact hi)] at e2
      have hp : a ≠ p := fun z => nm (z ▸ List.mem_of_getElem? e)
      exact (r.obj i a v e e2).mono le.w (upd_ne hp)
    · have hi2 : i = L.mu.length := by
        have := (List.getElem?_eq_some_iff.mp e).1
        rw [List.length_append] at this
        simp at this
        omega
      subst hi2
      rw [List.getElem?_append_right (Nat.le_refl _)] at e
      simp at e
      subst e
      rw [r.len, List.getElem?_append_right (Nat.le_refl _)] at e2
      simp at e2
      subst e2
      exact ho
/-- a tuple that stands there, whatever of its own it has -/
theorem HRel.sqt (r : HRel K mg L H h) {xs : List V} {P : Prop} (e : (SqT K L.F a xs ∧ P) ∨ (a, HO.tup xs) ∈ L.C) : SqT K H a xs := by
  rcases e with e | e
  · exact SqT.sub r.sub e.1
  · exact SqT.of (r.cpin _ e).1
/-- a new tuple that is not handed on -/
theorem HRel.pairC (r : HRel K mg L H h) {p : Addr} {xs : List V} (np : H p = none) : L.le { L with C := (p, .tup xs) :: L.C } ∧ HRel K mg { L with C := (p, .tup xs) :: L.C } (upd H p (.tup xs)) h := by
  have le : L.le { L with C := (p, .tup xs) :: L.C } := ⟨fun _ _ z => z, List.prefix_refl _, rfl, fun _ z => List.mem_cons_of_mem _ z⟩
  have ne : ∀ {b : Addr} {u : HO}, H b = some u → b ≠ p := fun {b u} e z => by rw [z, np] at e; cases e
  have nm : p ∉ L.mu := fun z => by
    obtain ⟨u, e⟩ := r.memH z
    rw [e] at np
    cases np
  refine ⟨le, fun b o e => ?_, fun q hq => ?_, r.pnd, r.len, r.nd, r.fr, fun q hq => ?_, fun t ht => ⟨tab_new (r.tab t ht).1 np, (r.tab t ht).2⟩, fun i b o e e2 => ?_, fun q hq ps z => ?_, r.fx⟩
  · have := r.sub b o e
    rw [upd_ne (ne this)]
    exact this
  · obtain ⟨h1, h2, h3⟩ := r.pin q hq
    exact ⟨by rw [upd_ne (ne h1)]; exact h1, h2, h3⟩
  · rcases List.mem_cons.mp hq with rfl | hq
    · refine ⟨upd_same, .inr ⟨?_, nm, fun q' hq' z => ne (r.pin q' hq').1 z⟩⟩
      cases q : L.F p with
      | none => rfl
      | some v => exact absurd rfl (ne (r.sub _ _ q))
    · obtain ⟨h1, h2⟩ := r.cpin q hq
      exact ⟨by rw [upd_ne (ne h1)]; exact h1, h2⟩
  · have ro := r.obj i b o e e2
    obtain ⟨u, eu⟩ := ro.some
    exact ro.mono le.w (upd_ne (ne eu))
  · rcases List.mem_cons.mp hq with rfl | hq
    · cases z
    · exact r.cnt q hq ps z
/-- the thing at place i is changed -/
theorem HRel.put (r : HRel K mg L H h) {i : Nat} {a : Addr} {u : HO} {o : MO} (e : L.mu[i]? = some a) (ho : ORel K mg L (upd H a u) a o) : HRel K mg L (upd H a u) (h.set i o) := by
  have ma : a ∈ L.mu := List.mem_of_getElem? e
  have ne : ∀ b v, L.F b = some v → b ≠ a := fun b v q z => by
    subst z
    rw [r.fr _ ma] at q
    cases q
  obtain ⟨oo, _, ro⟩ := r.get e
  refine ⟨fun b v q => ?_, fun q hq => ?_, r.pnd, by rw [List.length_set]; exact r.len, r.nd, r.fr, fun q hq => ?_, fun t ht => ⟨tab_upd (r.tab t ht).1 ro.noTab.1 ro.noTab.2, (r.tab t ht).2⟩, fun j b v q q2 => ?_, r.cnt, r.fx⟩
  · rw [upd_ne (ne b v q)]
    exact r.sub _ _ q
  · obtain ⟨h1, h2, h3⟩ := r.pin q hq
    have hp : q.1 ≠ a := fun z => h3 (z ▸ ma)
    exact ⟨by rw [upd_ne hp]; exact h1, h2, h3⟩
  · obtain ⟨h1, h2⟩ := r.cpin q hq
    have hp : q.1 ≠ a := fun z => by
      rcases h2 with ⟨φ, h2⟩ | ⟨_, h3, _⟩
      · exact ro.noTab.2 φ (by rw [← z, h1, h2])
      · exact h3 (z ▸ ma)
    exact ⟨by rw [upd_ne hp]; exact h1, h2⟩
  · by_cases hj : i = j
    · subst hj
      rw [e] at q
      cases q
      rw [List.getElem?_set_self (by rw [← r.len]; exact (List.getElem?_eq_some_iff.mp e).1)] at q2
      cases q2
      exact ho
    · rw [List.getElem?_set_ne hj] at q2
      have hb : b ≠ a := fun z => by
        subst z
        exact hj (nd_ix r.nd e q)
      exact (r.obj j b v q q2).mono (Ly.le.refl L).w (upd_ne hb)
end

/-! ### what an expression of the small language says of one of the text -/
section
variable (K : PySem.W.Frag) (mg : Str → Option Value)
structure ERel (L : Ly) (σ : L2.St) (ρ : ME) : Prop where
  len : σ.length = ρ.length
  v : ∀ (i : Nat) (w : W), ρ[i]? = some (some w) → ∃ v, σ[i]? = some (some v) ∧ WRel K L v w
/-- an exception of the class c: own classes by their names -/
def ExcIs (c : Str) (cls : Value) : Prop := ∃ C, mg c = some (.ref C) ∧ cls = .ref C
def Sat {α β : Type} (R : Ly → β → α → Prop) (L : Ly) (r : Res α) (Q : β → Hp → Prop) (E : XK) : Prop :=
  match r with
  | .ok a h => ∀ v H' L', L.le L' → HRel K mg L' H' h → R L' v a → Q v H'
  | .exc c h => ∀ cls dd H' L', ExcIs mg c cls → L.le L' → HRel K mg L' H' h → E cls dd H'
  | .stuck => False
def BRel (_ : Ly) (a b : Bool) : Prop := a = b
def tM (Wx : WX) (m : M) : TE := fun σ H Q => ∃ L ρ h, HRel K mg L H h ∧ ERel K L σ ρ ∧ Sat K mg (WRel K) L (m ρ h) Q (fun c d H' => Wx c d σ H')
def tMT (Wx : WX) (m : MT) : TT := fun σ H Q => ∃ L ρ h, HRel K mg L H h ∧ ERel K L σ ρ ∧ Sat K mg BRel L (m ρ h) Q (fun c d H' => Wx c d σ H')
def tMA (Wx : WX) (m : MA) : TA := fun σ H Q => ∃ L ρ h, HRel K mg L H h ∧ ERel K L σ ρ ∧ Sat K mg (WRels K) L (m ρ h) Q (fun c d H' => Wx c d σ H')
def SatS (Wx : WX) (L : Ly) (r : RS) (D : Ends) : Prop :=
  match r with
  | .nx ρ h => ∀ σ H' L', L.le L' → HRel K mg L' H' h → ERel K L' σ ρ → D.nx σ H'
  | .bk ρ h => ∀ σ H' L', L.le L' → HRel K mg L' H' h → ERel K L' σ ρ → D.bk σ H'
  | .ct ρ h => ∀ σ H' L', L.le L' → HRel K mg L' H' h → ERel K L' σ ρ → D.ct σ H'
  | .rt w h => ∀ v H' L', L.le L' → HRel K mg L' H' h → WRel K L' v w → D.rt v H'
  | .exc c ρ h => ∀ cls dd σ H' L', ExcIs mg c cls → L.le L' → HRel K mg L' H' h → ERel K L' σ ρ → Wx cls dd σ H'
  | .stuck => False
def tS (Wx : WX) (m : MS) : TS := fun D σ H => ∃ L ρ h, HRel K mg L H h ∧ ERel K L σ ρ ∧ SatS K mg Wx L (m ρ h) D
end
abbrev JE (X : Cx) (Wx : WX) (e : Expr) (m : M) : Prop := PE X e (tM X.K X.mg Wx m)
abbrev JT (X : Cx) (Wx : WX) (e : Expr) (m : MT) : Prop := PT X e (tMT X.K X.mg Wx m)
abbrev JW (X : Cx) (Wx : WX) (e : Expr) (m : MT) : Prop := PW X e (tMT X.K X.mg Wx m)
abbrev JA (X : Cx) (Wx : WX) (es : List Expr) (m : MA) : Prop := PA X es (tMA X.K X.mg Wx m)
abbrev JS (X : Cx) (Wx : WX) (st : Stmt) (m : MS) : Prop := PS X st (tS X.K X.mg Wx m)
abbrev JSs (X : Cx) (Wx : WX) (st : List Stmt) (m : MS) : Prop := PSs X st (tS X.K X.mg Wx m)

theorem peI {X : Cx} {e : Expr} {t t' : TE} (h : PE X e t) (i : ∀ σ H Q, t' σ H Q → t σ H Q) : PE X e t' := ⟨fun pins s σ H Q I q => h.run pins s σ H Q I (i σ H Q q)⟩
theorem ptI {X : Cx} {e : Expr} {t t' : TT} (h : PT X e t) (i : ∀ σ H Q, t' σ H Q → t σ H Q) : PT X e t' := ⟨fun pins s σ H Q I q => h.run pins s σ H Q I (i σ H Q q)⟩
theorem pwI {X : Cx} {e : Expr} {t t' : TT} (h : PW X e t) (i : ∀ σ H Q, t' σ H Q → t σ H Q) : PW X e t' := ⟨fun wh pins s σ H Q I q => h.run wh pins s σ H Q I (i σ H Q q)⟩
theorem paI {X : Cx} {es : List Expr} {t t' : TA} (h : PA X es t) (i : ∀ σ H Q, t' σ H Q → t σ H Q) : PA X es t' := ⟨fun pos pins s σ H Q I q => h.run pos pins s σ H Q I (i σ H Q q)⟩
theorem psI {X : Cx} {st : Stmt} {t t' : TS} (h : PS X st t) (i : ∀ D σ H, t' D σ H → t D σ H) : PS X st t' := ⟨fun pins s σ H D I q => h.run pins s σ H D I (i D σ H q)⟩
theorem pssI {X : Cx} {st : List Stmt} {t t' : TS} (h : PSs X st t) (i : ∀ D σ H, t' D σ H → t D σ H) : PSs X st t' := ⟨fun pins s σ H D I q => h.run pins s σ H D I (i D σ H q)⟩

section
variable {K : PySem.W.Frag} {mg : Str → Option Value} {L L' : Ly} {H H' : Hp} {h : MH} {σ : L2.St} {ρ : ME}
theorem ERel.monoW (l : L.lw L') (r : ERel K L σ ρ) : ERel K L' σ ρ := ⟨r.len, fun i w e => let ⟨v, a, b⟩ := r.v i w e; ⟨v, a, WRel.monoW l _ _ b⟩⟩
theorem ERel.mono (l : L.le L') (r : ERel K L σ ρ) : ERel K L' σ ρ := r.monoW l.w
theorem ERel.set (r : ERel K L σ ρ) {v : V} {w : W} (i : Nat) (rw' : WRel K L v w) : ERel K L (σ.set i (some v)) (ρ.set i (some w)) := by
  refine ⟨by rw [List.length_set, List.length_set]; exact r.len, fun j x e => ?_⟩
  by_cases hj : i = j
  · subst hj
    by_cases hl : i < ρ.length
    · rw [List.getElem?_set_self hl] at e
      cases e
      exact ⟨v, List.getElem?_set_self (by rw [r.len]; exact hl), rw'⟩
    · rw [List.getElem?_eq_none (by rw [List.length_set]; omega)] at e
      cases e
  · rw [List.getElem?_set_ne hj] at e
    rw [List.getElem?_set_ne hj]
    exact r.v j x e

/-- one thing behind another -/
theorem Sat.bind {α β α' β' : Type} {R : Ly → β → α → Prop} {R' : Ly → β' → α' → Prop} {r : Res α} {f : α → MH → Res α'} {Q : β → Hp → Prop} {Q' : β' → Hp → Prop} {E : XK}
    (s : Sat K mg R' L (r.bind f) Q' E) (n : ∀ v H1 L1 a h1, L.le L1 → HRel K mg L1 H1 h1 → R L1 v a → Sat K mg R' L1 (f a h1) Q' E → Q v H1) : Sat K mg R L r Q E := by
  cases r with
  | ok a h1 =>
    intro v H1 L1 le hr rv
    refine n v H1 L1 a h1 le hr rv ?_
    have s : Sat K mg R' L (f a h1) Q' E := s
    cases q : f a h1 with
    | ok b h2 => rw [q] at s; exact fun v' H2 L2 le2 => s v' H2 L2 (le.trans le2)
    | exc c h2 => rw [q] at s; exact fun cls dd H2 L2 ei le2 => s cls dd H2 L2 ei (le.trans le2)
    | stuck => rw [q] at s; exact s
  | exc c h1 => exact s
  | stuck => exact s
theorem Sat.mono {α β : Type} {R : Ly → β → α → Prop} {r : Res α} {Q : β → Hp → Prop} {E : XK} (l : L.le L') (s : Sat K mg R L r Q E) : Sat K mg R L' r Q E := by
  cases r with
  | ok a h1 => exact fun v H1 L1 le => s v H1 L1 (l.trans le)
  | exc c h1 => exact fun cls dd H2 L2 ei le2 => s cls dd H2 L2 ei (l.trans le2)
  | stuck => exact s
theorem SatS.mono {Wx : WX} {r : RS} {D : Ends} (l : L.le L') (s : SatS K mg Wx L r D) : SatS K mg Wx L' r D := by
  cases r with
  | nx ρ h1 => exact fun σ H1 L1 le => s σ H1 L1 (l.trans le)
  | bk ρ h1 => exact fun σ H1 L1 le => s σ H1 L1 (l.trans le)
  | ct ρ h1 => exact fun σ H1 L1 le => s σ H1 L1 (l.trans le)
  | rt w h1 => exact fun v H1 L1 le => s v H1 L1 (l.trans le)
  | exc c ρ h1 => exact fun cls dd σ H2 L2 ei le2 => s cls dd σ H2 L2 ei (l.trans le2)
  | stuck => exact s
/-- a value, then the rest of a statement -/
theorem Sat.toS {α β : Type} {R : Ly → β → α → Prop} {r : Res α} {f : α → MH → RS} {Q : β → Hp → Prop} {D : Ends} {Wx : WX} (er : ERel K L σ ρ)
    (s : SatS K mg Wx L (r.toS ρ f) D) (n : ∀ v H1 L1 a h1, L.le L1 → HRel K mg L1 H1 h1 → R L1 v a → SatS K mg Wx L1 (f a h1) D → Q v H1) : Sat K mg R L r Q (fun c d H' => Wx c d σ H') := by
  cases r with
  | ok a h1 =>
    intro v H1 L1 le hr rv
    exact n v H1 L1 a h1 le hr rv (SatS.mono le s)
  | exc c h1 => exact fun cls dd H1 L1 ei le hr => s cls dd σ H1 L1 ei le hr (er.mono le)
  | stuck => exact s
end
end Dw
/-! Dw: expressions -/
namespace Dw
variable [LamTab]
open PySem PySem.Spec PyProof.Rows L2

/-! ### names, constants -/
def mVar (i : Nat) : M := fun ρ h => match ρ[i]? with
  | some (some w) => .ok w h
  | _ => .stuck
def mC (x : D) : M := fun _ h => .ok (.d x) h
section
variable {X : Cx} {Wx : WX} {a b e : Expr} {pos : Pos}
theorem Sat.ok {K : PySem.W.Frag} {mg : Str → Option Value} {α β : Type} {R : Ly → β → α → Prop} {L : Ly} {w : α} {h : MH} {Q : β → Hp → Prop} {E : XK} {H : Hp} {v : β}
    (s : Sat K mg R L (.ok w h) Q E) (hr : HRel K mg L H h) (rw' : R L v w) : Q v H := s v H L (Ly.le.refl L) hr rw'
theorem je_var (i : Nat) {x : Str} (hN : X.N[i]? = some x := by rfl) (hv : Vis X.env.scope x := by first | exact Or.inl rfl | exact Or.inr (Or.inl rfl) | exact Or.inr (Or.inr rfl)) (hd : (x == ("__debug__" : Str)) = false := by decide) (hcd : (x == ("__classdict__" : Str)) = false := by decide) :
    JE X Wx (.Name x pos) (mVar i) := peI (pe_var hN hv hd hcd) fun σ H Q ⟨L, ρ, h, hr, er, s⟩ => by
  unfold mVar at s
  split at s
  · rename_i w e
    obtain ⟨v, e1, r1⟩ := er.v i w e
    exact ⟨v, e1, s.ok hr r1⟩
  · exact s.elim
theorem je_int {i : Int} {j} : JE X Wx (.Constant (.int i) j pos) (mC (.int i)) := peI pe_int fun σ H Q ⟨L, ρ, h, hr, er, s⟩ => s.ok hr (.d (.int i))
theorem je_bl {i : Bool} {j} : JE X Wx (.Constant (.bool i) j pos) (mC (.bool i)) := peI pe_bl fun σ H Q ⟨L, ρ, h, hr, er, s⟩ => s.ok hr (.d (.bl i))
theorem je_non {j} : JE X Wx (.Constant .none j pos) (mC .none) := peI pe_non fun σ H Q ⟨L, ρ, h, hr, er, s⟩ => s.ok hr (.d .non)
theorem je_str {i : Str} {j} : JE X Wx (.Constant (.str i) j pos) (mC (.str i)) := peI pe_str fun σ H Q ⟨L, ρ, h, hr, er, s⟩ => s.ok hr (.d (.str i))
/-- a constant of the module -/
structure GC (K : PySem.W.Frag) (mg : Str → Option Value) (x : Str) (d : D) : Prop where
  ex : ∃ v u, mg x = some u ∧ RelV v u ∧ ∀ F, Dp K F v d
theorem je_glob {x : Str} {d : D} (hg : Gl X x) (g : GC X.K X.mg x d) (hd : (x == ("__debug__" : Str)) = false := by decide) : JE X Wx (.Name x pos) (mC d) := by
  obtain ⟨v, u, h1, h2, h3⟩ := g.ex
  exact peI (pe_glob hg h1 h2 hd) fun σ H Q ⟨L, ρ, h, hr, er, s⟩ => s.ok hr (.d (h3 _))
end

/-! ### values that are read -/
/-- what a value reads as: itself, a list of the small heap its items now -/
def rd (w : W) (h : MH) : Option D := match w with
  | .d x => some x
  | .ref i => match h[i]? with
    | some (.lst ds) => some (.list ds)
    | _ => none
  | .tup _ => none
  | .clo _ _ => none
@[simp] theorem rd_d (x : D) (h : MH) : rd (.d x) h = some x := rfl
inductive DRel (K : PySem.W.Frag) (L : Ly) (H : Hp) : V → D → Prop
  | pure {v : V} {d : D} : Dp K L.F v d → DRel K L H v d
  | lst {a : Addr} {vs : List V} {ds : List D} : H a = some (.lst vs) → DpAll K L.F vs ds → DRel K L H (.ref a) (.list ds)
section
variable {K : PySem.W.Frag} {mg : Str → Option Value} {L : Ly} {H : Hp} {h : MH} {v : V} {w : W} {d : D}
theorem rd_rel (hr : HRel K mg L H h) (r : WRel K L v w) (e : rd w h = some d) : DRel K L H v d := by
  cases r with
  | d r => cases e; exact .pure r
  | tup _ _ => cases e
  | clo _ _ _ _ _ => cases e
  | ref q =>
    rename_i i a
    obtain ⟨o, h1, h2⟩ := hr.get q
    unfold rd at e
    simp only [h1] at e
    cases h2 with
    | lst h3 h4 => cases e; exact .lst h3 h4
    | dk _ _ => cases e
    | dt _ _ => cases e
    | ins _ _ _ => cases e
theorem DRel.dp (hr : HRel K mg L H h) (r : DRel K L H v d) : Dp K H v d := by
  cases r with
  | pure r => exact Dp.sub hr.sub _ _ r
  | lst h1 h2 => exact .lst (SqL.of h1) (DpAll.sub hr.sub _ _ h2)
/-- the items of a list or tuple that is read -/
theorem DRel.list {ds : List D} (hr : HRel K mg L H h) (r : DRel K L H v (.list ds)) : ∃ a vs, v = .ref a ∧ SqL K H a vs ∧ DpAll K L.F vs ds := by
  cases r with
  | pure r =>
    cases r with
    | lst h1 h2 => exact ⟨_, _, rfl, SqL.sub hr.sub h1, h2⟩
  | lst h1 h2 => exact ⟨_, _, rfl, SqL.of h1, h2⟩
theorem DRel.tuple {ds : List D} (hr : HRel K mg L H h) (r : DRel K L H v (.tuple ds)) : ∃ a vs, v = .ref a ∧ SqT K H a vs ∧ DpAll K L.F vs ds := by
  cases r with
  | pure r =>
    cases r with
    | tup h1 h2 => exact ⟨_, _, rfl, SqT.sub hr.sub h1, h2⟩
theorem DRel.int {i : Int} (r : DRel K L H v (.int i)) : v = .int i := by
  cases r with
  | pure r => cases r; rfl
theorem DRel.bool {i : Bool} (r : DRel K L H v (.bool i)) : v = .bl i := by
  cases r with
  | pure r => cases r; rfl
theorem DRel.str {i : Str} (r : DRel K L H v (.str i)) : v = .str i := by
  cases r with
  | pure r => cases r; rfl
theorem DRel.none (r : DRel K L H v .none) : v = .non := by
  cases r with
  | pure r => cases r; rfl
end

/-- what is wanted of a pure answer -/
def PSat (K : PySem.W.Frag) (mg : Str → Option Value) (L : Ly) (h : MH) (c : D) (Q : VK) : Prop := ∀ v H' L', L.le L' → HRel K mg L' H' h → Dp K L'.F v c → Q v H'
def rP2 (K : PySem.W.Frag) (mg : Str → Option Value) (f : D → D → Option D) : R2 := fun x y H Q => ∃ L h a b c, HRel K mg L H h ∧ DRel K L H x a ∧ DRel K L H y b ∧ f a b = some c ∧ PSat K mg L h c Q
def op2 (f : D → D → Option D) : W → W → MH → Res W := fun x y h => match rd x h, rd y h with
  | some a, some b => (match f a b with
    | some c => .ok (.d c) h
    | none => .stuck)
  | _, _ => .stuck
def mOp2 (f : D → D → Option D) (ma mb : M) : M := fun ρ h => (ma ρ h).bind fun x h1 => (mb ρ h1).bind fun y h2 => op2 f x y h2
theorem PSat.new {K : PySem.W.Frag} {mg : Str → Option Value} {L : Ly} {h : MH} {c : D} {Q : VK} {H : Hp} (s : PSat K mg L h c Q) (hr : HRel K mg L H h) {p : Addr} {o : HO} (np : H p = none)
    (r : Dp K (L.frz p o).F (.ref p) c) (g : GoodO o := by first | exact good_lst _ | assumption) : Q (.ref p) (upd H p o) := by
  obtain ⟨le, hr'⟩ := hr.frz (o := o) np g
  exact s _ _ _ le hr' r
theorem PSat.here {K : PySem.W.Frag} {mg : Str → Option Value} {L : Ly} {h : MH} {c : D} {Q : VK} {H : Hp} {v : V} (s : PSat K mg L h c Q) (hr : HRel K mg L H h) (r : Dp K L.F v c) : Q v H := s _ _ _ (Ly.le.refl L) hr r
theorem frz_sub {L : Ly} {p : Addr} {o : HO} {K : PySem.W.Frag} {mg : Str → Option Value} {H : Hp} {h : MH} (hr : HRel K mg L H h) (np : H p = none) (g : GoodO o := by exact good_lst _) : ∀ a u, L.F a = some u → (L.frz p o).F a = some u := (hr.frz (o := o) np g).1.f
theorem PSat.tup {K : PySem.W.Frag} {mg : Str → Option Value} {L : Ly} {h : MH} {ds : List D} {Q : VK} {H : Hp} {vs : List V} (s : PSat K mg L h (.tuple ds) Q) (hr : HRel K mg L H h) (r : DpAll K L.F vs ds) {p : Addr} (np : H p = none) :
    ∀ ob : Obj, ob.dict = none → Q (.ref p) (upd H p (.frz ob (.tup vs))) := fun ob hd => s.new hr np (.tup (.inl (.inr ⟨ob, show upd L.F p (.frz ob (.tup vs)) p = _ from upd_same⟩)) (DpAll.sub (frz_sub hr np (good_tup hd)) _ _ r)) (good_tup hd)
theorem PSat.lst {K : PySem.W.Frag} {mg : Str → Option Value} {L : Ly} {h : MH} {ds : List D} {Q : VK} {H : Hp} {vs : List V} (s : PSat K mg L h (.list ds) Q) (hr : HRel K mg L H h) (r : DpAll K L.F vs ds) {p : Addr} (np : H p = none) :
    Q (.ref p) (upd H p (.lst vs)) := s.new hr np (.lst (SqL.of (show upd L.F p (.lst vs) p = _ from upd_same)) (DpAll.sub (frz_sub hr np) _ _ r))

/-- two values, then an operation on what they read as -/
theorem op2_read {K : PySem.W.Frag} {mg : Str → Option Value} {Wx : WX} {f : D → D → Option D} {ma mb : M} {σ : L2.St} {H : Hp} {Q : VK} (t : tM K mg Wx (mOp2 f ma mb) σ H Q) : tOp (rP2 K mg f) (tM K mg Wx ma) (tM K mg Wx mb) σ H Q := by
  obtain ⟨L, ρ, h, hr, er, s⟩ := t
  refine ⟨L, ρ, h, hr, er, s.bind fun v H1 L1 x h1 le1 hr1 r1 s1 => ?_⟩
  refine ⟨L1, ρ, h1, hr1, er.mono le1, s1.bind fun u H2 L2 y h2 le2 hr2 r2 s2 => ?_⟩
  have r1' := WRel.mono le2 _ _ r1
  unfold op2 at s2
  split at s2
  · rename_i a b ea eb
    split at s2
    · rename_i c ec
      exact ⟨L2, h2, a, b, c, hr2, rd_rel hr2 r1' ea, rd_rel hr2 r2 eb, ec, fun v' H' L' le' hr' rc => s2 v' H' L' le' hr' (.d rc)⟩
    · exact s2.elim
  · exact s2.elim
abbrev BinR (X : Cx) (op : Operator) (f : D → D → Option D) : Prop := OpR X (binaryOp op) (rP2 X.K X.mg f)
abbrev CmpR (X : Cx) (op : CmpOp) (f : D → D → Option D) : Prop := OpR X (compareOp op) (rP2 X.K X.mg f)
section
variable {X : Cx} {Wx : WX} {a b e : Expr} {pos : Pos} {ma mb : M} {f : D → D → Option D}
theorem je_op {op : Operator} (ho : BinR X op f) (ha : JE X Wx a ma) (hb : JE X Wx b mb) : JE X Wx (.BinOp a op b pos) (mOp2 f ma mb) := peI (pe_op ho ha hb) fun _ _ _ t => op2_read t
theorem je_cmp {op : CmpOp} (ho : CmpR X op f) (hm : behindInMarks op b = false) (ha : JE X Wx a ma) (hb : JE X Wx b mb) : JE X Wx (.Compare a [op] [b] pos) (mOp2 f ma mb) := peI (pe_cmpR ho ha hb hm) fun _ _ _ t => op2_read t
end

/-! ### the operators -/
def fAdd : D → D → Option D
  | .int i, .int j => some (.int (i + j))
  | .str x, .str y => if x.length + y.length ≤ sizeLine then some (.str (x ++ y)) else none
  | .tuple xs, .tuple ys => if xs.length + ys.length ≤ sizeLine then some (.tuple (xs ++ ys)) else none
  | .list xs, .list ys => if xs.length + ys.length ≤ sizeLine then some (.list (xs ++ ys)) else none
  | _, _ => none
def fSub : D → D → Option D
  | .int i, .int j => some (.int (i - j))
  | _, _ => none
def fMul : D → D → Option D
  | .int i, .int j => if (-(2 ^ 64) < i ∧ i < 2 ^ 64) ∨ (-(2 ^ 64) < j ∧ j < 2 ^ 64) then some (.int (i * j)) else none
  | _, _ => none
def fDiv : D → D → Option D
  | .int i, .int j => if 0 < j ∧ j < 1073741824 then some (.int (i / j)) else none
  | _, _ => none
def fMod : D → D → Option D
  | .int i, .int j => if 0 < j then some (.int (i % j)) else none
  | _, _ => none
section
variable {X : Cx}
abbrev TupOb (its : List Value) : Obj := { cls := .type "tuple", data := .seq its.toArray }
theorem inv_tup {pins : List (Addr × Obj)} {σ : L2.St} {H : Hp} {s : Shared} {its : List Value} {xs : List V} (I : Inv X pins σ H s) (r : Vals xs its) (hz : xs.length ≤ sizeLine) {t' : Nat} :
    Inv X pins σ (upd H s.heap.objs.size (.frz (TupOb its) (.tup xs))) { s with heap := s.heap.push (TupOb its), toks := t' } :=
  I.laid (fun b o e => Heap.get?_push_of_some _ e) (Nat.le_refl _) (show ObjOk X.prog X.w _ _ _ (.frz (TupOb its) (.tup xs)) from ⟨Heap.get?_push_size _ rfl, hz, its, r, IsTup.new _ _⟩)
/-- t + u of tuples, whichever is empty -/
theorem op_catT2 : OpR X (binaryOp .Add) (fun x y H Q => ∃ a b xs ys, x = .ref a ∧ y = .ref b ∧ SqT X.K H a xs ∧ SqT X.K H b ys ∧ xs.length + ys.length ≤ sizeLine ∧
    (xs = [] → Q (.ref b) H) ∧ (xs ≠ [] → ys = [] → Q (.ref a) H) ∧ (xs ≠ [] → ys ≠ [] → ∀ p, H p = none → ∀ ob : Obj, ob.dict = none → Q (.ref p) (upd H p (.frz ob (.tup (xs ++ ys)))))) := by
  intro pins s σ H x y v u Q I rx ry h
  obtain ⟨a, b, xs, ys, rfl, rfl, ha, hb, hz, q0, q1, q2⟩ := h
  by_cases hx : xs = []
  · subst hx
    cases rx
    cases ry
    obtain ⟨its, r1, p1, _⟩ := I.tuple ha
    obtain ⟨its2, r2, p2, _⟩ := I.tuple hb
    cases r1
    obtain ⟨⟨cls, dd, data, sl⟩, ho, hc, n, hd⟩ := id p1
    obtain ⟨⟨cls2, dd2, data2, sl2⟩, ho2, hc2, n2, hd2⟩ := id p2
    simp only at hc hd hc2 hd2
    subst hc hd hc2 hd2
    exact concat_meets ⟨_, ho, rfl⟩ ⟨_, ho2, rfl⟩ noFill_tuple_add seq_tuple_add PySem.F.slot_tuple_add PySem.F.entry_tuple_add (PySem.F.args_tuple_add_2 _ _)
      (tuple_addW0 a b #[] its2.toArray n n2 dd dd2 sl sl2 rfl) ⟨ho, ho2, .ref b, H, I, rfl, q0 rfl⟩
  · cases rx
    cases ry
    obtain ⟨l1, r1, p1, _⟩ := I.tuple ha
    obtain ⟨l2, r2, p2, _⟩ := I.tuple hb
    refine HT.cat_tup p1 p2 (fun z => hx (r1.nil_iff.mp z)) (fun z => ⟨.ref a, H, I, rfl, q1 hx (r2.nil_iff.mp z)⟩) (fun z => ?_) (by rw [← r1.length, ← r2.length]; exact hz)
    exact ⟨.ref s.heap.objs.size, _, inv_tup (t' := s.toks) I (r1.append r2) (by rw [List.length_append]; exact hz), rfl, q2 hx (fun w => z (r2.nil_iff.mpr w)) _ (I.hok.fresh (Nat.le_refl _)) _ rfl⟩
/-- xs + ys of lists that are read -/
theorem op_catL : OpR X (binaryOp .Add) (fun x y H Q => ∃ a b xs ys, x = .ref a ∧ y = .ref b ∧ SqL X.K H a xs ∧ SqL X.K H b ys ∧ xs.length + ys.length ≤ sizeLine ∧ ∀ p, H p = none → Q (.ref p) (upd H p (.lst (xs ++ ys)))) := by
  intro pins s σ H x y v u Q I rx ry h
  obtain ⟨a, b, xs, ys, rfl, rfl, ha, hb, hz, q⟩ := h
  cases rx
  cases ry
  obtain ⟨its, r1, p1, _⟩ := I.list ha
  obtain ⟨its2, r2, p2, _⟩ := I.list hb
  obtain ⟨⟨cls, dd, data, sl⟩, n, ho, hc, hdd, hd⟩ := p1
  obtain ⟨⟨cls2, dd2, data2, sl2⟩, n2, ho2, hc2, hdd2, hd2⟩ := p2
  simp only at hc hd hc2 hd2
  subst hc hd hc2 hd2
  have l1 := r1.length
  have l2 := r2.length
  refine concat_meets ⟨_, ho, rfl⟩ ⟨_, ho2, rfl⟩ noFill_list_add seq_list_add PySem.F.slot_list_add PySem.F.entry_list_add (PySem.F.args_list_add_2 _ _)
    (list_addW a b its.toArray its2.toArray n n2 dd dd2 sl sl2 (by rw [List.size_toArray, List.size_toArray]; omega)) ⟨ho, ho2, ?_⟩
  have ea : its.toArray ++ its2.toArray = (its ++ its2).toArray := by simp
  rw [ea]
  exact ⟨.ref _, _, I.lnew (t' := s.toks) (r1.append r2) (by rw [List.length_append]; omega), rfl, q _ I.fresh⟩
theorem bin_add : BinR X .Add fAdd := by
  intro pins s σ H x y v u Q I rx ry q
  obtain ⟨L, h, a, b, c, hr, ra, rb, e, q⟩ := q
  unfold fAdd at e
  split at e
  · cases e
    exact op_add pins s σ H x y v u Q I rx ry ⟨_, _, ra.int, rb.int, q.here hr (.int _)⟩
  · split at e
    · cases e
      exact op_add_str pins s σ H x y v u Q I rx ry ⟨_, _, ra.str, rb.str, by assumption, q.here hr (.str _)⟩
    · cases e
  · split at e
    · rename_i hz
      cases e
      obtain ⟨p1, vs1, rfl, s1, d1⟩ := ra.tuple hr
      obtain ⟨p2, vs2, rfl, s2, d2⟩ := rb.tuple hr
      refine op_catT2 pins s σ H _ _ v u Q I rx ry ⟨p1, p2, vs1, vs2, rfl, rfl, s1, s2, by rw [DpAll.length d1, DpAll.length d2]; exact hz, fun z => ?_, fun _ z => ?_, fun _ _ p np ob hd => q.tup hr (DpAll.append d1 d2) np ob hd⟩
      · subst z
        have := DpAll.length d1
        cases d1
        cases rb with
        | pure rb => exact q.here hr rb
      · subst z
        have := DpAll.length d2
        cases d2
        rw [List.append_nil] at q
        cases ra with
        | pure ra => exact q.here hr ra
    · cases e
  · split at e
    · rename_i hz
      cases e
      obtain ⟨p1, vs1, rfl, s1, d1⟩ := ra.list hr
      obtain ⟨p2, vs2, rfl, s2, d2⟩ := rb.list hr
      exact op_catL pins s σ H _ _ v u Q I rx ry ⟨p1, p2, vs1, vs2, rfl, rfl, s1, s2, by rw [DpAll.length d1, DpAll.length d2]; exact hz, fun p np => q.lst hr (DpAll.append d1 d2) np⟩
    · cases e
  · cases e
theorem bin_sub : BinR X .Sub fSub := by
  intro pins s σ H x y v u Q I rx ry q
  obtain ⟨L, h, a, b, c, hr, ra, rb, e, q⟩ := q
  unfold fSub at e
  split at e
  · cases e
    exact op_sub pins s σ H x y v u Q I rx ry ⟨_, _, ra.int, rb.int, q.here hr (.int _)⟩
  · cases e
theorem bin_mul : BinR X .Mult fMul := by
  intro pins s σ H x y v u Q I rx ry q
  obtain ⟨L, h, a, b, c, hr, ra, rb, e, q⟩ := q
  unfold fMul at e
  split at e
  · split at e
    · cases e
      exact op_mul pins s σ H x y v u Q I rx ry ⟨_, _, ra.int, rb.int, by assumption, q.here hr (.int _)⟩
    · cases e
  · cases e
theorem bin_div : BinR X .FloorDiv fDiv := by
  intro pins s σ H x y v u Q I rx ry q
  obtain ⟨L, h, a, b, c, hr, ra, rb, e, q⟩ := q
  unfold fDiv at e
  split at e
  · split at e
    · cases e
      exact op_fdiv pins s σ H x y v u Q I rx ry ⟨_, _, ra.int, rb.int, by assumption, q.here hr (.int _)⟩
    · cases e
  · cases e
theorem bin_mod : BinR X .Mod fMod := by
  intro pins s σ H x y v u Q I rx ry q
  obtain ⟨L, h, a, b, c, hr, ra, rb, e, q⟩ := q
  unfold fMod at e
  split at e
  · split at e
    · cases e
      exact op_mod pins s σ H x y v u Q I rx ry ⟨_, _, ra.int, rb.int, by assumption, q.here hr (.int _)⟩
    · cases e
  · cases e
end
end Dw
/-! Dw: comparisons, tests, displays, calls of built-in functions -/
namespace Dw
variable [LamTab]
open PySem PySem.Spec PyProof.Rows L2

mutual
theorem Dp.plain {K : PySem.W.Frag} {H : Hp} : ∀ (d : D) (v : V), Dp K H v d → d.plain = true
  | .none, _, _ => rfl
  | .bool b, _, _ => rfl
  | .int i, _, _ => rfl
  | .str i, _, _ => rfl
  | .list ds, _, h => by
    cases h with
    | lst hs ha => exact DpAll.plain ds _ ha
  | .tuple ds, _, h => by
    cases h with
    | tup hs ha => exact DpAll.plain ds _ ha
  | .dict _, _, h => by cases h
theorem DpAll.plain {K : PySem.W.Frag} {H : Hp} : ∀ (ds : List D) (vs : List V), DpAll K H vs ds → PyData.plainAll ds = true
  | [], _, _ => rfl
  | d :: ds, _, h => by
    cases h with
    | cons h1 h2 =>
      show (PyData.plain d && PyData.plainAll ds) = true
      rw [Dp.plain d _ h1, DpAll.plain ds _ h2]
      rfl
end
section
variable {X : Cx} {pins : List (Addr × Obj)} {σ : L2.St} {H : Hp} {s : Shared} {L : Ly} {h : MH} {v : V} {u : Value} {d : D}
theorem DRel.reads (I : Inv X pins σ H s) (hr : HRel X.K X.mg L H h) (r : DRel X.K L H v d) (ru : RelV v u) : d.plain = true ∧ ∃ as, Reads s.heap u d as :=
  ⟨Dp.plain d v (r.dp hr), Dp.reads I d v u (r.dp hr) ru⟩
end

/-! ### comparisons -/
def fEq : D → D → Option D := fun a b => if min a.depth b.depth ≤ 100 then some (.bool (PyData.eqv a b)) else none
def fNe : D → D → Option D := fun a b => if min a.depth b.depth ≤ 100 then some (.bool (!PyData.eqv a b)) else none
def cmpOk (a b : D) : Bool := PySem.W.alike a b && (match a with | .none => false | _ => true) && decide (min a.depth b.depth ≤ 100)
def fLt : D → D → Option D := fun a b => if cmpOk a b = true then some (.bool (PySem.W.dataLt a b)) else none
def fGt : D → D → Option D := fun a b => if cmpOk a b = true then some (.bool (PySem.W.dataLt b a)) else none
def fLe : D → D → Option D := fun a b => if cmpOk a b = true then some (.bool (!PySem.W.dataLt b a)) else none
def fGe : D → D → Option D := fun a b => if cmpOk a b = true then some (.bool (!PySem.W.dataLt a b)) else none
def anyEqv (xs : List D) (d : D) : Bool := xs.any fun y => PyData.eqv y d
def fIn : D → D → Option D
  | d, .list xs => if min (PyData.depthAll xs) d.depth ≤ 100 then some (.bool (anyEqv xs d)) else none
  | d, .tuple xs => if min (PyData.depthAll xs) d.depth ≤ 100 then some (.bool (anyEqv xs d)) else none
  | .str i, .str j => some (.bool (!(Builtin.Str.occurrences j i 0 j.length 1).isEmpty))
  | _, _ => none
def fNotIn : D → D → Option D
  | d, .list xs => if min (PyData.depthAll xs) d.depth ≤ 100 then some (.bool (!anyEqv xs d)) else none
  | d, .tuple xs => if min (PyData.depthAll xs) d.depth ≤ 100 then some (.bool (!anyEqv xs d)) else none
  | .str i, .str j => some (.bool (!(!(Builtin.Str.occurrences j i 0 j.length 1).isEmpty)))
  | _, _ => none
def isNo : D → Bool
  | .none => true
  | _ => false
def fIs : D → D → Option D
  | a, .none => some (.bool (isNo a))
  | _, _ => none
def fIsNot : D → D → Option D
  | a, .none => some (.bool (!isNo a))
  | _, _ => none
section
variable {X : Cx} {k : Nat}
theorem cmp_eq (hr : Room k X.A) : CmpR X .Eq fEq := by
  intro pins s σ H x y v u Q I rx ry q
  obtain ⟨L, h, a, b, c, hh, ra, rb, e, q⟩ := q
  obtain ⟨pa, as, r1⟩ := ra.reads I hh rx
  obtain ⟨pb, bs, r2⟩ := rb.reads I hh ry
  unfold fEq at e
  split at e
  · cases e
    have hu := hr.un
    exact SeqAt.eq_plain r1 r2 pa pb (by omega) ⟨.bl _, H, I, rfl, q.here hh (.bl _)⟩
  · cases e
theorem cmp_ne (hr : Room k X.A) : CmpR X .NotEq fNe := by
  intro pins s σ H x y v u Q I rx ry q
  obtain ⟨L, h, a, b, c, hh, ra, rb, e, q⟩ := q
  obtain ⟨pa, as, r1⟩ := ra.reads I hh rx
  obtain ⟨pb, bs, r2⟩ := rb.reads I hh ry
  unfold fNe at e
  split at e
  · cases e
    have hu := hr.un
    exact SeqAt.ne_plain r1 r2 pa pb (by omega) ⟨.bl _, H, I, rfl, q.here hh (.bl _)⟩
  · cases e
theorem cmpOk_of {a b : D} (h : cmpOk a b = true) : PySem.W.alike a b = true ∧ a ≠ .none ∧ min a.depth b.depth ≤ 100 := by
  unfold cmpOk at h
  simp only [Bool.and_eq_true, decide_eq_true_eq] at h
  refine ⟨h.1.1, ?_, h.2⟩
  intro z
  subst z
  exact absurd h.1.2 (by simp)
theorem cmp_lt (hr : Room k X.A) : CmpR X .Lt fLt := by
  intro pins s σ H x y v u Q I rx ry q
  obtain ⟨L, h, a, b, c, hh, ra, rb, e, q⟩ := q
  obtain ⟨pa, as, r1⟩ := ra.reads I hh rx
  obtain ⟨pb, bs, r2⟩ := rb.reads I hh ry
  unfold fLt at e
  split at e
  · rename_i hc
    obtain ⟨c1, c2, c3⟩ := cmpOk_of hc
    cases e
    have hu := hr.un
    exact PySem.W.lt_data r1 r2 c1 c2 (by omega) ⟨.bl _, H, I, rfl, q.here hh (.bl _)⟩
  · cases e
theorem cmp_gt (hr : Room k X.A) : CmpR X .Gt fGt := by
  intro pins s σ H x y v u Q I rx ry q
  obtain ⟨L, h, a, b, c, hh, ra, rb, e, q⟩ := q
  obtain ⟨pa, as, r1⟩ := ra.reads I hh rx
  obtain ⟨pb, bs, r2⟩ := rb.reads I hh ry
  unfold fGt at e
  split at e
  · rename_i hc
    obtain ⟨c1, c2, c3⟩ := cmpOk_of hc
    cases e
    have hu := hr.un
    exact PySem.W.gt_data r1 r2 c1 c2 (by omega) ⟨.bl _, H, I, rfl, q.here hh (.bl _)⟩
  · cases e
theorem cmp_le (hr : Room k X.A) : CmpR X .LtE fLe := by
  intro pins s σ H x y v u Q I rx ry q
  obtain ⟨L, h, a, b, c, hh, ra, rb, e, q⟩ := q
  obtain ⟨pa, as, r1⟩ := ra.reads I hh rx
  obtain ⟨pb, bs, r2⟩ := rb.reads I hh ry
  unfold fLe at e
  split at e
  · rename_i hc
    obtain ⟨c1, c2, c3⟩ := cmpOk_of hc
    cases e
    have hu := hr.un
    exact PySem.W.le_data r1 r2 c1 c2 (by omega) ⟨.bl _, H, I, rfl, q.here hh (.bl _)⟩
  · cases e
theorem cmp_ge (hr : Room k X.A) : CmpR X .GtE fGe := by
  intro pins s σ H x y v u Q I rx ry q
  obtain ⟨L, h, a, b, c, hh, ra, rb, e, q⟩ := q
  obtain ⟨pa, as, r1⟩ := ra.reads I hh rx
  obtain ⟨pb, bs, r2⟩ := rb.reads I hh ry
  unfold fGe at e
  split at e
  · rename_i hc
    obtain ⟨c1, c2, c3⟩ := cmpOk_of hc
    cases e
    have hu := hr.un
    exact PySem.W.ge_data r1 r2 c1 c2 (by omega) ⟨.bl _, H, I, rfl, q.here hh (.bl _)⟩
  · cases e
theorem cmp_in (hr : Room k X.A) : CmpR X .In fIn := by
  intro pins s σ H x y v u Q I rx ry q
  obtain ⟨L, h, a, b, c, hh, ra, rb, e, q⟩ := q
  obtain ⟨pa, as, r1⟩ := ra.reads I hh rx
  obtain ⟨pb, bs, r2⟩ := rb.reads I hh ry
  have hu := hr.un
  unfold fIn at e
  split at e
  · split at e
    · cases e
      exact SeqAt.in_list_data r2 r1 pb pa (by omega) ⟨.bl _, H, I, rfl, q.here hh (.bl _)⟩
    · cases e
  · split at e
    · cases e
      exact SeqAt.in_tuple_data r2 r1 pb pa (by omega) ⟨.bl _, H, I, rfl, q.here hh (.bl _)⟩
    · cases e
  · cases e
    exact op_in_str pins s σ H x y v u Q I rx ry ⟨_, _, ra.str, rb.str, q.here hh (.bl _)⟩
  · cases e
theorem cmp_notIn (hr : Room k X.A) : CmpR X .NotIn fNotIn := by
  intro pins s σ H x y v u Q I rx ry q
  obtain ⟨L, h, a, b, c, hh, ra, rb, e, q⟩ := q
  obtain ⟨pa, as, r1⟩ := ra.reads I hh rx
  obtain ⟨pb, bs, r2⟩ := rb.reads I hh ry
  have hu := hr.un
  unfold fNotIn at e
  split at e
  · split at e
    · cases e
      exact SeqAt.notIn_list_data r2 r1 pb pa (by omega) ⟨.bl _, H, I, rfl, q.here hh (.bl _)⟩
    · cases e
  · split at e
    · cases e
      exact SeqAt.notIn_tuple_data r2 r1 pb pa (by omega) ⟨.bl _, H, I, rfl, q.here hh (.bl _)⟩
    · cases e
  · cases e
    exact op_notIn_str pins s σ H x y v u Q I rx ry ⟨_, _, ra.str, rb.str, q.here hh (.bl _)⟩
  · cases e
theorem isN_dec {K : PySem.W.Frag} {L : Ly} {H : Hp} {x : V} {a : D} (ra : DRel K L H x a) : decide (x = .non) = isNo a := by
  cases ra with
  | pure r => cases r <;> rfl
  | lst _ _ => rfl
theorem cmp_is : CmpR X .Is fIs := by
  intro pins s σ H x y v u Q I rx ry q
  obtain ⟨L, h, a, b, c, hh, ra, rb, e, q⟩ := q
  unfold fIs at e
  split at e
  · cases e
    refine op_isN pins s σ H x y v u Q I rx ry ⟨rb.none, ?_⟩
    rw [isN_dec ra]
    exact q.here hh (.bl _)
  · cases e
theorem cmp_isNot : CmpR X .IsNot fIsNot := by
  intro pins s σ H x y v u Q I rx ry q
  obtain ⟨L, h, a, b, c, hh, ra, rb, e, q⟩ := q
  unfold fIsNot at e
  split at e
  · cases e
    refine op_notN pins s σ H x y v u Q I rx ry ⟨rb.none, ?_⟩
    rw [isN_dec ra]
    exact q.here hh (.bl _)
  · cases e
end

/-! ### tests -/
def truthD : D → Option Bool
  | .none => some false
  | .bool b => some b
  | .int i => some (i != 0)
  | .str x => if x.length ≤ sizeLine then some ((x.length : Int) != 0) else none
  | .list xs => some (!xs.isEmpty)
  | .tuple xs => some (!xs.isEmpty)
  | .dict _ => none
def truthW (w : W) (h : MH) : Option Bool := match rd w h with
  | some d => truthD d
  | none => none
def mTest (m : M) : MT := fun ρ h => (m ρ h).bind fun w h1 => match truthW w h1 with
  | some b => .ok b h1
  | none => .stuck
theorem truV_of {K : PySem.W.Frag} {mg : Str → Option Value} {L : Ly} {H : Hp} {h : MH} {v : V} {d : D} {b : Bool} (hr : HRel K mg L H h) (r : DRel K L H v d) (e : truthD d = some b) : TruV K v H b := by
  cases d with
  | none => cases r.none; cases e; rfl
  | bool x => cases r.bool; cases e; rfl
  | int x => cases r.int; cases e; rfl
  | str x =>
    cases r.str
    have e : (if x.length ≤ sizeLine then some ((x.length : Int) != 0) else none) = some b := e
    split at e
    · cases e
      exact ⟨by assumption, rfl⟩
    · cases e
  | list xs =>
    obtain ⟨a, vs, rfl, s1, d1⟩ := r.list hr
    cases e
    refine .inl ⟨vs, s1, ?_⟩
    cases d1 <;> rfl
  | tuple xs =>
    obtain ⟨a, vs, rfl, s1, d1⟩ := r.tuple hr
    cases e
    refine .inr (.inl ⟨vs, s1, ?_⟩)
    cases d1 <;> rfl
  | dict _ => cases e
section
variable {X : Cx} {Wx : WX} {a b e : Expr} {pos : Pos} {ma mb m : M} {f : D → D → Option D} {ta tb : MT}
theorem test_read {K : PySem.W.Frag} {mg : Str → Option Value} {σ : L2.St} {H : Hp} {Q : Bool → Hp → Prop} (t : tMT K mg Wx (mTest m) σ H Q) :
    tM K mg Wx m σ H fun x H' => ∃ k, TruV K x H' k ∧ Q k H' := by
  obtain ⟨L, ρ, h, hr, er, s⟩ := t
  refine ⟨L, ρ, h, hr, er, s.bind fun v H1 L1 x h1 le1 hr1 r1 s1 => ?_⟩
  split at s1
  · rename_i k ek
    unfold truthW at ek
    split at ek
    · rename_i d ed
      exact ⟨k, truV_of hr1 (rd_rel hr1 r1 ed) ek, s1 k H1 L1 (Ly.le.refl _) hr1 rfl⟩
    · cases ek
  · exact s1.elim
/-- any value's truth -/
theorem jt_truth (ha : JE X Wx a m) (he : ∀ whole, isTrue a X.env whole = (do let v ← whole; standAt a.pos; holding [v] (truthy v)) := by intro _; rfl) : JT X Wx a (mTest m) :=
  ptI (pt_truth ha he) fun _ _ _ t => test_read t
theorem Res.assoc {α β γ : Type} (r : Res α) (f : α → MH → Res β) (g : β → MH → Res γ) : (r.bind f).bind g = r.bind fun a h => (f a h).bind g := by
  cases r <;> rfl
theorem testBl {K : PySem.W.Frag} {mg : Str → Option Value} {σ : L2.St} {H : Hp} {Q : Bool → Hp → Prop} (hb : ∀ x y c, f x y = some c → ∃ k, c = .bool k) (t : tMT K mg Wx (mTest (mOp2 f ma mb)) σ H Q) :
    tTest (tOp (rP2 K mg f) (tM K mg Wx ma) (tM K mg Wx mb)) σ H Q := by
  obtain ⟨L, ρ, h, hr, er, s⟩ := t
  unfold mTest mOp2 at s
  rw [Res.assoc] at s
  refine ⟨L, ρ, h, hr, er, s.bind fun v H1 L1 x h1 le1 hr1 r1 s1 => ?_⟩
  rw [Res.assoc] at s1
  refine ⟨L1, ρ, h1, hr1, er.mono le1, s1.bind fun u H2 L2 y h2 le2 hr2 r2 s2 => ?_⟩
  have r1' := WRel.mono le2 _ _ r1
  unfold op2 at s2
  split at s2
  · rename_i a b ea eb
    cases ec : f a b with
    | some c =>
      simp only [ec] at s2
      obtain ⟨k, rfl⟩ := hb _ _ _ ec
      refine ⟨L2, h2, a, b, _, hr2, rd_rel hr2 r1' ea, rd_rel hr2 r2 eb, ec, fun v' H' L' le' hr' rc => ?_⟩
      cases rc
      exact ⟨k, rfl, s2 k H' L' le' hr' rfl⟩
    | none => simp only [ec] at s2; exact s2.elim
  · exact s2.elim
/-- a comparison as a test -/
theorem jt_cmp {op : CmpOp} (ho : CmpR X op f) (hb : ∀ x y c, f x y = some c → ∃ k, c = .bool k) (hm : behindInMarks op b = false) (ha : JE X Wx a ma) (hb' : JE X Wx b mb) :
    JT X Wx (.Compare a [op] [b] pos) (mTest (mOp2 f ma mb)) := ptI (pt_cmpR ho ha hb' hm) fun _ _ _ t => testBl hb t
def mAndT (t u : MT) : MT := fun ρ h => (t ρ h).bind fun b h1 => if b = true then u ρ h1 else .ok false h1
def mOrT (t u : MT) : MT := fun ρ h => (t ρ h).bind fun b h1 => if b = true then .ok true h1 else u ρ h1
def mNotT (t : MT) : MT := fun ρ h => (t ρ h).bind fun b h1 => .ok (!b) h1
theorem jw_and1 (h : JT X Wx a ta) : JW X Wx (.BoolOp .And [a] pos) ta := pw_and1 h
theorem jw_or1 (h : JT X Wx a ta) : JW X Wx (.BoolOp .Or [a] pos) ta := pw_or1 h
theorem jw_and {rest : List Expr} (ha : JT X Wx a ta) (hb : JW X Wx (.BoolOp .And (b :: rest) pos) tb) : JW X Wx (.BoolOp .And (a :: b :: rest) pos) (mAndT ta tb) :=
  pwI (pw_and ha hb) fun σ H Q ⟨L, ρ, h, hr, er, s⟩ => ⟨L, ρ, h, hr, er, s.bind fun v H1 L1 x h1 le1 hr1 r1 s1 => by
    cases (show v = x from r1)
    cases v with
    | true => exact ⟨L1, ρ, h1, hr1, er.mono le1, s1⟩
    | false => exact s1 false H1 L1 (Ly.le.refl _) hr1 rfl⟩
theorem jw_or {rest : List Expr} (ha : JT X Wx a ta) (hb : JW X Wx (.BoolOp .Or (b :: rest) pos) tb) : JW X Wx (.BoolOp .Or (a :: b :: rest) pos) (mOrT ta tb) :=
  pwI (pw_or ha hb) fun σ H Q ⟨L, ρ, h, hr, er, s⟩ => ⟨L, ρ, h, hr, er, s.bind fun v H1 L1 x h1 le1 hr1 r1 s1 => by
    cases (show v = x from r1)
    cases v with
    | true => exact s1 true H1 L1 (Ly.le.refl _) hr1 rfl
    | false => exact ⟨L1, ρ, h1, hr1, er.mono le1, s1⟩⟩
theorem jt_bool (h : JW X Wx a ta) : JT X Wx a ta := h.pt
theorem jt_not (h : JT X Wx a ta) : JT X Wx (.UnaryOp .Not a pos) (mNotT ta) :=
  ptI (pt_not h) fun σ H Q ⟨L, ρ, h, hr, er, s⟩ => ⟨L, ρ, h, hr, er, s.bind fun v H1 L1 x h1 le1 hr1 r1 s1 => by
    cases (show v = x from r1)
    exact s1 (!v) H1 L1 (Ly.le.refl _) hr1 rfl⟩
def mIf (t : MT) (a b : M) : M := fun ρ h => (t ρ h).bind fun c h1 => if c = true then a ρ h1 else b ρ h1
theorem je_if {c : Expr} (hc : JT X Wx c ta) (ha : JE X Wx a ma) (hb : JE X Wx b mb) : JE X Wx (.IfExp c a b pos) (mIf ta ma mb) :=
  peI (pe_ifExp hc ha hb) fun σ H Q ⟨L, ρ, h, hr, er, s⟩ => ⟨L, ρ, h, hr, er, s.bind fun v H1 L1 x h1 le1 hr1 r1 s1 => by
    cases (show v = x from r1)
    cases v with
    | true => exact ⟨L1, ρ, h1, hr1, er.mono le1, s1⟩
    | false => exact ⟨L1, ρ, h1, hr1, er.mono le1, s1⟩⟩
/-- and, or, not as values, the parts truths -/
def mAndV (a b : M) : M := fun ρ h => (a ρ h).bind fun x h1 => match truthW x h1 with
  | some c => if c = true then b ρ h1 else .ok x h1
  | none => .stuck
def mOrV (a b : M) : M := fun ρ h => (a ρ h).bind fun x h1 => match truthW x h1 with
  | some c => if c = true then .ok x h1 else b ρ h1
  | none => .stuck
def mNotV (a : M) : M := fun ρ h => (a ρ h).bind fun x h1 => match truthW x h1 with
  | some c => .ok (.d (.bool (!c))) h1
  | none => .stuck
theorem truW_of {K : PySem.W.Frag} {mg : Str → Option Value} {L : Ly} {H : Hp} {h : MH} {v : V} {x : W} {k : Bool} (hr : HRel K mg L H h) (r : WRel K L v x) (e : truthW x h = some k) : TruV K v H k := by
  unfold truthW at e
  split at e
  · rename_i d ed
    exact truV_of hr (rd_rel hr r ed) e
  · cases e
theorem bl_of {K : PySem.W.Frag} {L : Ly} {v : V} {c : Bool} (r : WRel K L v (.d (.bool c))) : v = .bl c := by
  cases r with
  | d r => cases r; rfl
theorem je_and {rest : List Expr} (ha : JE X Wx a ma) (hb : JE X Wx (.BoolOp .And (b :: rest) pos) mb) : JE X Wx (.BoolOp .And (a :: b :: rest) pos) (mAndV ma mb) :=
  peI (pe_andT ha hb) fun σ H Q ⟨L, ρ, h, hr, er, s⟩ => ⟨L, ρ, h, hr, er, s.bind fun v H1 L1 x h1 le1 hr1 r1 s1 => by
    split at s1
    · rename_i k ek
      refine ⟨k, truW_of hr1 r1 ek, ?_⟩
      cases k with
      | true => exact ⟨L1, ρ, h1, hr1, er.mono le1, s1⟩
      | false => exact s1.ok hr1 r1
    · exact s1.elim⟩
theorem je_or {rest : List Expr} (ha : JE X Wx a ma) (hb : JE X Wx (.BoolOp .Or (b :: rest) pos) mb) : JE X Wx (.BoolOp .Or (a :: b :: rest) pos) (mOrV ma mb) :=
  peI (pe_orT ha hb) fun σ H Q ⟨L, ρ, h, hr, er, s⟩ => ⟨L, ρ, h, hr, er, s.bind fun v H1 L1 x h1 le1 hr1 r1 s1 => by
    split at s1
    · rename_i k ek
      refine ⟨k, truW_of hr1 r1 ek, ?_⟩
      cases k with
      | true => exact s1.ok hr1 r1
      | false => exact ⟨L1, ρ, h1, hr1, er.mono le1, s1⟩
    · exact s1.elim⟩
theorem je_one {op} (h : JE X Wx a ma) : JE X Wx (.BoolOp op [a] pos) ma := pe_one h
theorem je_not (ha : JE X Wx a ma) : JE X Wx (.UnaryOp .Not a pos) (mNotV ma) :=
  peI (pe_notT ha) fun σ H Q ⟨L, ρ, h, hr, er, s⟩ => ⟨L, ρ, h, hr, er, s.bind fun v H1 L1 x h1 le1 hr1 r1 s1 => by
    split at s1
    · rename_i c ec
      exact ⟨c, truW_of hr1 r1 ec, s1.ok hr1 (.d (.bl _))⟩
    · exact s1.elim⟩
def mNeg (a : M) : M := fun ρ h => (a ρ h).bind fun x h1 => match x with
  | .d (.int i) => .ok (.d (.int (-i))) h1
  | _ => .stuck
theorem je_neg (ha : JE X Wx a ma) : JE X Wx (.UnaryOp .USub a pos) (mNeg ma) :=
  peI (pe_un un_neg ha) fun σ H Q ⟨L, ρ, h, hr, er, s⟩ => ⟨L, ρ, h, hr, er, s.bind fun v H1 L1 x h1 le1 hr1 r1 s1 => by
    split at s1
    · rename_i i
      refine ⟨i, ?_, s1.ok hr1 (.d (.int _))⟩
      cases r1 with
      | d r => cases r; rfl
    · exact s1.elim⟩
/-- a < b < c -/
def mChain (f g : D → D → Option D) (ma mb mc : M) : M := fun ρ h => (ma ρ h).bind fun x h1 => (mb ρ h1).bind fun y h2 => (op2 f x y h2).bind fun z h3 => match z with
  | .d (.bool k) => if k = true then (mc ρ h3).bind fun w h4 => op2 g y w h4 else .ok (.d (.bool false)) h3
  | _ => .stuck
theorem op2_sat {K : PySem.W.Frag} {mg : Str → Option Value} {L : Ly} {H : Hp} {h : MH} {x y : V} {wx wy : W} {Q : VK} {E : XK} (hr : HRel K mg L H h) (rx : WRel K L x wx) (ry : WRel K L y wy) (s : Sat K mg (WRel K) L (op2 f wx wy h) Q E) :
    rP2 K mg f x y H Q := by
  unfold op2 at s
  split at s
  · rename_i a b ea eb
    split at s
    · rename_i c ec
      exact ⟨L, h, a, b, c, hr, rd_rel hr rx ea, rd_rel hr ry eb, ec, fun v' H' L' le' hr' rc => s v' H' L' le' hr' (.d rc)⟩
    · exact s.elim
  · exact s.elim
theorem je_chain {c : Expr} {mc : M} {g : D → D → Option D} {op op' : CmpOp} (ho : CmpR X op f) (ho' : CmpR X op' g) (ha : JE X Wx a ma) (hb : JE X Wx b mb) (hc : JE X Wx c mc)
    (hm : lastMarks [op, op'] [b, c] = false := by with_unfolding_all rfl) : JE X Wx (.Compare a [op, op'] [b, c] pos) (mChain f g ma mb mc) :=
  peI (pe_chain ho ho' ha hb hc hm) fun σ H Q ⟨L, ρ, h, hr, er, s⟩ => ⟨L, ρ, h, hr, er, s.bind fun v H1 L1 x h1 le1 hr1 r1 s1 =>
    ⟨L1, ρ, h1, hr1, er.mono le1, s1.bind fun u H2 L2 y h2 le2 hr2 r2 s2 =>
      op2_sat (E := fun c d H' => Wx c d σ H') hr2 (WRel.mono le2 _ _ r1) r2 (s2.bind fun z H3 L3 wz h3 le3 hr3 r3 s3 => by
        split at s3
        · rename_i k
          refine ⟨k, bl_of r3, ?_⟩
          cases k with
          | true => exact ⟨L3, ρ, h3, hr3, (er.mono (le1.trans (le2.trans le3))), s3.bind fun t H4 L4 wt h4 le4 hr4 r4 s4 => op2_sat hr4 (WRel.mono (le3.trans le4) _ _ r2) r4 s4⟩
          | false => exact s3.ok hr3 (.d (.bl false))
        · exact s3.elim)⟩⟩
end

/-! ### arguments, displays -/
def mNil : MA := fun _ h => .ok [] h
def mCons (m : M) (ms : MA) : MA := fun ρ h => (m ρ h).bind fun w h1 => (ms ρ h1).bind fun ws h2 => .ok (w :: ws) h2
section
variable {X : Cx} {Wx : WX} {a b e : Expr} {es : List Expr} {pos : Pos} {m : M} {ms : MA}
theorem ja_nil : JA X Wx [] mNil := paI pa_nil fun σ H Q ⟨L, ρ, h, hr, er, s⟩ => s.ok hr .nil
theorem ja_cons (ha : JE X Wx e m) (hr : JA X Wx es ms) (hs : starEach (e :: es) X.env = (false, eval e X.env) :: starEach es X.env := by rfl) : JA X Wx (e :: es) (mCons m ms) :=
  paI (pa_cons ha hr hs) fun σ H Q ⟨L, ρ, h, hr, er, s⟩ => ⟨L, ρ, h, hr, er, s.bind fun v H1 L1 x h1 le1 hr1 r1 s1 =>
    ⟨L1, ρ, h1, hr1, er.mono le1, s1.bind fun vs H2 L2 xs h2 le2 hr2 r2 s2 => s2.ok hr2 (.cons (WRel.mono le2 _ _ r1) r2)⟩⟩
/-- (a, b, ..) -/
def mTup (ms : MA) : M := fun ρ h => (ms ρ h).bind fun ws h1 => if ws.length ≤ sizeLine then (match allD ws with
  | some ds => .ok (.d (.tuple ds)) h1
  | none => .ok (.tup ws) h1) else .stuck
/-- a written tuple, its object known -/
def tTupX (t : TA) : TE := fun σ H Q => t σ H fun xs H1 => xs.length ≤ sizeLine ∧ ∀ p, H1 p = none → ∀ ob : Obj, ob.dict = none → Q (.ref p) (upd H1 p (.frz ob (.tup xs)))
theorem pe_tupX {x1} {t : TA} (ha : PA X es t) : PE X (.Tuple es x1 pos) (tTupX t) := by
  refine ⟨fun pins s σ H Q I hq => ?_⟩
  refine wpAny_Tuple_spliced (thn (ha.run pos pins s σ H _ I hq) fun us s1 ⟨vs, H1, I1, rv, hz, q⟩ => ⟨by rw [← rv.length]; exact hz, ?_⟩)
  exact ⟨.ref s1.heap.objs.size, _, inv_tup (t' := s1.toks) I1 rv hz, rfl, q _ (I1.hok.fresh (Nat.le_refl _)) _ rfl⟩
theorem je_tup {x1} (ha : JA X Wx es ms) : JE X Wx (.Tuple es x1 pos) (mTup ms) :=
  peI (pe_tupX ha) fun σ H Q ⟨L, ρ, h, hr, er, s⟩ => ⟨L, ρ, h, hr, er, s.bind fun vs H1 L1 ws h1 le1 hr1 r1 s1 => by
    split at s1
    · rename_i hz
      refine ⟨by rw [r1.length]; exact hz, fun p np ob hd => ?_⟩
      obtain ⟨le, hr'⟩ := hr1.frz (o := .frz ob (.tup vs)) np (good_tup hd)
      have hp : SqT X.K (L1.frz p (.frz ob (.tup vs))).F p vs := .inl (.inr ⟨ob, show upd L1.F p (.frz ob (.tup vs)) p = _ from upd_same⟩)
      split at s1
      · rename_i ds ed
        exact s1 _ _ _ le hr' (.d (.tup hp (DpAll.sub le.f _ _ (r1.pure ed))))
      · rename_i en
        exact s1 _ _ _ le hr' (.tup (.inl ⟨hp, en⟩) (WRels.mono le _ _ r1))
    · exact s1.elim⟩
/-- [a, b, ..], that never changes -/
def mLst (ms : MA) : M := fun ρ h => (ms ρ h).bind fun ws h1 => if ws.length ≤ sizeLine then (match allD ws with
  | some ds => .ok (.d (.list ds)) h1
  | none => .stuck) else .stuck
theorem je_lst (ha : JA X Wx es ms) : JE X Wx (.List es pos) (mLst ms) :=
  peI (pe_lst ha) fun σ H Q ⟨L, ρ, h, hr, er, s⟩ => ⟨L, ρ, h, hr, er, s.bind fun vs H1 L1 ws h1 le1 hr1 r1 s1 => by
    split at s1
    · rename_i hz
      refine ⟨by rw [r1.length]; exact hz, fun p np => ?_⟩
      obtain ⟨le, hr'⟩ := hr1.frz (o := .lst vs) np
      have hp : SqL X.K (L1.frz p (.lst vs)).F p vs := SqL.of (show upd L1.F p (.lst vs) p = _ from upd_same)
      split at s1
      · rename_i ds ed
        exact s1 _ _ _ le hr' (.d (.lst hp (DpAll.sub le.f _ _ (r1.pure ed))))
      · exact s1.elim
    · exact s1.elim⟩
/-- [a, b, ..], that may change -/
def mLstR (ms : MA) : M := fun ρ h => (ms ρ h).bind fun ws h1 => if ws.length ≤ sizeLine then (match allD ws with
  | some ds => .ok (.ref h1.length) (h1 ++ [.lst ds])
  | none => .stuck) else .stuck
theorem je_lstR (ha : JA X Wx es ms) : JE X Wx (.List es pos) (mLstR ms) :=
  peI (pe_lst ha) fun σ H Q ⟨L, ρ, h, hr, er, s⟩ => ⟨L, ρ, h, hr, er, s.bind fun vs H1 L1 ws h1 le1 hr1 r1 s1 => by
    split at s1
    · rename_i hz
      refine ⟨by rw [r1.length]; exact hz, fun p np => ?_⟩
      split at s1
      · rename_i ds ed
        obtain ⟨le, hr'⟩ := hr1.new (u := .lst vs) (o := .lst ds) np (.lst upd_same (r1.pure ed))
        refine s1 _ _ _ le hr' (.ref ?_)
        show (L1.mu ++ [p])[h1.length]? = some p
        rw [← hr1.len]
        simp
      · exact s1.elim
    · exact s1.elim⟩
end

/-! ### calls of built-in functions and types on values that are read -/
def rds : List W → MH → Option (List D)
  | [], _ => some []
  | w :: ws, h => match rd w h, rds ws h with
    | some d, some ds => some (d :: ds)
    | _, _ => none
abbrev DRels (K : PySem.W.Frag) (L : Ly) (H : Hp) : List V → List D → Prop := Paired (DRel K L H)
theorem rds_rel {K : PySem.W.Frag} {mg : Str → Option Value} {L : Ly} {H : Hp} {h : MH} (hr : HRel K mg L H h) : ∀ {ws : List W} {vs : List V} {ds : List D}, WRels K L vs ws → rds ws h = some ds → DRels K L H vs ds
  | [], _, _, r, e => by cases r; cases e; exact .nil
  | w :: ws, _, _, r, e => by
    cases r with
    | cons r1 r2 =>
      unfold rds at e
      split at e
      · rename_i d ds e1 e2
        cases e
        exact .cons (rd_rel hr r1 e1) (rds_rel hr r2 e2)
      · cases e
def rPn (K : PySem.W.Frag) (mg : Str → Option Value) (f : List D → Option D) : List V → Hp → VK → Prop := fun vs H Q => ∃ L h ds c, HRel K mg L H h ∧ DRels K L H vs ds ∧ f ds = some c ∧ PSat K mg L h c Q
abbrev CalR (X : Cx) (f : Value) (g : List D → Option D) : Prop := CallR X f (rPn X.K X.mg g)
def opn (f : List D → Option D) : List W → MH → Res W := fun ws h => match rds ws h with
  | some ds => (match f ds with
    | some c => .ok (.d c) h
    | none => .stuck)
  | none => .stuck
def mCal (f : List D → Option D) (ms : MA) : M := fun ρ h => (ms ρ h).bind fun ws h1 => opn f ws h1
theorem opn_sat {K : PySem.W.Frag} {mg : Str → Option Value} {f : List D → Option D} {L : Ly} {H : Hp} {h : MH} {vs : List V} {ws : List W} {Q : VK} {E : XK} (hr : HRel K mg L H h) (r : WRels K L vs ws) (s : Sat K mg (WRel K) L (opn f ws h) Q E) :
    rPn K mg f vs H Q := by
  unfold opn at s
  split at s
  · rename_i ds ed
    split at s
    · rename_i c ec
      exact ⟨L, h, ds, c, hr, rds_rel hr r ed, ec, fun v' H' L' le' hr' rc => s v' H' L' le' hr' (.d rc)⟩
    · exact s.elim
  · exact s.elim
section
variable {X : Cx} {Wx : WX} {x : Str} {p pos : Pos} {e : Expr} {es : List Expr} {ms : MA} {f : List D → Option D} {id T : String}
theorem cal_read {K : PySem.W.Frag} {mg : Str → Option Value} {σ : L2.St} {H : Hp} {Q : VK} (t : tM K mg Wx (mCal f ms) σ H Q) : tCB (rPn K mg f) (tMA K mg Wx ms) σ H Q := by
  obtain ⟨L, ρ, h, hr, er, s⟩ := t
  exact ⟨L, ρ, h, hr, er, s.bind fun vs H1 L1 ws h1 le1 hr1 r1 s1 => opn_sat hr1 r1 s1⟩
theorem je_callB (hc : CalR X (.builtin id) f) (hg : Gl X x) (hm : X.mg x = none) (hv : bootBuiltins x = some (.builtin id)) (ha : JA X Wx (e :: es) ms) (hn : x ≠ "__name__" := by decide) (hdb : (x == ("__debug__" : Str)) = false := by decide)
    (he : starEach (e :: es) X.env = (false, eval e X.env) :: starEach es X.env := by rfl) (hpl : (backTo pos (starEach es X.env)).any (·.1) = false := by rfl) : JE X Wx (.Call (.Name x p) (e :: es) [] pos) (mCal f ms) :=
  peI (pe_callB hc hg hm hv ha hn hdb he hpl) fun _ _ _ t => cal_read t
theorem je_callT (hc : CalR X (.type T) f) (hg : Gl X x) (hm : X.mg x = none) (hv : bootBuiltins x = some (.type T)) (ha : JA X Wx (e :: es) ms) (hn : x ≠ "__name__" := by decide) (hdb : (x == ("__debug__" : Str)) = false := by decide)
    (he : starEach (e :: es) X.env = (false, eval e X.env) :: starEach es X.env := by rfl) (hpl : (backTo pos (starEach es X.env)).any (·.1) = false := by rfl) : JE X Wx (.Call (.Name x p) (e :: es) [] pos) (mCal f ms) :=
  peI (pe_callTy hc hg hm hv ha hn hdb he hpl) fun _ _ _ t => cal_read t
end
end Dw
/-! Dw: statements, targets, loops, comprehensions -/
namespace Dw
variable [LamTab]
open PySem PySem.Spec PyProof.Rows L2

/-! ### targets -/
/-- only the slots vs are other ones -/
def Agree (vs : List Nat) (σ σ' : L2.St) : Prop := σ'.length = σ.length ∧ ∀ j, j ∉ vs → σ'[j]? = σ[j]?
abbrev GF := W → ME → Option ME
abbrev GFs := List W → ME → Option ME
def tG (K : PySem.W.Frag) (mg : Str → Option Value) (vs : List Nat) (g : GF) : TG := fun v σ H Q => ∃ L ρ h w, HRel K mg L H h ∧ ERel K L σ ρ ∧ WRel K L v w ∧ ∃ ρ', g w ρ = some ρ' ∧ ∀ σ', ERel K L σ' ρ' → Agree vs σ σ' → Q σ' H
def tGs (K : PySem.W.Frag) (mg : Str → Option Value) (vs : List Nat) (g : GFs) : TGs := fun us σ H Q => ∃ L ρ h ws, HRel K mg L H h ∧ ERel K L σ ρ ∧ WRels K L us ws ∧ ∃ ρ', g ws ρ = some ρ' ∧ ∀ σ', ERel K L σ' ρ' → Agree vs σ σ' → Q σ' H
abbrev JG (X : Cx) (vs : List Nat) (tg : Expr) (g : GF) : Prop := PG X tg (tG X.K X.mg vs g)
abbrev JGs (X : Cx) (vs : List Nat) (tgs : List Expr) (g : GFs) : Prop := PGs X tgs (tGs X.K X.mg vs g)
theorem pgI {X : Cx} {tg : Expr} {t t' : TG} (h : PG X tg t) (i : ∀ v σ H Q, t' v σ H Q → t v σ H Q) : PG X tg t' := ⟨fun pins s σ H v u Q I r q => h.run pins s σ H v u Q I r (i v σ H Q q)⟩
theorem pgsI {X : Cx} {tgs : List Expr} {t t' : TGs} (h : PGs X tgs t) (i : ∀ v σ H Q, t' v σ H Q → t v σ H Q) : PGs X tgs t' := ⟨fun pins s σ H v u Q I r q => h.run pins s σ H v u Q I r (i v σ H Q q)⟩
def gNm (i : Nat) : GF := fun w ρ => some (ρ.set i (some w))
def gsNil : GFs := fun ws ρ => match ws with
  | [] => some ρ
  | _ => none
def gsCons (g : GF) (gs : GFs) : GFs := fun ws ρ => match ws with
  | [] => none
  | w :: r => (g w ρ).bind fun ρ1 => gs r ρ1
def gTp (n : Nat) (gs : GFs) : GF := fun w ρ => match w with
  | .d (.tuple ds) => if ds.length = n then gs (ds.map .d) ρ else none
  | .tup ws => if ws.length = n then gs ws ρ else none
  | _ => none
section
variable {X : Cx} {pos : Pos} {vs : List Nat}
theorem jg_name (i : Nat) {x : Str} (hN : X.N.Nodup) (hi : X.N[i]? = some x := by rfl) (hx : Loc X.env.scope x := by first | exact Or.inl rfl | exact Or.inr rfl) (hv : i ∈ vs := by decide)
    (hf : X.fn x = true ∨ X.env.scope.names.lookup x = some .local := by first | exact .inl rfl | exact .inr rfl | assumption) : JG X vs (.Name x pos) (gNm i) :=
  pgI (pg_name hN hi hx hf) fun v σ H Q ⟨L, ρ, h, w, hr, er, rw', ρ', e, k⟩ => by
    cases e
    refine k _ (er.set i rw') ⟨by rw [List.length_set], fun j hj => ?_⟩
    rw [List.getElem?_set_ne]
    intro z
    exact hj (z ▸ hv)
theorem jgs_nil : JGs X vs [] gsNil := pgsI pgs_nil fun v σ H Q ⟨L, ρ, h, w, hr, er, rw', ρ', e, k⟩ => by
  cases rw' with
  | nil => cases e; exact ⟨rfl, k _ er ⟨rfl, fun _ _ => rfl⟩⟩
  | cons _ _ => cases e
theorem jgs_cons {e : Expr} {es : List Expr} {g : GF} {gs : GFs} (h1 : JG X vs e g) (h2 : JGs X vs es gs)
    (hs : (assignEach (e :: es) X.env).map (·.2) = assign e X.env :: (assignEach es X.env).map (·.2) := by rfl) : JGs X vs (e :: es) (gsCons g gs) :=
  pgsI (pgs_cons h1 h2 hs) fun v σ H Q ⟨L, ρ, h, w, hr, er, rw', ρ', e, k⟩ => by
    cases rw' with
    | nil => cases e
    | cons r1 r2 =>
      unfold gsCons at e
      simp only [Option.bind_eq_some_iff] at e
      obtain ⟨ρ1, e1, e2⟩ := e
      refine ⟨_, _, rfl, L, ρ, h, _, hr, er, r1, ρ1, e1, fun σ1 er1 a1 => ?_⟩
      exact ⟨L, ρ1, h, _, hr, er1, r2, ρ', e2, fun σ2 er2 a2 => k σ2 er2 ⟨a2.1.trans a1.1, fun j hj => (a2.2 j hj).trans (a1.2 j hj)⟩⟩
theorem wrels_d {K : PySem.W.Frag} {L : Ly} : ∀ {ds : List D} {us : List V}, DpAll K L.F us ds → WRels K L us (ds.map .d)
  | [], _, h => by cases h; exact .nil
  | d :: ds, _, h => by
    cases h with
    | cons h1 h2 => exact .cons (.d h1) (wrels_d h2)
theorem jg_tup {es : List Expr} {k : Nat} {gs : GFs} {n : Nat} (hc : X.calm = true) (h : JGs X vs es gs)
    (hn : (assignEach es X.env).length = n := by rfl) (hst : (assignEach es X.env).findIdx? (·.1) = none := by rfl) : JG X vs (.Tuple es k pos) (gTp n gs) :=
  pgI (pg_tup hc h hn hst) fun v σ H Q ⟨L, ρ, h, w, hr, er, rw', ρ', e, k⟩ => by
    cases rw' with
    | ref _ => cases e
    | clo _ _ _ _ _ => cases e
    | d r =>
      cases r with
      | @tup _ _ ds h1 h2 =>
        have e : (if ds.length = n then gs (ds.map .d) ρ else none) = some ρ' := e
        split at e
        · rename_i hz
          refine ⟨_, _, rfl, SqT.sub hr.sub h1, by rw [DpAll.length h2]; exact hz, L, ρ, h, _, hr, er, wrels_d h2, ρ', e, k⟩
        · cases e
      | _ => cases e
    | @tup _ _ ws h1 h2 =>
      have e : (if ws.length = n then gs ws ρ else none) = some ρ' := e
      split at e
      · rename_i hz
        refine ⟨_, _, rfl, hr.sqt h1, by rw [WRels.length h2]; exact hz, L, ρ, h, _, hr, er, h2, ρ', e, k⟩
      · cases e
end

/-! ### statements -/
def mSkip : MS := fun ρ h => .nx ρ h
def mSeq (a b : MS) : MS := fun ρ h => match a ρ h with
  | .nx ρ1 h1 => b ρ1 h1
  | r => r
def mBrk : MS := fun ρ h => .bk ρ h
def mCnt : MS := fun ρ h => .ct ρ h
def mExpr (m : M) : MS := fun ρ h => (m ρ h).toS ρ fun _ h1 => .nx ρ h1
def mRet (m : M) : MS := fun ρ h => (m ρ h).toS ρ fun w h1 => .rt w h1
def mRetN : MS := fun ρ h => .rt (.d .none) h
def mIfS (t : MT) (a b : MS) : MS := fun ρ h => (t ρ h).toS ρ fun c h1 => if c = true then a ρ h1 else b ρ h1
def mAsg (g : GF) (m : M) : MS := fun ρ h => (m ρ h).toS ρ fun w h1 => match g w ρ with
  | some ρ' => .nx ρ' h1
  | none => .stuck
section
variable {X : Cx} {Wx : WX} {st : Stmt} {sts rest : List Stmt} {pos : Pos} {e : Expr} {a b : MS} {m : M} {t : MT}
theorem jss_nil : JSs X Wx [] mSkip := pssI pss_nil fun D σ H ⟨L, ρ, h, hr, er, s⟩ => s σ H L (Ly.le.refl _) hr er
theorem jss_cons (h1 : JS X Wx st a) (h2 : JSs X Wx rest b) : JSs X Wx (st :: rest) (mSeq a b) :=
  pssI (pss_cons h1 h2) fun D σ H ⟨L, ρ, h, hr, er, s⟩ => ⟨L, ρ, h, hr, er, by
    unfold mSeq at s
    cases q : a ρ h with
    | nx ρ1 h1 =>
      rw [q] at s
      exact fun σ1 H1 L1 le1 hr1 er1 => ⟨L1, ρ1, h1, hr1, er1, SatS.mono le1 s⟩
    | rt w h1 => rw [q] at s; exact s
    | bk r h1 => rw [q] at s; exact s
    | ct r h1 => rw [q] at s; exact s
    | exc c r h1 => rw [q] at s; exact s
    | stuck => rw [q] at s; exact s⟩
theorem jss_one (h1 : JS X Wx st a) : JSs X Wx [st] a := pss_one h1
theorem js_pass : JS X Wx (.Pass pos) mSkip := psI ps_pass fun D σ H ⟨L, ρ, h, hr, er, s⟩ => s σ H L (Ly.le.refl _) hr er
theorem js_break : JS X Wx (.Break pos) mBrk := psI ps_break fun D σ H ⟨L, ρ, h, hr, er, s⟩ => s σ H L (Ly.le.refl _) hr er
theorem js_continue : JS X Wx (.Continue pos) mCnt := psI ps_continue fun D σ H ⟨L, ρ, h, hr, er, s⟩ => s σ H L (Ly.le.refl _) hr er
theorem js_expr (he : JE X Wx e m) (hs : swapsWith e none pos.line X.env = pure false := by rfl) : JS X Wx (.Expr e pos) (mExpr m) :=
  psI (ps_expr he hs) fun D σ H ⟨L, ρ, h, hr, er, s⟩ => ⟨L, ρ, h, hr, er, Sat.toS er s fun v H1 L1 x h1 le1 hr1 r1 s1 => s1 σ H1 L1 (Ly.le.refl _) hr1 (er.mono le1)⟩
theorem js_ret (he : JE X Wx e m) : JS X Wx (.Return (some e) pos) (mRet m) :=
  psI (ps_ret he) fun D σ H ⟨L, ρ, h, hr, er, s⟩ => ⟨L, ρ, h, hr, er, Sat.toS er s fun v H1 L1 x h1 le1 hr1 r1 s1 => s1 v H1 L1 (Ly.le.refl _) hr1 r1⟩
theorem js_retN : JS X Wx (.Return none pos) mRetN := psI ps_retN fun D σ H ⟨L, ρ, h, hr, er, s⟩ => s .non H L (Ly.le.refl _) hr (.d .non)
theorem js_if {c : Expr} {a' b' : List Stmt} (hc : JT X Wx c t) (ha : JSs X Wx a' a) (hb : JSs X Wx b' b) : JS X Wx (.If c a' b' pos) (mIfS t a b) :=
  psI (ps_if hc ha hb) fun D σ H ⟨L, ρ, h, hr, er, s⟩ => ⟨L, ρ, h, hr, er, Sat.toS er s fun v H1 L1 x h1 le1 hr1 r1 s1 => by
    cases (show v = x from r1)
    cases v with
    | true => exact ⟨L1, ρ, h1, hr1, er.mono le1, s1⟩
    | false => exact ⟨L1, ρ, h1, hr1, er.mono le1, s1⟩⟩
theorem js_asg {tg : Expr} {g : GF} {vs : List Nat} (he : JE X Wx e m) (hg : JG X vs tg g) (hs : swapsWithSole [tg] e pos.line X.env = pure false := by rfl) (hw : swappedStores [tg] e X.env = pure none := by rfl)
    (h1 : (assignEach [tg] X.env).map (·.2) = [assign tg X.env] := by rfl) : JS X Wx (.Assign [tg] e pos) (mAsg g m) :=
  psI (ps_asg he hg hs hw h1) fun D σ H ⟨L, ρ, h, hr, er, s⟩ => ⟨L, ρ, h, hr, er, Sat.toS er s fun v H1 L1 x h1 le1 hr1 r1 s1 => by
    split at s1
    · rename_i ρ' e
      exact ⟨L1, ρ, h1, x, hr1, er.mono le1, r1, ρ', e, fun σ' er' _ => s1 σ' H1 L1 (Ly.le.refl _) hr1 er'⟩
    · exact s1.elim⟩
/-- a statement that is never reached -/
def mNever : MS := fun _ _ => .stuck
theorem js_never : JS X Wx st mNever := psI ps_never fun D σ H ⟨L, ρ, h, hr, er, s⟩ => s.elim
end

/-! ### what is walked -/
structure Itm where
  ws : List W
  keep : MH → Prop
def IRel (K : PySem.W.Frag) (mg : Str → Option Value) (L0 : Ly) (J : It) (t : Itm) : Prop := ∀ L H h, (∀ a o, L0.F a = some o → L.F a = some o) → L0.mu <+: L.mu → HRel K mg L H h → t.keep h → ∀ i,
  (∀ w, t.ws[i]? = some w → J.go i H ∧ ∀ x H', J.yld i H x H' → ∃ L', L.le L' ∧ HRel K mg L' H' h ∧ WRel K L' x w) ∧ (t.ws.length ≤ i → J.stop i H)
abbrev MI := ME → MH → Res Itm
def tI (K : PySem.W.Frag) (mg : Str → Option Value) (Wx : WX) (m : MI) : TI := fun σ H R => ∃ L ρ h, HRel K mg L H h ∧ ERel K L σ ρ ∧ Sat K mg (IRel K mg) L (m ρ h) R (fun c d H' => Wx c d σ H')
abbrev JI (X : Cx) (Wx : WX) (tg e : Expr) (m : MI) : Prop := PI X tg e (tI X.K X.mg Wx m)
theorem piI {X : Cx} {tg e : Expr} {t t' : TI} (h : PI X tg e t) (i : ∀ σ H R, t' σ H R → t σ H R) : PI X tg e t' := ⟨fun pins s σ H R I q => h.run pins s σ H R I (i σ H R q)⟩
def anyH : MH → Prop := fun _ => True
/-- the items of a list -/
def mItL (m : M) : MI := fun ρ h => (m ρ h).bind fun w h1 => match w with
  | .d (.list ds) => .ok ⟨ds.map .d, anyH⟩ h1
  | .ref i => (match h1[i]? with
    | some (.lst ds) => .ok ⟨ds.map .d, fun h => h[i]? = some (.lst ds)⟩ h1
    | _ => .stuck)
  | _ => .stuck
/-- the items of a tuple -/
def mItT (m : M) : MI := fun ρ h => (m ρ h).bind fun w h1 => match w with
  | .d (.tuple ds) => .ok ⟨ds.map .d, anyH⟩ h1
  | _ => .stuck
def mItS (m : M) : MI := fun ρ h => (m ρ h).bind fun w h1 => match w with
  | .d (.list ds) => .ok ⟨ds.map .d, anyH⟩ h1
  | .d (.tuple ds) => .ok ⟨ds.map .d, anyH⟩ h1
  | .ref i => (match h1[i]? with
    | some (.lst ds) => .ok ⟨ds.map .d, fun h => h[i]? = some (.lst ds)⟩ h1
    | _ => .stuck)
  | _ => .stuck
theorem SqL.inj {K : PySem.W.Frag} {mg : Str → Option Value} : True := trivial
section
variable {X : Cx} {Wx : WX} {tg e : Expr} {pos : Pos} {m : M}
theorem irel_list {K : PySem.W.Frag} {mg : Str → Option Value} {L : Ly} {a : Addr} {vs : List V} {ds : List D} (h1 : SqL K L.F a vs) (h2 : DpAll K L.F vs ds) : IRel K mg L (Itl K a) ⟨ds.map .d, anyH⟩ := by
  intro L1 H h lf lm hr _ i
  have q := SqL.sub hr.sub (SqL.sub lf h1)
  have hl := DpAll.length h2
  refine ⟨fun w ew => ?_, fun hi => ⟨vs, q, by rw [List.length_map] at hi; rw [hl]; exact hi⟩⟩
  rw [List.getElem?_map] at ew
  simp only [Option.map_eq_some_iff] at ew
  obtain ⟨d, ed, rfl⟩ := ew
  obtain ⟨v, ev, rv⟩ := DpAll.at h2 ed
  refine ⟨⟨vs, v, q, ev⟩, fun x H' ⟨e1, e2⟩ => ?_⟩
  subst e1
  have := e2 vs q
  rw [ev] at this
  cases this
  exact ⟨L1, Ly.le.refl _, hr, .d (Dp.sub lf _ _ rv)⟩
theorem irel_live {K : PySem.W.Frag} {mg : Str → Option Value} {L : Ly} {a : Addr} {j : Nat} {ds : List D} (h1 : L.mu[j]? = some a) : IRel K mg L (Itl K a) ⟨ds.map .d, fun h => h[j]? = some (.lst ds)⟩ := by
  intro L1 H h lf lm hr hk i
  have hm : L1.mu[j]? = some a := by
    obtain ⟨t, ht⟩ := lm
    rw [← ht, List.getElem?_append_left (List.getElem?_eq_some_iff.mp h1).1]
    exact h1
  have ob := hr.obj j a _ hm hk
  cases ob with
  | lst o1 o2 =>
    rename_i vs
    have q : SqL K H a vs := SqL.of o1
    have hl := DpAll.length o2
    refine ⟨fun w ew => ?_, fun hi => ⟨vs, q, by rw [List.length_map] at hi; rw [hl]; exact hi⟩⟩
    rw [List.getElem?_map] at ew
    simp only [Option.map_eq_some_iff] at ew
    obtain ⟨d, ed, rfl⟩ := ew
    obtain ⟨v, ev, rv⟩ := DpAll.at o2 ed
    refine ⟨⟨vs, v, q, ev⟩, fun x H' ⟨e1, e2⟩ => ?_⟩
    subst e1
    have := e2 vs q
    rw [ev] at this
    cases this
    exact ⟨L1, Ly.le.refl _, hr, .d rv⟩
theorem irel_tup {K : PySem.W.Frag} {mg : Str → Option Value} {L : Ly} {a : Addr} {vs : List V} {ds : List D} (h1 : SqT K L.F a vs) (h2 : DpAll K L.F vs ds) : IRel K mg L (Itt K a) ⟨ds.map .d, anyH⟩ := by
  intro L1 H h lf lm hr _ i
  have q := SqT.sub hr.sub (SqT.sub lf h1)
  have hl := DpAll.length h2
  refine ⟨fun w ew => ?_, fun hi => ⟨vs, q, by rw [List.length_map] at hi; rw [hl]; exact hi⟩⟩
  rw [List.getElem?_map] at ew
  simp only [Option.map_eq_some_iff] at ew
  obtain ⟨d, ed, rfl⟩ := ew
  obtain ⟨v, ev, rv⟩ := DpAll.at h2 ed
  refine ⟨⟨vs, v, q, ev⟩, fun x H' ⟨e1, e2⟩ => ?_⟩
  subst e1
  have := e2 vs q
  rw [ev] at this
  cases this
  exact ⟨L1, Ly.le.refl _, hr, .d (Dp.sub lf _ _ rv)⟩
/-- two ways to walk, the state tells which -/
theorem PI.or {X : Cx} {tg e : Expr} {t t' : TI} (h : PI X tg e t) (h' : PI X tg e t') : PI X tg e (fun σ H R => t σ H R ∨ t' σ H R) :=
  ⟨fun pins s σ H R I q => q.elim (h.run pins s σ H R I) (h'.run pins s σ H R I)⟩
theorem tI_seq {K : PySem.W.Frag} {mg : Str → Option Value} {σ : L2.St} {H : Hp} {R : It → Hp → Prop} (t : tI K mg Wx (mItS m) σ H R) : iList K (tM K mg Wx m) σ H R ∨ iTup K (tM K mg Wx m) σ H R := by
  obtain ⟨L, ρ, h, hr, er, s⟩ := t
  unfold mItS at s
  have go : ∀ {Q : V → Hp → Prop} , (∀ v H1 L1 x h1, m ρ h = .ok x h1 → L.le L1 → HRel K mg L1 H1 h1 → WRel K L1 v x → Q v H1) → (∀ c h1, m ρ h = .exc c h1 → Sat K mg (IRel K mg) L (.exc c h1) R (fun c d H' => Wx c d σ H')) → m ρ h ≠ .stuck → tM K mg Wx m σ H Q := fun {Q} f g z => ⟨L, ρ, h, hr, er, by
    cases q : m ρ h with
    | ok x h1 => exact fun v H1 L1 le hr' r => f v H1 L1 x h1 q le hr' r
    | exc c h1 => exact g c h1 q
    | stuck => exact z q⟩
  cases q : m ρ h with
  | exc c h1 =>
    rw [q] at s
    exact .inl (go (fun v H1 L1 x h1 e => by rw [q] at e; cases e) (fun c' h' e => by rw [q] at e; cases e; exact s) (by rw [q]; intro z; cases z))
  | stuck => rw [q] at s; exact s.elim
  | ok x h1 =>
    rw [q] at s
    cases x with
    | tup _ => exact (show False from s).elim
    | clo _ _ => exact (show False from s).elim
    | ref j =>
      have s : Sat K mg (IRel K mg) L (match h1[j]? with | some (.lst ds) => .ok (Itm.mk (ds.map .d) (fun h => h[j]? = some (.lst ds))) h1 | _ => .stuck) R (fun c d H' => Wx c d σ H') := s
      split at s
      · rename_i ds eo
        refine .inl (go (fun v H1 L1 x h1' e le hr1 r => ?_) (fun c' h' e => by rw [q] at e; cases e) (by rw [q]; intro z; cases z))
        rw [q] at e
        cases e
        cases r with
        | ref r =>
          have ob := hr1.obj j _ _ r eo
          cases ob with
          | lst o1 o2 => exact ⟨_, rfl, ⟨_, SqL.of o1⟩, s _ _ _ le hr1 (irel_live r)⟩
      · exact s.elim
    | d x =>
      cases x with
      | list ds =>
        refine .inl (go (fun v H1 L1 x h1' e le hr1 r => ?_) (fun c' h' e => by rw [q] at e; cases e) (by rw [q]; intro z; cases z))
        rw [q] at e
        cases e
        cases r with
        | d r =>
          cases r with
          | lst o1 o2 => exact ⟨_, rfl, ⟨_, SqL.sub hr1.sub o1⟩, s _ _ _ le hr1 (irel_list o1 o2)⟩
      | tuple ds =>
        refine .inr (go (fun v H1 L1 x h1' e le hr1 r => ?_) (fun c' h' e => by rw [q] at e; cases e) (by rw [q]; intro z; cases z))
        rw [q] at e
        cases e
        cases r with
        | d r =>
          cases r with
          | tup o1 o2 => exact ⟨_, rfl, ⟨_, SqT.sub hr1.sub o1⟩, s _ _ _ le hr1 (irel_tup o1 o2)⟩
      | _ => exact (show False from s).elim
theorem ji_seq (he : JE X Wx e m) : JI X Wx tg e (mItS m) := piI (PI.or (pi_list he) (pi_tup he)) fun _ _ _ t => tI_seq t
/-- range(n), range(a, b) -/
def rngW (lo : Int) (n : Nat) : Itm := ⟨(List.range n).map fun (i : Nat) => .d (.int (lo + (i : Int))), anyH⟩
def mItR1 (ms : MA) : MI := fun ρ h => (ms ρ h).bind fun ws h1 => match ws with
  | [.d (.int j)] => if -(2 ^ 62) ≤ j ∧ j < 2 ^ 62 then .ok (rngW 0 j.toNat) h1 else .stuck
  | _ => .stuck
def mItR2 (ms : MA) : MI := fun ρ h => (ms ρ h).bind fun ws h1 => match ws with
  | [.d (.int i), .d (.int j)] => if -(2 ^ 62) ≤ i ∧ i < 2 ^ 62 ∧ -(2 ^ 62) ≤ j ∧ j < 2 ^ 62 then .ok (rngW i (j - i).toNat) h1 else .stuck
  | _ => .stuck
theorem irel_rng {K : PySem.W.Frag} {mg : Str → Option Value} {L : Ly} (lo : Int) (n : Nat) : IRel K mg L (Itr lo n) (rngW lo n) := by
  intro L1 H h lf lm hr _ i
  refine ⟨fun w ew => ?_, fun hi => ?_⟩
  · have ew : ((List.range n).map fun (i : Nat) => (W.d (.int (lo + (i : Int)))))[i]? = some w := ew
    rw [List.getElem?_map] at ew
    simp only [Option.map_eq_some_iff] at ew
    obtain ⟨d, ed, rfl⟩ := ew
    have hi : i < n := by
      have := (List.getElem?_eq_some_iff.mp ed).1
      simpa using this
    have hd : d = i := by
      have := (List.getElem?_eq_some_iff.mp ed).2
      simpa using this.symm
    subst hd
    refine ⟨hi, fun x H' ⟨e1, e2⟩ => ?_⟩
    subst e1
    subst e2
    exact ⟨L1, Ly.le.refl _, hr, .d (.int _)⟩
  · show n ≤ i
    have hi : ((List.range n).map fun (i : Nat) => (W.d (.int (lo + (i : Int))))).length ≤ i := hi
    simpa using hi
theorem int_of {K : PySem.W.Frag} {L : Ly} {v : V} {c : Int} (r : WRel K L v (.d (.int c))) : v = .int c := by
  cases r with
  | d r => cases r; rfl
theorem ji_range1 {a : Expr} {ms : MA} {p : Pos} (hg : Gl X "range") (hm : X.mg "range" = none) (ha : JA X Wx [a] ms) (hs : starEach [a] X.env = [(false, eval a X.env)] := by rfl) : JI X Wx tg (.Call (.Name "range" p) [a] [] pos) (mItR1 ms) :=
  piI (pi_range1 hg hm ha hs) fun σ H R ⟨L, ρ, h, hr, er, s⟩ => ⟨L, ρ, h, hr, er, s.bind fun vs H1 L1 ws h1 le1 hr1 r1 s1 => by
    split at s1
    · rename_i j
      split at s1
      · rename_i hj
        cases r1 with
        | cons r1 r2 =>
          cases r2
          refine ⟨j, by rw [int_of r1], hj.1, hj.2, s1 _ _ _ (Ly.le.refl _) hr1 (irel_rng 0 _)⟩
      · exact s1.elim
    · exact s1.elim⟩
theorem ji_range2 {a b : Expr} {ms : MA} {p : Pos} (hg : Gl X "range") (hm : X.mg "range" = none) (ha : JA X Wx [a, b] ms) (hs : starEach [a, b] X.env = [(false, eval a X.env), (false, eval b X.env)] := by rfl) (hs2 : starEach [b] X.env = [(false, eval b X.env)] := by rfl) : JI X Wx tg (.Call (.Name "range" p) [a, b] [] pos) (mItR2 ms) :=
  piI (pi_range2 hg hm ha hs hs2) fun σ H R ⟨L, ρ, h, hr, er, s⟩ => ⟨L, ρ, h, hr, er, s.bind fun vs H1 L1 ws h1 le1 hr1 r1 s1 => by
    split at s1
    · rename_i i j
      split at s1
      · rename_i hj
        cases r1 with
        | cons r1 r2 =>
          cases r2 with
          | cons r2 r3 =>
            cases r3
            refine ⟨i, j, by rw [int_of r1, int_of r2], hj, s1 _ _ _ (Ly.le.refl _) hr1 (irel_rng i _)⟩
      · exact s1.elim
    · exact s1.elim⟩
end

/-! ### for -/
section
open Classical
noncomputable def mLoop (g : GF) (body : MS) (keep : MH → Prop) : List W → ME → MH → RS
  | [], ρ, h => if keep h then .nx ρ h else .stuck
  | w :: ws, ρ, h => if keep h then (match g w ρ with
    | none => .stuck
    | some ρ1 => match body ρ1 h with
      | .nx ρ2 h2 => mLoop g body keep ws ρ2 h2
      | .ct ρ2 h2 => mLoop g body keep ws ρ2 h2
      | .bk ρ2 h2 => .nx ρ2 h2
      | r => r) else .stuck
end
noncomputable def mFor (mi : MI) (g : GF) (body : MS) : MS := fun ρ h => (mi ρ h).toS ρ fun t h1 => mLoop g body t.keep t.ws ρ h1
theorem js_for {X : Cx} {Wx : WX} {tg iter : Expr} {body : List Stmt} {pos : Pos} {mi : MI} {g : GF} {vs : List Nat} {mb : MS} (hp : PassesOwn (model X.prog X.w) X.A X.env X.xe) (hc : X.calm = true) (hi : JI X Wx tg iter mi) (hg : JG X vs tg g) (hb : JSs X Wx body mb)
    (hs : ∀ x, foldedSetIterable iter X.env x = pure x := by intro _; rfl) : JS X Wx (.For tg iter body [] pos) (mFor mi g mb) := by
  refine psI (ps_for hp hc hi hg hb hs) fun D σ H ⟨L, ρ, h, hr, er, s⟩ => ⟨L, ρ, h, hr, er, Sat.toS er s fun J H1 L1 t h1 le1 hr1 r1 s1 => ?_⟩
  refine ⟨fun i m σ H => m = t.ws.length - i ∧ i ≤ t.ws.length ∧ ∃ L ρ h, L1.le L ∧ HRel X.K X.mg L H h ∧ ERel X.K L σ ρ ∧ SatS X.K X.mg Wx L (mLoop g mb t.keep (t.ws.drop i) ρ h) D, ⟨_, rfl, Nat.zero_le _, L1, ρ, h1, Ly.le.refl _, hr1, er.mono le1, s1⟩, ?_⟩
  rintro i m σ H ⟨rfl, hi, L, ρ, h, le, hr, er, s⟩
  by_cases hlt : i < t.ws.length
  · rw [List.drop_eq_getElem_cons hlt] at s
    unfold mLoop at s
    split at s
    · rename_i hk
      obtain ⟨i1, _⟩ := r1 L H h le.f le.m hr hk i
      obtain ⟨go, yl⟩ := i1 _ (List.getElem?_eq_getElem hlt)
      split at s
      · exact s.elim
      · rename_i ρ1 eg
        refine .inr ⟨go, fun σ' H' => ∃ L' ρ' h', L1.le L' ∧ HRel X.K X.mg L' H' h' ∧ ERel X.K L' σ' ρ' ∧ SatS X.K X.mg Wx L' (mLoop g mb t.keep (t.ws.drop (i + 1)) ρ' h') D, fun σ' H' ⟨L', ρ', h', a, b, c, d⟩ => ⟨_, by omega, rfl, hlt, L', ρ', h', a, b, c, d⟩, fun x H' y => ?_⟩
        obtain ⟨L2, le2, hr2, rx⟩ := yl x H' y
        refine ⟨L2, ρ, h, _, hr2, er.mono le2, rx, ρ1, eg, fun σ2 er2 _ => ⟨L2, ρ1, h, hr2, er2, ?_⟩⟩
        have s := SatS.mono le2 s
        cases q : mb ρ1 h with
        | nx ρ2 h2 =>
          rw [q] at s
          exact fun σ3 H3 L3 le3 hr3 er3 => ⟨L3, ρ2, h2, le.trans (le2.trans le3), hr3, er3, SatS.mono le3 s⟩
        | ct ρ2 h2 =>
          rw [q] at s
          exact fun σ3 H3 L3 le3 hr3 er3 => ⟨L3, ρ2, h2, le.trans (le2.trans le3), hr3, er3, SatS.mono le3 s⟩
        | bk ρ2 h2 => rw [q] at s; exact s
        | rt w h2 => rw [q] at s; exact s
        | exc c r h2 => rw [q] at s; exact s
        | stuck => rw [q] at s; exact s
    · exact s.elim
  · have e : i = t.ws.length := by omega
    subst e
    rw [List.drop_length] at s
    unfold mLoop at s
    split at s
    · rename_i hk
      exact .inl ⟨(r1 L H h le.f le.m hr hk t.ws.length).2 (Nat.le_refl _), s σ H L (Ly.le.refl _) hr er⟩
    · exact s.elim

/-! ### while -/
def whIter (t : MT) (body : MS) : Nat → ME → MH → Option RS
  | 0, _, _ => none
  | n + 1, ρ, h => match t ρ h with
    | .ok b h1 => if b = true then (match body ρ h1 with
      | .nx ρ2 h2 => whIter t body n ρ2 h2
      | .ct ρ2 h2 => whIter t body n ρ2 h2
      | .bk ρ2 h2 => some (.nx ρ2 h2)
      | r => some r) else some (.nx ρ h1)
    | .exc c h1 => some (.exc c ρ h1)
    | .stuck => some .stuck
theorem whIter_succ {t : MT} {body : MS} : ∀ {n : Nat} {ρ : ME} {h : MH} {r : RS}, whIter t body n ρ h = some r → whIter t body (n + 1) ρ h = some r
  | 0, _, _, _, e => by cases e
  | n + 1, ρ, h, r, e => by
    unfold whIter at e ⊢
    cases q : t ρ h with
    | ok b h1 =>
      rw [q] at e
      simp only at e ⊢
      cases b with
      | false => exact e
      | true =>
        simp only [if_true] at e ⊢
        cases q2 : body ρ h1 with
        | nx ρ2 h2 => rw [q2] at e; exact whIter_succ e
        | ct ρ2 h2 => rw [q2] at e; exact whIter_succ e
        | bk ρ2 h2 => rw [q2] at e; exact e
        | rt w h2 => rw [q2] at e; exact e
        | exc c r h2 => rw [q2] at e; exact e
        | stuck => rw [q2] at e; exact e
    | exc c h1 => rw [q] at e; exact e
    | stuck => rw [q] at e; exact e
theorem whIter_le {t : MT} {body : MS} {n m : Nat} {ρ : ME} {h : MH} {r : RS} (l : n ≤ m) (e : whIter t body n ρ h = some r) : whIter t body m ρ h = some r := by
  induction l with
  | refl => exact e
  | step _ ih => exact whIter_succ ih
section
open Classical
noncomputable def mWhile (t : MT) (body : MS) : MS := fun ρ h => if ex : ∃ r n, whIter t body n ρ h = some r then ex.choose else .stuck
theorem mWhile_eq {t : MT} {body : MS} {n : Nat} {ρ : ME} {h : MH} {r : RS} (e : whIter t body n ρ h = some r) : mWhile t body ρ h = r := by
  have ex : ∃ r n, whIter t body n ρ h = some r := ⟨r, n, e⟩
  unfold mWhile
  rw [dif_pos ex]
  obtain ⟨k, hk⟩ := ex.choose_spec
  have h1 := whIter_le (Nat.le_max_left n k) e
  have h2 := whIter_le (Nat.le_max_right n k) hk
  rw [h1] at h2
  exact (Option.some.inj h2).symm
theorem mWhile_ex {t : MT} {body : MS} {ρ : ME} {h : MH} : mWhile t body ρ h = .stuck ∨ ∃ n, whIter t body n ρ h = some (mWhile t body ρ h) := by
  by_cases ex : ∃ r n, whIter t body n ρ h = some r
  · refine .inr ?_
    have e : mWhile t body ρ h = ex.choose := by
      unfold mWhile
      rw [dif_pos ex]
    rw [e]
    exact ex.choose_spec
  · refine .inl ?_
    unfold mWhile
    rw [dif_neg ex]
end
theorem js_while {X : Cx} {Wx : WX} {c : Expr} {body : List Stmt} {pos : Pos} {t : MT} {mb : MS} (hp : PassesOwn (model X.prog X.w) X.A X.env X.xe) (hc : JT X Wx c t) (hb : JSs X Wx body mb) : JS X Wx (.While c body [] pos) (mWhile t mb) := by
  refine psI (ps_while hp hc hb) fun D σ H ⟨L, ρ, h, hr, er, s⟩ => ?_
  rcases mWhile_ex (t := t) (body := mb) (ρ := ρ) (h := h) with z | ⟨n, hn⟩
  · rw [z] at s
    exact s.elim
  refine ⟨fun m σ H => ∃ L ρ h r, HRel X.K X.mg L H h ∧ ERel X.K L σ ρ ∧ whIter t mb m ρ h = some r ∧ SatS X.K X.mg Wx L r D, ⟨n, L, ρ, h, _, hr, er, hn, s⟩, ?_⟩
  rintro m σ H ⟨L, ρ, h, r, hr, er, e, s⟩
  cases m with
  | zero => cases e
  | succ m =>
    unfold whIter at e
    refine ⟨L, ρ, h, hr, er, ?_⟩
    cases q : t ρ h with
    | exc c h1 =>
      rw [q] at e
      cases e
      exact fun cls dd H1 L1 ei le hr => s cls dd σ H1 L1 ei le hr (er.mono le)
    | stuck => rw [q] at e; cases e; exact s
    | ok b h1 =>
      rw [q] at e
      simp only at e
      intro v H1 L1 le1 hr1 r1
      cases (show v = b from r1)
      have s := SatS.mono le1 s
      cases b with
      | false =>
        simp only [Bool.false_eq_true, if_false] at e ⊢
        cases e
        exact s σ H1 L1 (Ly.le.refl _) hr1 (er.mono le1)
      | true =>
        simp only [if_true] at e ⊢
        refine ⟨fun σ' H' => ∃ L ρ h r, HRel X.K X.mg L H' h ∧ ERel X.K L σ' ρ ∧ whIter t mb m ρ h = some r ∧ SatS X.K X.mg Wx L r D, fun σ' H' q => ⟨m, by omega, q⟩, L1, ρ, h1, hr1, er.mono le1, ?_⟩
        cases q2 : mb ρ h1 with
        | nx ρ2 h2 => rw [q2] at e; exact fun σ3 H3 L3 le3 hr3 er3 => ⟨L3, ρ2, h2, _, hr3, er3, e, SatS.mono le3 s⟩
        | ct ρ2 h2 => rw [q2] at e; exact fun σ3 H3 L3 le3 hr3 er3 => ⟨L3, ρ2, h2, _, hr3, er3, e, SatS.mono le3 s⟩
        | bk ρ2 h2 => rw [q2] at e; cases e; exact s
        | rt w h2 => rw [q2] at e; cases e; exact s
        | exc c r h2 => rw [q2] at e; cases e; exact s
        | stuck => rw [q2] at e; cases e; exact s
end Dw
/-! Dw: enumerate, zip, comprehensions -/
namespace Dw
variable [LamTab]
open PySem PySem.Spec PyProof.Rows L2

/-! ### enumerate(a tuple) -/
set_option maxHeartbeats 1000000 in
theorem meets_enum1 {v : Value} {o : Obj} {H : Heap → Prop} (B : Begins v o H) :
    Meets (Builtin.«enumerate.__new__» ⟨[.type "enumerate", v], []⟩) (fun _ R s => H s.heap ∧
      R (.ok (.ret (.ref (s.heap.push o).objs.size))) { s with heap := (s.heap.push o).push { cls := .type "enumerate", data := .fields #[.none, .bool false, .ref s.heap.objs.size, rawInt 0, .none, .none] } }) :=
  .of_wp fun prog w A R s h => by
    obtain ⟨hp, g, d, tk, os⟩ := s; obtain ⟨h1, h⟩ := h
    have hsub := sub_enumerate
    have q1 : ∀ {A' : Around} {E : Value → Shared → Prop} {Q : Value → Shared → Prop}, Q (.ref hp.objs.size) ⟨hp.push o, g, d, tk, os⟩ → wpAny (model prog w) A' (pyIter v) Q E ⟨hp, g, d, tk, os⟩ :=
      fun q => B.iter prog w _ _ ⟨hp, g, d, tk, os⟩ _ h1 q
    wp_walk using q1
    refine wpAny_stack_any fun st => wpAny_pure ?_
    split
    · rename_i c _ _ _ _ _
      cases (c == Value.type "enumerate")
      · wp_walk using q1
        exact ⟨_, rfl, h⟩
      · wp_walk using q1
        exact ⟨_, rfl, h⟩
    · wp_walk using q1
      exact ⟨_, rfl, h⟩
theorem call_enum1 {prog : Program} {w : World} {A : Around} {E : Value → Shared → Prop} {s : Shared} {v : Value} {o : Obj} {H : Heap → Prop} {Q : Value → Shared → Prop} (B : Begins v o H) (h1 : H s.heap)
    (h : ∀ h', IsEnum h' (s.heap.objs.size + 1) s.heap.objs.size 0 .none → h'.get? s.heap.objs.size = some o → h'.objs.size = s.heap.objs.size + 2 →
      (∀ b o, s.heap.get? b = some o → h'.get? b = some o) → Q (.ref (s.heap.objs.size + 1)) { s with heap := h' }) :
    wpAny (model prog w) A (call (.type "enumerate") [v]) Q E s := by
  refine callType_new F.called_enumerate (by decide) (F.typeCall_enumerate_1 _) (F.newCall_enumerate_1 _) (fun obj => F.args_object_init_2 obj _) F.entry_enumerate_new
    (meets_enum1 B) ⟨h1, ?_⟩
  have hz : (s.heap.push o).objs.size = s.heap.objs.size + 1 := Heap.size_push ..
  show _ ∧ _
  rw [hz]
  have he : IsEnum ((s.heap.push o).push { cls := .type "enumerate", data := .fields #[.none, .bool false, .ref s.heap.objs.size, rawInt 0, .none, .none] }) (s.heap.objs.size + 1) s.heap.objs.size 0 .none := by
    have := Heap.get?_push_size (s.heap.push o) (o := { cls := .type "enumerate", data := .fields #[.none, .bool false, .ref s.heap.objs.size, rawInt 0, .none, .none] }) rfl
    rw [hz] at this; exact this
  refine ⟨⟨_, he, rfl⟩, h _ he (Heap.get?_push_of_some _ (Heap.get?_push_size _ B.free)) (by rw [Heap.size_push, hz]) fun b o x => Heap.get?_push_of_some _ (Heap.get?_push_of_some _ x)⟩
def IteT (K : PySem.W.Frag) (a : Addr) : It :=
  ⟨fun i H => ∃ (xs : List V) (x : V), SqT K H a xs ∧ xs[i]? = some x, fun i H v H' => ∃ T x, v = .ref T ∧ H T = none ∧ H' = upd H T (.tup [.int (i : Nat), x]) ∧ ∀ xs, SqT K H a xs → xs[i]? = some x, fun i H => ∃ xs : List V, SqT K H a xs ∧ xs.length ≤ i⟩
theorem turn_enumT {P : Program} {w : World} {K : PySem.W.Frag} {elts : List Expr} {kk : Nat} {tpos : Pos} (a e it : Addr) :
    Turn P w K (.Tuple elts kk tpos) (IteT K a) [e, it] e (fun i h => (∃ old, IsEnum h e it ((i : Nat) : Int) old) ∧ h.IsTupleIter it a i ∧ e ≠ it) where
  mem := by simp
  obj := fun i h st b hb => by
    obtain ⟨⟨old, he⟩, ⟨o, ho, hc, hd⟩, _⟩ := st
    have e' : b = e ∨ b = it := by simpa using hb
    rcases e' with z | z
    · rw [z]; exact ⟨_, he, fun v q => nomatch q⟩
    · rw [z]; exact ⟨o, ho, fun v q => by rw [hd] at q; cases q⟩
  keep := fun i h h' st k => let ⟨⟨old, he⟩, hi, hne⟩ := st; ⟨⟨old, k e (by simp) _ he⟩, hi.at fun o q => k it (by simp) o q, hne⟩
  item := by
    intro X hP hw hK hc i pins s σ H E I hf st hg
    subst hP hw hK
    obtain ⟨⟨old, he⟩, hit, hne⟩ := st
    obtain ⟨xs, x, hq, hx⟩ := hg
    obtain ⟨its, rv, p, hz⟩ := I.tuple hq
    obtain ⟨u, hu, ru⟩ := rv.get hx
    have hel : e < s.heap.objs.size := Heap.lt_size he
    have hil : it < s.heap.objs.size := by obtain ⟨_, q, _⟩ := hit; exact Heap.lt_size q
    have hae : a ≠ it := fun z => by
      obtain ⟨o1, q1, c1, _⟩ := hit
      obtain ⟨o2, q2, c2, _⟩ := id p
      rw [z, q1] at q2
      cases q2
      rw [c1] at c2
      exact absurd c2 (by decide)
    have hae2 : e ≠ a := fun z => by
      obtain ⟨o2, q2, c2, _⟩ := id p
      rw [← z, he] at q2
      cases q2
      have c2 : Value.type "enumerate" = Value.type "tuple" := c2
      exact absurd c2 (by decide)
    have D := Draws.tuple (prog := X.prog) (w := X.w) (A := X.A.in1) (I.ok.hd hc) it a hae its.toArray
    have hlt : i < its.toArray.size := by
      have := (List.getElem?_eq_some_iff.mp hu).1
      simpa using this
    refine wpAny_pyNext_enum_itemD D he ⟨hit, p⟩ hlt hne (by simp [hne, hae2]) fun x' h' tk hP ho hit' hT hsz hk => ?_
    have ex : x' = u := by
      have : its.toArray[i]? = some u := by simpa using hu
      rw [this] at hP
      exact (Option.some.inj hP).symm
    subst ex
    refine ⟨_, rfl, wpAny_letOwnedTupleGo_enum (s := { s with heap := h', toks := tk + 1 }) ho fun h'' he' sb => ?_⟩
    have hT2 : h''.get? s.heap.objs.size = some { cls := .type "tuple", data := .seq #[.int i tk, x'] } := (sb.2 _ (Nat.ne_of_gt hel)).trans hT
    have new : ObjOk X.prog X.w (upd H s.heap.objs.size (.tup [.int (i : Nat), x])) h'' s.heap.objs.size (.tup [.int (i : Nat), x]) :=
      ⟨by show 2 ≤ sizeLine; decide, [.int i tk, x'], .cons ⟨_, rfl⟩ (.cons ru .nil), ⟨_, hT2, rfl, _, rfl⟩⟩
    have I1 : Inv X pins σ (upd H s.heap.objs.size (.tup [.int (i : Nat), x])) { s with heap := h'', toks := tk + 1 } :=
      I.turnedNew (ch := [e, it]) (fun b ob hb q => (sb.2 b (fun z => hb (by simp [z]))).trans (hk b ob (fun z => hb (by simp [z])) (fun z => hb (by simp [z])) q)) hf (Nat.le_refl _) new
    refine ⟨.ref s.heap.objs.size, _, I1, rfl, ⟨_, x, rfl, I.hok.fresh (Nat.le_refl _), rfl, fun ys hy => by rw [I.tuple_inj hy hq]; exact hx⟩, ⟨⟨x', ?_⟩, hit'.1.at fun o q => (sb.2 it (Ne.symm hne)).trans q, hne⟩, fun b hb => ?_⟩
    · have e1 : ((i + 1 : Nat) : Int) = (i : Int) + 1 := by omega
      rw [e1]; exact he'
    · have hb' : b < s.heap.objs.size := by
        have e' : b = e ∨ b = it := by simpa using hb
        rcases e' with z | z
        · rw [z]; exact hel
        · rw [z]; exact hil
      rw [upd_ne (Nat.ne_of_lt hb')]
      exact (hf b hb).1
  done := by
    intro X hP hw hK hc i pins s σ H E I hf st hg
    subst hP hw hK
    obtain ⟨⟨old, he⟩, hit, hne⟩ := st
    obtain ⟨xs, hq, hx⟩ := hg
    obtain ⟨its, rv, p, hz⟩ := I.tuple hq
    obtain ⟨f0, f1, f2, f3, f4, f5⟩ := hf it (by simp)
    have hl := rv.length
    have hae : a ≠ it := fun z => by
      obtain ⟨o1, q1, c1, _⟩ := hit
      obtain ⟨o2, q2, c2, _⟩ := id p
      rw [z, q1] at q2
      cases q2
      rw [c1] at c2
      exact absurd c2 (by decide)
    have D : Draws X.prog X.w X.A.in1 it [it, a] 0 (fun _ _ => False) (fun _ h => h.IsTupleIter it a i ∧ h.IsTuple a its.toArray) :=
      { live := fun _ _ st => let ⟨o, ho, _⟩ := st.1; ⟨o, ho⟩
        frame := fun _ _ _ st hk => ⟨st.1.at fun o e => hk it (by simp) o e, st.2.at fun o e => hk a (by simp) o e⟩
        item := fun i s Q E hi => absurd hi (Nat.not_lt_zero _)
        done := fun s Q E st hE => wpAny_nextOf_tuple_end (I.ok.hd hc) st.1 st.2 (Array.getElem?_eq_none (by simp; omega)) hE }
    exact wpAny_pyNext_enum_endD D he ⟨hit, p⟩ fun h' eb => ⟨rfl, I.turned (t' := s.toks) (fun b o hb q => eb b o hb q) f0 f1 f3 f4 f5⟩
  self := fun A i s Q E st h => let ⟨⟨_, he⟩, _⟩ := st; wpAny_pyIter_enum he h
def iEnumT (K : PySem.W.Frag) (ta : TA) : TI := fun σ H R => ta σ H fun vs H1 => ∃ a xs, vs = [.ref a] ∧ ((SqL K H1 a xs ∧ R (Ite K a) H1) ∨ (SqT K H1 a xs ∧ R (IteT K a) H1))
theorem pi_enumA {X : Cx} {e : Expr} {ta : TA} {p pos tpos : Pos} {elts : List Expr} {kk : Nat} (hg : Gl X "enumerate") (hm : X.mg "enumerate" = none) (ha : PA X [e] ta) (hs : starEach [e] X.env = [(false, eval e X.env)] := by rfl) :
    PI X (.Tuple elts kk tpos) (.Call (.Name "enumerate" p) [e] [] pos) (iEnumT X.K ta) := by
  refine ⟨fun pins s σ H R I h => ?_⟩
  refine Call_ (ld_blt I hg hm boot_enumerate (PyProof.Rows.callWith_type1 (thn (ha.run pos pins s σ H _ I h) fun us s1 ⟨vs, H1, I1, r1, q1⟩ => ?_) hs rfl))
  obtain ⟨a, xs, ex, q⟩ := q1
  subst ex
  cases r1 with
  | cons r rr =>
    cases rr
    cases r
    have fp : ∀ b ∈ [s1.heap.objs.size + 1, s1.heap.objs.size], FpOk X pins H1 b := fun b hb => by
      have e' : b = s1.heap.objs.size + 1 ∨ b = s1.heap.objs.size := by simpa using hb
      have hle : s1.heap.objs.size ≤ b := by
        rcases e' with z | z
        · rw [z]; exact Nat.le_add_right _ _
        · rw [z]; exact Nat.le_refl _
      exact I1.fpOk hle (I1.hok.fresh hle)
    rcases q with ⟨hq, q⟩ | ⟨hq, q⟩
    · obtain ⟨its, rv, p', hz⟩ := I1.list hq
      refine call_enumerate_list p'.isList fun h' he hit hsz hk => wpAny_pyIter_enum he ?_
      have I2 : Inv X pins σ H1 { s1 with heap := h' } := I1.kept (t' := s1.toks) hk
      exact ⟨s1.heap.objs.size + 1, [s1.heap.objs.size + 1, s1.heap.objs.size], _, _, H1, rfl, I2, turn_enum a (s1.heap.objs.size + 1) s1.heap.objs.size, ⟨⟨.none, he⟩, hit, Nat.succ_ne_self _⟩, fp, q⟩
    · obtain ⟨its, rv, p', hz⟩ := I1.tuple hq
      refine call_enum1 (begins_tuple a its.toArray) p' fun h' he hit hsz hk => wpAny_pyIter_enum he ?_
      have I2 : Inv X pins σ H1 { s1 with heap := h' } := I1.kept (t' := s1.toks) hk
      exact ⟨s1.heap.objs.size + 1, [s1.heap.objs.size + 1, s1.heap.objs.size], _, _, H1, rfl, I2, turn_enumT a (s1.heap.objs.size + 1) s1.heap.objs.size, ⟨⟨.none, he⟩, ⟨_, hit, rfl, rfl⟩, Nat.succ_ne_self _⟩, fp, q⟩

/-! ### enumerate, zip -/
def enumW (ds : List D) : List W := (List.range ds.length).map fun (i : Nat) => .tup [.d (.int (i : Int)), .d (ds.getD i .none)]
/-- the items of what is read, and whether it is a tuple -/
def seqOf (w : W) (h : MH) : Option (List D × Bool) := match rd w h with
  | some (.list ds) => some (ds, false)
  | some (.tuple ds) => some (ds, true)
  | _ => none
/-- walked while nothing that may change is walked: a live list is not served -/
def seqP (w : W) : Option (List D × Bool) := match w with
  | .d (.list ds) => some (ds, false)
  | .d (.tuple ds) => some (ds, true)
  | _ => none
def mItE (ms : MA) : MI := fun ρ h => (ms ρ h).bind fun ws h1 => match ws with
  | [w] => (match seqP w with
    | some (ds, _) => .ok ⟨enumW ds, anyH⟩ h1
    | none => .stuck)
  | _ => .stuck
def zipW (ds es : List D) : List W := (ds.zip es).map fun p => .tup [.d p.1, .d p.2]
def mItZ (ms : MA) : MI := fun ρ h => (ms ρ h).bind fun ws h1 => match ws with
  | [w, u] => (match seqP w, seqP u with
    | some (ds, a), some (es, b) => if a = b then .ok ⟨zipW ds es, anyH⟩ h1 else .stuck
    | _, _ => .stuck)
  | _ => .stuck
theorem frz_pair {K : PySem.W.Frag} {mg : Str → Option Value} {L : Ly} {H : Hp} {h : MH} {x y : V} {d e : D} (hr : HRel K mg L H h) (rx : Dp K L.F x d) (ry : Dp K L.F y e) {T : Addr} (hT : H T = none) :
    ∃ L', L.le L' ∧ HRel K mg L' (upd H T (.tup [x, y])) h ∧ WRel K L' (.ref T) (.tup [.d d, .d e]) := by
  obtain ⟨le, hr'⟩ := hr.pairC (xs := [x, y]) hT
  exact ⟨_, le, hr', .tup (.inr (List.mem_cons_self ..)) (.cons (.d rx) (.cons (.d ry) .nil))⟩
theorem irel_enum {K : PySem.W.Frag} {mg : Str → Option Value} {L : Ly} {a : Addr} {vs : List V} {ds : List D} (t : Bool) (h1 : if t = true then SqT K L.F a vs else SqL K L.F a vs) (h2 : DpAll K L.F vs ds) :
    IRel K mg L (if t = true then IteT K a else Ite K a) ⟨enumW ds, anyH⟩ := by
  intro L1 H h lf lm hr _ i
  have hl := DpAll.length h2
  have item : ∀ w, (enumW ds)[i]? = some w → ∃ v d, vs[i]? = some v ∧ Dp K L.F v d ∧ w = .tup [.d (.int (i : Int)), .d d] := fun w ew => by
    unfold enumW at ew
    rw [List.getElem?_map] at ew
    simp only [Option.map_eq_some_iff] at ew
    obtain ⟨j, ej, rfl⟩ := ew
    have hi : i < ds.length := by
      have := (List.getElem?_eq_some_iff.mp ej).1
      simpa using this
    have hj : j = i := by
      have := (List.getElem?_eq_some_iff.mp ej).2
      simpa using this.symm
    subst hj
    obtain ⟨v, ev, rv⟩ := DpAll.at h2 (List.getElem?_eq_getElem hi)
    exact ⟨v, _, ev, rv, by rw [List.getD_eq_getElem?_getD, List.getElem?_eq_getElem hi] <;> rfl⟩
  have hlen : (enumW ds).length = ds.length := by unfold enumW; simp
  cases t with
  | true =>
    have q := SqT.sub hr.sub (SqT.sub lf (show SqT K L.F a vs from h1))
    refine ⟨fun w ew => ?_, fun hi => ⟨vs, q, by rw [hl]; have hi : (enumW ds).length ≤ i := hi; omega⟩⟩
    obtain ⟨v, d, ev, rv, rfl⟩ := item w ew
    refine ⟨⟨vs, v, q, ev⟩, fun x H' ⟨T, x', e1, e2, e3, e4⟩ => ?_⟩
    subst e1
    subst e3
    have := e4 vs q
    rw [ev] at this
    cases this
    exact frz_pair hr (.int _) (Dp.sub lf _ _ rv) e2
  | false =>
    have q := SqL.sub hr.sub (SqL.sub lf (show SqL K L.F a vs from h1))
    refine ⟨fun w ew => ?_, fun hi => ⟨vs, q, by rw [hl]; have hi : (enumW ds).length ≤ i := hi; omega⟩⟩
    obtain ⟨v, d, ev, rv, rfl⟩ := item w ew
    refine ⟨⟨vs, v, q, ev⟩, fun x H' ⟨T, x', e1, e2, e3, e4⟩ => ?_⟩
    subst e1
    subst e3
    have := e4 vs q
    rw [ev] at this
    cases this
    exact frz_pair hr (.int _) (Dp.sub lf _ _ rv) e2
theorem zipW_at {K : PySem.W.Frag} {F : Hp} {vs us : List V} {ds es : List D} {i : Nat} {w : W} (h1 : DpAll K F vs ds) (h2 : DpAll K F us es) (ew : (zipW ds es)[i]? = some w) :
    ∃ v u d e, vs[i]? = some v ∧ us[i]? = some u ∧ Dp K F v d ∧ Dp K F u e ∧ w = .tup [.d d, .d e] := by
  unfold zipW at ew
  rw [List.getElem?_map] at ew
  simp only [Option.map_eq_some_iff] at ew
  obtain ⟨p, ep, rfl⟩ := ew
  rw [List.getElem?_zip_eq_some] at ep
  obtain ⟨v, e1, r1⟩ := DpAll.at h1 ep.1
  obtain ⟨u, e2, r2⟩ := DpAll.at h2 ep.2
  exact ⟨v, u, _, _, e1, e2, r1, r2, rfl⟩
theorem zipW_len (ds es : List D) : (zipW ds es).length = min ds.length es.length := by unfold zipW; simp
theorem irel_zipL {K : PySem.W.Frag} {mg : Str → Option Value} {L : Ly} {a b : Addr} {vs us : List V} {ds es : List D} (a1 : SqL K L.F a vs) (a2 : SqL K L.F b us) (h1 : DpAll K L.F vs ds) (h2 : DpAll K L.F us es) :
    IRel K mg L (Itz K a b) ⟨zipW ds es, anyH⟩ := by
  intro L1 H h lf lm hr _ i
  have l1 := DpAll.length h1
  have l2 := DpAll.length h2
  have q1 := SqL.sub hr.sub (SqL.sub lf a1)
  have q2 := SqL.sub hr.sub (SqL.sub lf a2)
  refine ⟨fun w ew => ?_, fun hi => ⟨vs, us, q1, q2, by have hi : (zipW ds es).length ≤ i := hi; rw [zipW_len] at hi; omega⟩⟩
  obtain ⟨v, u, d, e, ev, eu, rv, ru, rfl⟩ := zipW_at h1 h2 ew
  refine ⟨⟨vs, us, v, u, q1, q2, ev, eu⟩, fun x H' ⟨T, x', y', e1, e2, e3, e4, e5⟩ => ?_⟩
  subst e1
  subst e3
  have z1 := e4 vs q1
  have z2 := e5 us q2
  rw [ev] at z1
  rw [eu] at z2
  cases z1
  cases z2
  exact frz_pair hr (Dp.sub lf _ _ rv) (Dp.sub lf _ _ ru) e2
theorem irel_zipT {K : PySem.W.Frag} {mg : Str → Option Value} {L : Ly} {a b : Addr} {vs us : List V} {ds es : List D} (a1 : SqT K L.F a vs) (a2 : SqT K L.F b us) (h1 : DpAll K L.F vs ds) (h2 : DpAll K L.F us es) :
    IRel K mg L (RZ.ItzT K a b) ⟨zipW ds es, anyH⟩ := by
  intro L1 H h lf lm hr _ i
  have l1 := DpAll.length h1
  have l2 := DpAll.length h2
  have q1 := SqT.sub hr.sub (SqT.sub lf a1)
  have q2 := SqT.sub hr.sub (SqT.sub lf a2)
  refine ⟨fun w ew => ?_, fun hi => ⟨vs, us, q1, q2, by have hi : (zipW ds es).length ≤ i := hi; rw [zipW_len] at hi; omega⟩⟩
  obtain ⟨v, u, d, e, ev, eu, rv, ru, rfl⟩ := zipW_at h1 h2 ew
  refine ⟨⟨vs, us, v, u, q1, q2, ev, eu⟩, fun x H' ⟨T, x', y', e1, e2, e3, e4, e5⟩ => ?_⟩
  subst e1
  subst e3
  have z1 := e4 vs q1
  have z2 := e5 us q2
  rw [ev] at z1
  rw [eu] at z2
  cases z1
  cases z2
  exact frz_pair hr (Dp.sub lf _ _ rv) (Dp.sub lf _ _ ru) e2
theorem seqP_rel {K : PySem.W.Frag} {L : Ly} {v : V} {w : W} {ds : List D} {t : Bool} (r : WRel K L v w) (e : seqP w = some (ds, t)) : ∃ a vs, v = .ref a ∧ (if t = true then SqT K L.F a vs else SqL K L.F a vs) ∧ DpAll K L.F vs ds := by
  unfold seqP at e
  split at e
  · cases e
    cases r with
    | d r =>
      cases r with
      | lst h1 h2 => exact ⟨_, _, rfl, h1, h2⟩
  · cases e
    cases r with
    | d r =>
      cases r with
      | tup h1 h2 => exact ⟨_, _, rfl, h1, h2⟩
  · cases e
section
variable {X : Cx} {Wx : WX} {e e2 : Expr} {pos tpos : Pos} {ms : MA} {p : Pos} {elts : List Expr} {kk : Nat}
theorem ji_enum (hg : Gl X "enumerate") (hm : X.mg "enumerate" = none) (ha : JA X Wx [e] ms) (hs : starEach [e] X.env = [(false, eval e X.env)] := by rfl) :
    JI X Wx (.Tuple elts kk tpos) (.Call (.Name "enumerate" p) [e] [] pos) (mItE ms) :=
  piI (pi_enumA hg hm ha hs) fun σ H R ⟨L, ρ, h, hr, er, s⟩ => ⟨L, ρ, h, hr, er, s.bind fun vs H1 L1 ws h1 le1 hr1 r1 s1 => by
    split at s1
    · split at s1
      · rename_i ds t es
        cases r1 with
        | cons r1 r2 =>
          cases r2
          obtain ⟨a, vs, rfl, q, hd⟩ := seqP_rel r1 es
          have z := s1 _ H1 L1 (Ly.le.refl _) hr1 (irel_enum t q hd)
          cases t with
          | true => exact ⟨a, vs, rfl, .inr ⟨SqT.sub hr1.sub q, z⟩⟩
          | false => exact ⟨a, vs, rfl, .inl ⟨SqL.sub hr1.sub q, z⟩⟩
      · exact s1.elim
    · exact s1.elim⟩
theorem ji_zip (hg : Gl X "zip") (hm : X.mg "zip" = none) (ha : JA X Wx [e, e2] ms)
    (hs : starEach [e, e2] X.env = (false, eval e X.env) :: starEach [e2] X.env := by rfl) (hpl : (backTo pos (starEach [e2] X.env)).any (·.1) = false := by rfl) :
    JI X Wx (.Tuple elts kk tpos) (.Call (.Name "zip" p) [e, e2] [] pos) (mItZ ms) :=
  piI (RZ.pi_zipA hg hm ha hs hpl) fun σ H R ⟨L, ρ, h, hr, er, s⟩ => ⟨L, ρ, h, hr, er, s.bind fun vs H1 L1 ws h1 le1 hr1 r1 s1 => by
    split at s1
    · split at s1
      · rename_i ds a es b e1 e2
        split at s1
        · rename_i hab
          subst hab
          cases r1 with
          | cons r1 r2 =>
            cases r2 with
            | cons r2 r3 =>
              cases r3
              obtain ⟨x, vs, rfl, q1, hd1⟩ := seqP_rel r1 e1
              obtain ⟨y, us, rfl, q2, hd2⟩ := seqP_rel r2 e2
              cases a with
              | true => exact ⟨x, y, vs, us, rfl, .inr ⟨SqT.sub hr1.sub q1, SqT.sub hr1.sub q2, s1 _ H1 L1 (Ly.le.refl _) hr1 (irel_zipT q1 q2 hd1 hd2)⟩⟩
              | false => exact ⟨x, y, vs, us, rfl, .inl ⟨SqL.sub hr1.sub q1, SqL.sub hr1.sub q2, s1 _ H1 L1 (Ly.le.refl _) hr1 (irel_zipL q1 q2 hd1 hd2)⟩⟩
        · exact s1.elim
      · exact s1.elim
    · exact s1.elim⟩
/-- the signs of a text -/
def signW (x : Str) : List W := x.cps.toList.map fun c => .d (.str ⟨#[c]⟩)
def mItC (m : M) : MI := fun ρ h => (m ρ h).bind fun w h1 => match w with
  | .d (.str x) => .ok ⟨signW x, anyH⟩ h1
  | _ => .stuck
theorem irel_str {K : PySem.W.Frag} {mg : Str → Option Value} {L : Ly} (x : Str) : IRel K mg L (Its x) ⟨signW x, anyH⟩ := by
  intro L1 H h lf lm hr _ i
  have hl : (signW x).length = x.cps.size := by unfold signW; simp
  refine ⟨fun w ew => ?_, fun hi => ?_⟩
  · have ew : (signW x)[i]? = some w := ew
    have hi : i < x.cps.size := by rw [← hl]; exact (List.getElem?_eq_some_iff.mp ew).1
    unfold signW at ew
    rw [List.getElem?_map] at ew
    simp only [Option.map_eq_some_iff] at ew
    obtain ⟨c, ec, rfl⟩ := ew
    refine ⟨hi, fun v H' ⟨e1, c', e2, e3⟩ => ?_⟩
    subst e1
    subst e3
    have : x.cps[i]? = some c := by simpa using ec
    rw [this] at e2
    cases e2
    exact ⟨L1, Ly.le.refl _, hr, .d (.str _)⟩
  · have hi : (signW x).length ≤ i := hi
    show x.cps.size ≤ i
    omega
theorem ji_str {tg : Expr} {m : M} (he : JE X Wx e m) : JI X Wx tg e (mItC m) :=
  piI (pi_str he) fun σ H R ⟨L, ρ, h, hr, er, s⟩ => ⟨L, ρ, h, hr, er, s.bind fun v H1 L1 w h1 le1 hr1 r1 s1 => by
    split at s1
    · rename_i x
      refine ⟨x, ?_, s1 _ H1 L1 (Ly.le.refl _) hr1 (irel_str x)⟩
      cases r1 with
      | d r => cases r; rfl
    · exact s1.elim⟩
end

/-! ### comprehensions -/
def wipeM (ρ : ME) : List Nat → ME
  | [] => ρ
  | v :: vs => (wipeM ρ vs).set v none
theorem ERel.setN {K : PySem.W.Frag} {L : Ly} {σ : L2.St} {ρ : ME} (r : ERel K L σ ρ) (i : Nat) : ERel K L (σ.set i none) (ρ.set i none) := by
  refine ⟨by rw [List.length_set, List.length_set]; exact r.len, fun j x e => ?_⟩
  by_cases hj : i = j
  · subst hj
    by_cases hl : i < ρ.length
    · rw [List.getElem?_set_self hl] at e
      cases e
    · rw [List.getElem?_eq_none (by rw [List.length_set]; omega)] at e
      cases e
  · rw [List.getElem?_set_ne hj] at e
    rw [List.getElem?_set_ne hj]
    exact r.v j x e
theorem ERel.wipe {K : PySem.W.Frag} {L : Ly} {σ : L2.St} {ρ : ME} (r : ERel K L σ ρ) : ∀ vs, ERel K L (L2.wipe σ vs) (wipeM ρ vs)
  | [] => r
  | v :: vs => (ERel.wipe r vs).setN v
theorem wipe_get (σ : L2.St) : ∀ (vs : List Nat) (j : Nat), (L2.wipe σ vs)[j]? = if j ∈ vs then (if j < σ.length then some none else none) else σ[j]?
  | [], j => by simp [L2.wipe]
  | v :: vs, j => by
    show ((L2.wipe σ vs).set v none)[j]? = _
    by_cases hj : v = j
    · subst hj
      rw [if_pos (List.mem_cons_self ..), List.getElem?_set_self', wipe_get σ vs v]
      by_cases hl : v < σ.length
      · rw [if_pos hl]
        split
        · rfl
        · rw [List.getElem?_eq_getElem hl]; rfl
      · rw [if_neg hl]
        split
        · rfl
        · rw [List.getElem?_eq_none (by omega)]; rfl
    · rw [List.getElem?_set_ne hj, wipe_get σ vs j]
      by_cases hm : j ∈ vs
      · rw [if_pos hm, if_pos (List.mem_cons_of_mem _ hm)]
      · rw [if_neg hm, if_neg (by simp only [List.mem_cons, not_or]; exact ⟨fun e => hj e.symm, hm⟩)]
theorem Agree.wipe {vs : List Nat} {σ σ' : L2.St} (a : Agree vs σ σ') : L2.wipe σ' vs = L2.wipe σ vs := by
  refine List.ext_getElem? fun j => ?_
  rw [wipe_get, wipe_get, a.1]
  by_cases hj : j ∈ vs
  · rw [if_pos hj, if_pos hj]
  · rw [if_neg hj, if_neg hj]
    exact a.2 j hj
theorem wipe_wipe (σ : L2.St) (vs : List Nat) : L2.wipe (L2.wipe σ vs) vs = L2.wipe σ vs := by
  refine List.ext_getElem? fun j => ?_
  rw [wipe_get, wipe_get σ vs j, L2.wipe_length]
  by_cases hj : j ∈ vs
  · rw [if_pos hj, if_pos hj]
  · rw [if_neg hj, if_neg hj]
section
open Classical
noncomputable def lcRun (g : GF) (t : MT) (elt : M) (keep : MH → Prop) (ρw : ME) : List W → List D → MH → Res (List D)
  | [], acc, h => if keep h then .ok acc h else .stuck
  | w :: ws, acc, h => if keep h then (match g w ρw with
    | none => .stuck
    | some ρ2 => match t ρ2 h with
      | .ok b h2 => if b = true then (match elt ρ2 h2 with
        | .ok (.d x) h3 => if acc.length < sizeLine then lcRun g t elt keep ρw ws (acc ++ [x]) h3 else .stuck
        | _ => .stuck) else lcRun g t elt keep ρw ws acc h2
      | _ => .stuck) else .stuck
end
noncomputable def mLc (mi : MI) (vs : List Nat) (g : GF) (t : MT) (elt : M) : M := fun ρ h => (mi ρ h).bind fun it h1 => (lcRun g t elt it.keep (wipeM ρ vs) it.ws [] h1).bind fun ds h2 => .ok (.d (.list ds)) h2
def mYes : MT := fun _ h => .ok true h
abbrev JTs (X : Cx) (Wx : WX) (ifs : List Expr) (m : MT) : Prop := PTs X ifs (tMT X.K X.mg Wx m)
abbrev W0 : WX := fun _ _ _ _ => False
theorem jts_nil {X : Cx} {Wx : WX} : JTs X Wx [] mYes := ⟨fun pins s σ H Q I ⟨L, ρ, h, hr, er, q⟩ => pts_nil.run pins s σ H Q I (q true H L (Ly.le.refl _) hr rfl)⟩
theorem jts_one {X : Cx} {Wx : WX} {c : Expr} {t : MT} (h : JT X Wx c t) : JTs X Wx [c] t := pts_one h

/-! #### things that wait -/
section
variable {K : PySem.W.Frag} {mg : Str → Option Value} {L : Ly} {H : Hp} {h : MH} {D : Addr} {o o' : HO} {P0 : List (Addr × HO)}
theorem HRel.pinPush (r : HRel K mg L H h) (np : H D = none) : HRel K mg { L with P := (D, o) :: L.P } (upd H D o) h := by
  have nm : D ∉ L.mu := fun z => by
    obtain ⟨u, e⟩ := r.memH z
    rw [e] at np
    cases np
  have nf : L.F D = none := by
    cases q : L.F D with
    | none => rfl
    | some v =>
      have := r.sub _ _ q
      rw [np] at this
      cases this
  refine ⟨fun a u e => ?_, fun p hp => ?_, ?_, r.len, r.nd, r.fr, fun p hp => ?_, fun t ht => ⟨tab_new (r.tab t ht).1 np, (r.tab t ht).2.1, fun q hq => ?_⟩, fun i a u e e2 => ?_, r.cnt, r.fx⟩
  · have e : L.F a = some u := e
    rw [upd_ne (fun z => by rw [z, nf] at e; cases e)]
    exact r.sub _ _ e
  · rcases List.mem_cons.mp hp with rfl | hp
    · exact ⟨upd_same, nf, nm⟩
    · obtain ⟨h1, h2, h3⟩ := r.pin p hp
      refine ⟨?_, h2, h3⟩
      rw [upd_ne (fun z => by rw [z, np] at h1; cases h1)]
      exact h1
  · show (D :: L.P.map (·.1)).Nodup
    refine List.nodup_cons.mpr ⟨fun z => ?_, r.pnd⟩
    obtain ⟨p, hp, e⟩ := List.mem_map.mp z
    obtain ⟨h1, _, _⟩ := r.pin p hp
    rw [e, np] at h1
    cases h1
  · obtain ⟨h1, h2⟩ := r.cpin p hp
    have hd : p.1 ≠ D := fun z => by rw [z, np] at h1; cases h1
    refine ⟨by rw [upd_ne hd]; exact h1, h2.imp id fun ⟨h2, h3, h4⟩ => ⟨h2, h3, fun q hq => ?_⟩⟩
    rcases List.mem_cons.mp hq with rfl | hq
    · exact hd.symm
    · exact h4 q hq
  · rcases List.mem_cons.mp hq with rfl | hq
    · exact fun z => tab_ne (r.tab t ht).1 (by rw [← z]; exact np)
    · exact (r.tab t ht).2.2 q hq
  · have e : L.mu[i]? = some a := e
    exact (r.obj i a u e e2).mono (L := L) (L' := { L with P := (D, o) :: L.P }) ⟨fun _ _ z => z, List.prefix_refl _, fun _ z => z⟩ (upd_ne fun z => nm (z ▸ List.mem_of_getElem? e))
theorem HRel.pinSet (n1 : ∀ ps, o ≠ .tbl ps) (n2 : ∀ φ, o ≠ .ext φ) (r : HRel K mg { L with P := (D, o) :: P0 } H h) : HRel K mg { L with P := (D, o') :: P0 } (upd H D o') h := by
  obtain ⟨p1, p2, p3⟩ := r.pin (D, o) (List.mem_cons_self ..)
  refine ⟨fun a u e => ?_, fun p hp => ?_, r.pnd, r.len, r.nd, r.fr, fun p hp => ?_, fun t ht => ⟨tab_upd (r.tab t ht).1 (fun ps z => n1 ps (Option.some.inj (p1.symm.trans z))) (fun φ z => n2 φ (Option.some.inj (p1.symm.trans z))), (r.tab t ht).2.1, fun q hq => ?_⟩, fun i a u e e2 => ?_, r.cnt, r.fx⟩
  · have e : L.F a = some u := e
    have p2 : L.F D = none := p2
    rw [upd_ne (fun z => by rw [z, p2] at e; cases e)]
    exact r.sub _ _ e
  · rcases List.mem_cons.mp hp with rfl | hp
    · exact ⟨upd_same, p2, p3⟩
    · obtain ⟨h1, h2, h3⟩ := r.pin p (List.mem_cons_of_mem _ hp)
      refine ⟨?_, h2, h3⟩
      have nd : (D :: P0.map (·.1)).Nodup := r.pnd
      rw [upd_ne (fun z => (List.nodup_cons.mp nd).1 (List.mem_map.mpr ⟨p, hp, z⟩))]
      exact h1
  · obtain ⟨h1, h2⟩ := r.cpin p hp
    have hd : D ≠ p.1 := fun z => by
      rcases h2 with ⟨φ, h2⟩ | ⟨_, _, h4⟩
      · exact n2 φ (by rw [← z, show H D = some o from p1] at h1; rw [← h2]; exact Option.some.inj h1)
      · exact h4 (D, o) (List.mem_cons_self ..) z
    refine ⟨by rw [upd_ne hd.symm]; exact h1, h2.imp id fun ⟨h2, h3, h4⟩ => ⟨h2, h3, fun q hq => ?_⟩⟩
    rcases List.mem_cons.mp hq with rfl | hq
    · exact hd
    · exact h4 q (List.mem_cons_of_mem _ hq)
  · rcases List.mem_cons.mp hq with rfl | hq
    · exact (r.tab t ht).2.2 (D, o) (List.mem_cons_self ..)
    · exact (r.tab t ht).2.2 q (List.mem_cons_of_mem _ hq)
  · have e : L.mu[i]? = some a := e
    have p3 : D ∉ L.mu := p3
    exact (r.obj i a u e e2).mono (L := { L with P := (D, o) :: P0 }) (L' := { L with P := (D, o') :: P0 }) ⟨fun _ _ z => z, List.prefix_refl _, fun _ z => z⟩ (upd_ne fun z => p3 (z ▸ List.mem_of_getElem? e))
theorem HRel.pinFrz (gd : GoodO o) (r : HRel K mg { L with P := (D, o) :: P0 } H h) : HRel K mg { F := upd L.F D o, mu := L.mu, P := P0, C := L.C } H h := by
  obtain ⟨p1, p2, p3⟩ := r.pin (D, o) (List.mem_cons_self ..)
  have p2 : L.F D = none := p2
  have p3 : D ∉ L.mu := p3
  refine ⟨fun a u e => ?_, fun p hp => ?_, (List.nodup_cons.mp (show (D :: P0.map (·.1)).Nodup from r.pnd)).2, r.len, r.nd, fun a ha => ?_, fun p hp => ?_, fun t ht => ⟨(r.tab t ht).1, ?_, fun q hq => (r.tab t ht).2.2 q (List.mem_cons_of_mem _ hq)⟩, fun i a u e e2 => ?_, r.cnt, fun a u e => ?_⟩
  · have e : upd L.F D o a = some u := e
    by_cases hd : a = D
    · subst hd
      rw [upd_same] at e
      cases e
      exact p1
    · rw [upd_ne hd] at e
      exact r.sub _ _ e
  · obtain ⟨h1, h2, h3⟩ := r.pin p (List.mem_cons_of_mem _ hp)
    have h2 : L.F p.1 = none := h2
    have nd : (D :: P0.map (·.1)).Nodup := r.pnd
    refine ⟨h1, ?_, h3⟩
    show upd L.F D o p.1 = none
    rw [upd_ne (fun z => (List.nodup_cons.mp nd).1 (List.mem_map.mpr ⟨p, hp, z⟩))]
    exact h2
  · show upd L.F D o a = none
    have ha : a ∈ L.mu := ha
    have hne : a ≠ D := fun z => p3 (z ▸ ha)
    rw [upd_ne hne]
    exact r.fr a ha
  · obtain ⟨h1, h2⟩ := r.cpin p hp
    refine ⟨h1, h2.imp id fun ⟨h2, h3, h4⟩ => ⟨?_, h3, fun q hq => h4 q (List.mem_cons_of_mem _ hq)⟩⟩
    have hd : D ≠ p.1 := h4 (D, o) (List.mem_cons_self ..)
    show upd L.F D o p.1 = none
    rw [upd_ne hd.symm]
    exact h2
  · show upd L.F D o t.2.1 = none
    rw [upd_ne ((r.tab t ht).2.2 (D, o) (List.mem_cons_self ..)).symm]
    exact (r.tab t ht).2.1
  · have e : L.mu[i]? = some a := e
    refine (r.obj i a u e e2).mono (L := { L with P := (D, o) :: P0 }) (L' := { F := upd L.F D o, mu := L.mu, P := P0, C := L.C }) ⟨fun b v z => ?_, List.prefix_refl _, fun _ z => z⟩ rfl
    show upd L.F D o b = _
    have z : L.F b = some v := z
    rw [upd_ne (fun q => by rw [q, p2] at z; cases z)]
    exact z
  · have e : upd L.F D o a = some u := e
    by_cases hd : a = D
    · subst hd
      rw [upd_same] at e
      cases e
      exact gd
    · rw [upd_ne hd] at e
      exact r.fx a u e
end

theorem lc_read {K : PySem.W.Frag} {mg : Str → Option Value} {Wx : WX} {mi : MI} {vs : List Nat} {g : GF} {t : MT} {elt : M} {σ : L2.St} {H : Hp} {Q : VK} (q : tM K mg Wx (mLc mi vs g t elt) σ H Q) :
    tLc (tI K mg Wx mi) (tG K mg vs g) (tMT K mg W0 t) (tM K mg W0 elt) vs σ H Q := by
  obtain ⟨L, ρ, h, hr, er, s⟩ := q
  refine ⟨L, ρ, h, hr, er, s.bind fun J H1 L1 it h1 le1 hr1 r1 s1 => ?_⟩
  intro D nD
  have er1 := er.mono le1
  refine ⟨fun i m H => m = it.ws.length - i ∧ i ≤ it.ws.length ∧ ∃ L h acc us, L1.lw L ∧ L.P = (D, .lst us) :: L1.P ∧ HRel K mg L H h ∧ DpAll K L.F us acc ∧
    Sat K mg (WRel K) L1 ((lcRun g t elt it.keep (wipeM ρ vs) (it.ws.drop i) acc h).bind fun ds h2 => .ok (.d (.list ds)) h2) Q (fun c d H' => Wx c d σ H'),
    ⟨_, rfl, Nat.zero_le _, { L1 with P := (D, .lst []) :: L1.P }, h1, [], [], ⟨fun _ _ z => z, List.prefix_refl _, fun _ z => z⟩, rfl, hr1.pinPush nD, .nil, s1⟩, ?_⟩
  rintro i m H ⟨rfl, hi, L, h, acc, us, lw, eP, hr, ha, s⟩
  by_cases hlt : i < it.ws.length
  · rw [List.drop_eq_getElem_cons hlt] at s
    unfold lcRun at s
    split at s
    · rename_i hk
      obtain ⟨i1, _⟩ := r1 L H h lw.f lw.m hr hk i
      obtain ⟨go, yl⟩ := i1 _ (List.getElem?_eq_getElem hlt)
      split at s
      · exact (show False from s).elim
      · rename_i ρ2 eg
        refine .inr ⟨go, fun H' => ∃ L h acc us, L1.lw L ∧ L.P = (D, .lst us) :: L1.P ∧ HRel K mg L H' h ∧ DpAll K L.F us acc ∧
          Sat K mg (WRel K) L1 ((lcRun g t elt it.keep (wipeM ρ vs) (it.ws.drop (i + 1)) acc h).bind fun ds h2 => .ok (.d (.list ds)) h2) Q (fun c d H' => Wx c d σ H'),
          fun H' q => ⟨_, by omega, rfl, hlt, q⟩, fun x H' y => ?_⟩
        obtain ⟨L2, le2, hr2, rx⟩ := yl x H' y
        refine ⟨L2, wipeM ρ vs, h, _, hr2, ((er1.monoW lw).mono le2).wipe vs, rx, ρ2, eg, fun σ2 er2 ag => ⟨by rw [ag.wipe, wipe_wipe], ?_⟩⟩
        refine ⟨L2, ρ2, h, hr2, er2, ?_⟩
        cases qt : t ρ2 h with
        | exc c h2 => simp only [qt] at s; exact (show False from s).elim
        | stuck => simp only [qt] at s; exact (show False from s).elim
        | ok b h2 =>
          simp only [qt] at s
          intro b' H3 L3 le3 hr3 eb
          obtain rfl : b' = b := eb
          have lw3 : L1.lw L3 := lw.trans (le2.w.trans le3.w)
          have eP3 : L3.P = (D, .lst us) :: L1.P := le3.p.trans (le2.p.trans eP)
          cases b' with
          | false =>
            simp only [Bool.false_eq_true, if_false] at s ⊢
            exact ⟨L3, h2, acc, us, lw3, eP3, hr3, DpAll.sub (fun a o z => le3.f a o (le2.f a o z)) _ _ ha, s⟩
          | true =>
            simp only [if_true] at s ⊢
            refine ⟨L3, ρ2, h2, hr3, er2.mono le3, ?_⟩
            cases qe : elt ρ2 h2 with
            | exc c h3 => simp only [qe] at s; exact (show False from s).elim
            | stuck => simp only [qe] at s; exact (show False from s).elim
            | ok w h3 =>
              cases w with
              | ref _ => simp only [qe] at s; exact (show False from s).elim
              | tup _ => simp only [qe] at s; exact (show False from s).elim
              | clo _ _ => simp only [qe] at s; exact (show False from s).elim
              | d x =>
                simp only [qe] at s
                split at s
                · rename_i hz
                  intro v H4 L4 le4 hr4 rv
                  have eP4 : L4.P = (D, .lst us) :: L1.P := le4.p.trans eP3
                  have ha4 := DpAll.sub (fun a o z => le4.f a o (le3.f a o (le2.f a o z))) _ _ ha
                  cases rv with
                  | d rv =>
                    have hp : H4 D = some (.lst us) := (hr4.pin (D, .lst us) (by rw [eP4]; exact List.mem_cons_self ..)).1
                    refine ⟨us, hp, by rw [DpAll.length ha]; exact hz, ?_⟩
                    obtain ⟨F4, mu4, P4, C4⟩ := L4
                    cases eP4
                    exact ⟨⟨F4, mu4, (D, .lst (us ++ [v])) :: L1.P, C4⟩, h3, acc ++ [x], us ++ [v], ⟨(lw3.trans le4.w).f, (lw3.trans le4.w).m, (lw3.trans le4.w).c⟩, rfl, HRel.pinSet (L := ⟨F4, mu4, (D, .lst us) :: L1.P, C4⟩) (o := .lst us) (fun _ z => by cases z) (fun _ z => by cases z) hr4, DpAll.append ha4 (.cons rv .nil), s⟩
                · exact (show False from s).elim
    · exact (show False from s).elim
  · have e : i = it.ws.length := by omega
    subst e
    rw [List.drop_length] at s
    unfold lcRun at s
    split at s
    · rename_i hk
      refine .inl ⟨(r1 L H h lw.f lw.m hr hk it.ws.length).2 (Nat.le_refl _), ?_⟩
      obtain ⟨F4, mu4, P4, C4⟩ := L
      cases eP
      have hf := HRel.pinFrz (L := ⟨F4, mu4, (D, .lst us) :: L1.P, C4⟩) (o := .lst us) (good_lst _) hr
      have nf : F4 D = none := (hr.pin (D, .lst us) (List.mem_cons_self ..)).2.1
      have fs : ∀ a u, F4 a = some u → upd F4 D (.lst us) a = some u := fun a u z => by
        rw [upd_ne (fun q => by rw [q, nf] at z; cases z)]
        exact z
      exact s (.ref D) H ⟨upd F4 D (.lst us), mu4, L1.P, C4⟩ ⟨fun a u z => fs a u (lw.f a u z), lw.m, rfl, lw.c⟩ hf (.d (.lst (SqL.of upd_same) (DpAll.sub fs _ _ ha)))
    · exact (show False from s).elim
section
variable {X : Cx} {Wx : WX} {elt tg iter : Expr} {ifs : List Expr} {scope : Scope} {own : List (Str × Nat)} {pos : Pos} {mi : MI} {g : GF} {t : MT} {m : M}
theorem je_lc (hc : X.calm = true) (hN : X.N.Nodup) (hi : JI X Wx tg iter mi) (ok : BlkOk X.N X.env.scope scope own)
    (hg : ∀ (s : Shared) (H : Hp) (C : Addr) (cl : List (Str × Addr)) (fp : List Addr), JG (X.blk s H scope (compEnvC scope cl C X.env) fp) (own.map (·.2)) tg g)
    (ht : ∀ (s : Shared) (H : Hp) (C : Addr) (cl : List (Str × Addr)) (fp : List Addr), JTs (X.blk s H scope (compEnvC scope cl C X.env) fp) W0 ifs t)
    (he : ∀ (s : Shared) (H : Hp) (C : Addr) (cl : List (Str × Addr)) (fp : List Addr), JE (X.blk s H scope (compEnvC scope cl C X.env) fp) W0 elt m)
    (hs : ∀ x, foldedSetIterable iter X.env x = pure x := by intro _; rfl) : JE X Wx (.ListComp elt [⟨tg, iter, ifs, 0⟩] scope pos) (mLc mi (own.map (·.2)) g t m) :=
  peI (pe_lc hc hN hi ok hg ht he hs) fun σ H Q q => lc_read q
/-- y = [..] -/
theorem js_setLc {i : Nat} {y : Str} {py spos : Pos} (hc : X.calm = true) (hN : X.N.Nodup) (hy : X.N[i]? = some y) (hyl : X.env.scope.names.lookup y = some .local)
    (hsw : swapsWith (.ListComp elt [⟨tg, iter, ifs, 0⟩] scope pos) (some (.Name y py)) spos.line X.env = pure true) (hi : JI X Wx tg iter mi) (ok : BlkOk X.N X.env.scope scope own)
    (hg : ∀ (s : Shared) (H : Hp) (C : Addr) (cl : List (Str × Addr)) (fp : List Addr), JG (X.blk s H scope (compEnvC scope cl C X.env) fp) (own.map (·.2)) tg g)
    (ht : ∀ (s : Shared) (H : Hp) (C : Addr) (cl : List (Str × Addr)) (fp : List Addr), JTs (X.blk s H scope (compEnvC scope cl C X.env) fp) W0 ifs t)
    (he : ∀ (s : Shared) (H : Hp) (C : Addr) (cl : List (Str × Addr)) (fp : List Addr), JE (X.blk s H scope (compEnvC scope cl C X.env) fp) W0 elt m)
    (hs : ∀ x, foldedSetIterable iter X.env x = pure x := by intro _; rfl) : JS X Wx (.Assign [.Name y py] (.ListComp elt [⟨tg, iter, ifs, 0⟩] scope pos) spos) (mAsg (gNm i) (mLc mi (own.map (·.2)) g t m)) :=
  psI (ps_setLc hc hN hy hyl hsw hi ok hg ht he hs) fun D σ H ⟨L, ρ, h, hr, er, s⟩ =>
    lc_read ⟨L, ρ, h, hr, er, Sat.toS er s fun v H1 L1 x h1 le1 hr1 r1 s1 => s1 _ H1 L1 (Ly.le.refl _) hr1 ((er.mono le1).set i r1)⟩
end
end Dw
/-! Dw: sorted(t) of a tuple -/
namespace Dw
variable [LamTab]
open PySem PySem.Spec PyProof.Rows PySem.W PySem.Calls
section
variable {prog : Program} {w : World} {A : Around} {E : Value → Shared → Prop} {s : Shared}
theorem collect_tupW {l : Addr} {vs : List Value} {Q : List Value → Shared → Prop} (hl : IsTup s.heap l vs.toArray)
    (h : Q vs { s with heap := (s.heap.push (seqObj "list" #[] 0)).update s.heap.objs.size (Obj.mapSeq (· ++ vs.toArray)) }) (hz : vs.length ≤ sizeLine) :
    wpAny (model prog w) A (collect (.ref l)) Q E s := by
  obtain ⟨o, ho, hc, n, hd⟩ := id hl
  unfold collect
  refine wpAny_bind (wpAny_runValue (codeAny_builtin entry_proto_collect' ?_))
  show wpAny _ _ (do again (.builtin "list.__iadd__" ⟨[← newList [], .ref l], []⟩)) _ _ s
  refine wpAny_bind (wpAny_newList (wpAny_pure ⟨Code.quiet_builtin _ (by decide +kernel), codeAny_builtin entry_list_iadd' ?_⟩))
  show wpAny _ _ (Builtin.List.listExtendWith (.ref s.heap.objs.size) (.ref l) (.ref s.heap.objs.size)) _ _ { s with heap := s.heap.push (seqObj "list" #[] 0) }
  unfold Builtin.List.listExtendWith
  have ho' : (s.heap.push (seqObj "list" #[] 0)).get? l = some o := Heap.get?_push_of_some _ ho
  refine wpAny_bind (wpAny_typeOf (T := "tuple") ⟨o, ho', hc⟩ ?_)
  have tt : (Value.type "tuple" == Value.type "tuple") = true := by rfl
  rw [if_pos (by rw [tt]; simp)]
  refine wpAny_bind (listItems_at ho' hd ?_)
  refine wpAny_bind (listItems_at (xs := #[]) (n := 0) (Heap.get?_push_size _ rfl) rfl ?_)
  rw [if_neg (by simp)]
  refine wpAny_bind (listUpdate_at (xs := #[]) (n := 0) (Heap.get?_push_size _ rfl) rfl ?_ (Nat.zero_le _) (by show (#[] ++ vs.toArray).size ≤ sizeLine + 1; simp only [Array.size_append, List.size_toArray, List.length_nil]; omega))
  refine wpAny_pure ?_
  show wpAny (model prog w) A (do
      let o ← load s.heap.objs.size
      match o.data with
      | .seq xs _ => pure xs.toList
      | _ => unsupported "internal:collect") Q E { s with heap := (s.heap.push (seqObj "list" #[] 0)).update s.heap.objs.size (Obj.mapSeq (· ++ vs.toArray)) }
  refine wpAny_bind (wpAny_load (get?_update_seq (Heap.get?_push_size _ rfl) _) ?_)
  show wpAny _ _ (pure ((#[] : Array Value) ++ vs.toArray).toList) Q E _
  rw [show ((#[] : Array Value) ++ vs.toArray).toList = vs by simp]
  exact wpAny_pure h
theorem sorted_of_sortT {l : Addr} {vs : List Value} {kw : List (Str × Value)} {Q : Value → Shared → Prop} (hl : IsTup s.heap l vs.toArray) (hL : vs.length ≤ sizeLine) (ha1 : argsOk "sorted" ⟨[.ref l], kw⟩) (ha2 : ∀ x, argsOk "list.sort" ⟨[.ref x], kw⟩)
    (body : ∀ E' : Value → Shared → Prop, wpAny (model prog w) A.in1.in1 (Builtin.«list.sort» ⟨[.ref (s.heap.objs.size + 1)], kw⟩) (fun f s' => f = .done (.ret .none) ∧ Q (.ref (s.heap.objs.size + 1)) s') E' { s with heap := copyHeap s.heap vs }) :
    wpAny (model prog w) A (call (.builtin "sorted") [.ref l] kw) Q E s := by
  refine call_function_entry_kw kind_sorted plain_sorted entry_sorted ha1 ?_
  unfold Builtin.«sorted»
  refine wpAny_bind (m := checkCount "sorted" 1 1 _) (wpAny_pure ?_)
  refine wpAny_bind (collect_tupW hl ?_ hL)
  refine wpAny_bind (wpAny_newList ?_ hL)
  have hq : ((s.heap.push (seqObj "list" #[] 0)).update s.heap.objs.size (Obj.mapSeq (· ++ vs.toArray))).objs.size = s.heap.objs.size + 1 := by
    rw [Heap.size_update, size_push']
  show wpAny _ _ _ _ _ { s with heap := copyHeap s.heap vs }
  rw [hq]
  refine wpAny_bind (wpAny_holding (wpAny_call_entry_kw slot_list_sort ⟨_, copyHeap_at s.heap vs, rfl⟩ entry_list_sort ?body (ha2 _)))
  case body =>
    show wpAny (model prog w) A.in1.in1 (Builtin.«list.sort» ⟨[.ref (s.heap.objs.size + 1)], kw⟩) _ _ _
    refine wpAny_mono (body _) (fun f s' hf => ?_) fun _ _ e => e
    obtain ⟨rfl, hq⟩ := hf
    exact ⟨_, rfl, wpAny_pure ⟨_, rfl, hq⟩⟩
theorem sorted_dataT {β : Type} {R : Value → β → Prop} {enc : β → PyData} {vs : List Value} {bs : List β} {l : Addr} {Q : Value → Shared → Prop} (hl : IsTup s.heap l vs.toArray) (e : EachIs R vs bs) (er : EachIs (fun v b => ∃ as, Reads s.heap v (enc b) as) vs bs) (hal : AllAlike (bs.map enc)) (hk : Sortable (bs.map enc)) (hL : bs.length ≤ sizeLine)
    (hu : ∀ b, b ∈ bs → A.units + 2 + (enc b).depth < cLine) (h : ∀ out, out.length = bs.length → EachIs R out (bs.mergeSort (dataLe false enc)) → Q (.ref (s.heap.objs.size + 1)) { s with heap := sortedAll s.heap vs (List.toArray out) }) :
    wpAny (model prog w) A (call (.builtin "sorted") [.ref l]) Q E s := by
  have er' : EachIs (fun v b => ∃ as, Reads (sortingHeap (copyHeap s.heap vs) (s.heap.objs.size + 1) vs) v (enc b) as) vs bs := er.mono fun _ _ ⟨as, r⟩ => ⟨as, PyProof.Rows.Reads.keeps (fun _ _ => sorting_copy_old) r⟩
  have S := SortsAt.data (prog := prog) (w := w) (A := A.in1.in1) (s := { s with heap := sortingHeap (copyHeap s.heap vs) (s.heap.objs.size + 1) vs }) (each_map (R := fun v d => ∃ as, Reads (sortingHeap (copyHeap s.heap vs) (s.heap.objs.size + 1) vs) v d as) enc er') hal hk (bound_map hu)
  refine sorted_of_sortT hl (by rw [e.length]; exact hL) (args_sorted1 _) (fun _ => args_list_sort _) fun _ => list_sort_vals (s := { s with heap := copyHeap s.heap vs }) (copyHeap_at s.heap vs) S (by rw [e.length]; exact hL) ⟨rfl, ?_⟩
  exact h _ (by rw [sortVals_length false rfl]; exact e.length) (sortVals_data false e er' hal)
end
end Dw
/-! Dw: built-in functions on values that are read -/
namespace Dw
variable [LamTab]
open PySem PySem.Spec PyProof.Rows L2

theorem boot_len : bootBuiltins "len" = some (.builtin "len") := PySem.boot_len
def fLen : List D → Option D
  | [.list ds] => some (.int ds.length)
  | [.tuple ds] => some (.int ds.length)
  | [.str x] => if x.length ≤ sizeLine then some (.int x.length) else none
  | _ => none
def fAbs : List D → Option D
  | [.int i] => some (.int (if i < 0 then -i else i))
  | _ => none
def fInt : List D → Option D
  | [.int i] => some (.int i)
  | [.bool b] => some (.int (if b then 1 else 0))
  | [.str x] => if x.length ≤ 640 then (match PySem.intText? x with
    | some n => some (.int n)
    | none => none) else none
  | _ => none
def fStr : List D → Option D
  | [.int i] => if i.natAbs.log2 < 1920 then some (.str (toString i)) else none
  | _ => none
def fTuple : List D → Option D
  | [.list ds] => some (.tuple ds)
  | [.tuple ds] => some (.tuple ds)
  | _ => none
def fList : List D → Option D
  | [.list ds] => some (.list ds)
  | [.tuple ds] => some (.list ds)
  | _ => none
/-- the ints of a list -/
def intsOf : List D → Option (List Int)
  | [] => some []
  | .int i :: ds => (intsOf ds).map (i :: ·)
  | _ :: _ => none
def boolsOf : List D → Option (List Bool)
  | [] => some []
  | .bool i :: ds => (boolsOf ds).map (i :: ·)
  | _ :: _ => none
def strsOf : List D → Option (List Str)
  | [] => some []
  | .str i :: ds => (strsOf ds).map (i :: ·)
  | _ :: _ => none
def fAll : List D → Option D
  | [.list ds] => (boolsOf ds).map fun bs => .bool (bs.all id)
  | _ => none
def fAny : List D → Option D
  | [.list ds] => (boolsOf ds).map fun bs => .bool (bs.any id)
  | _ => none
def fSum : List D → Option D
  | [.list ds] => (intsOf ds).map fun ns => .int ns.sum
  | _ => none
def allAlike (ds : List D) : Bool := ds.all fun a => ds.all fun b => PySem.W.alike a b
def noNone (ds : List D) : Bool := ds.all fun a => match a with
  | .none => false
  | _ => true
def fMin : List D → Option D
  | [.list (x :: xs)] => if allAlike (x :: xs) = true ∧ noNone (x :: xs) = true ∧ PyData.depthAll (x :: xs) ≤ 100 then some (PySem.W.minD x xs) else none
  | [.int i, .int j] => some (.int (if j < i then j else i))
  | _ => none
def fMax : List D → Option D
  | [.list (x :: xs)] => if allAlike (x :: xs) = true ∧ noNone (x :: xs) = true ∧ PyData.depthAll (x :: xs) ≤ 100 then some (PySem.W.maxD x xs) else none
  | [.int i, .int j] => some (.int (if j > i then j else i))
  | _ => none
def isTup1 : D → Bool
  | .tuple (_ :: _) => true
  | _ => false
def isFlatSort : D → Bool
  | .none => false
  | .tuple _ => false
  | _ => true
def sortOk (ds : List D) : Bool := allAlike ds && (ds.all isTup1 || ds.all isFlatSort) && ds.all fun d => decide (d.depth ≤ 100)
def sortD (ds : List D) : List D := ds.mergeSort (PySem.W.dataLe false id)
def fSorted : List D → Option D
  | [.list ds] => if sortOk ds = true then some (.list (sortD ds)) else none
  | [.tuple ds] => if sortOk ds = true then some (.list (sortD ds)) else none
  | _ => none

section
variable {K : PySem.W.Frag} {H : Hp}
theorem dpa_ints : ∀ {ds : List D} {vs : List V} {ns : List Int}, DpAll K H vs ds → intsOf ds = some ns → vs = ns.map V.int
  | [], _, _, h, e => by cases h; cases e; rfl
  | .int i :: ds, _, ns, h, e => by
    cases h with
    | cons h1 h2 =>
      simp only [intsOf, Option.map_eq_some_iff] at e
      obtain ⟨r, e1, rfl⟩ := e
      cases h1
      rw [dpa_ints h2 e1]
      rfl
  | .none :: _, _, _, _, e => by simp [intsOf] at e
  | .bool _ :: _, _, _, _, e => by simp [intsOf] at e
  | .str _ :: _, _, _, _, e => by simp [intsOf] at e
  | .list _ :: _, _, _, _, e => by simp [intsOf] at e
  | .tuple _ :: _, _, _, _, e => by simp [intsOf] at e
  | .dict _ :: _, _, _, _, e => by simp [intsOf] at e
theorem dpa_bools : ∀ {ds : List D} {vs : List V} {ns : List Bool}, DpAll K H vs ds → boolsOf ds = some ns → vs = ns.map V.bl
  | [], _, _, h, e => by cases h; cases e; rfl
  | .bool i :: ds, _, ns, h, e => by
    cases h with
    | cons h1 h2 =>
      simp only [boolsOf, Option.map_eq_some_iff] at e
      obtain ⟨r, e1, rfl⟩ := e
      cases h1
      rw [dpa_bools h2 e1]
      rfl
  | .none :: _, _, _, _, e => by simp [boolsOf] at e
  | .int _ :: _, _, _, _, e => by simp [boolsOf] at e
  | .str _ :: _, _, _, _, e => by simp [boolsOf] at e
  | .list _ :: _, _, _, _, e => by simp [boolsOf] at e
  | .tuple _ :: _, _, _, _, e => by simp [boolsOf] at e
  | .dict _ :: _, _, _, _, e => by simp [boolsOf] at e
theorem dpa_strs : ∀ {ds : List D} {vs : List V} {ns : List Str}, DpAll K H vs ds → strsOf ds = some ns → vs = ns.map V.str
  | [], _, _, h, e => by cases h; cases e; rfl
  | .str i :: ds, _, ns, h, e => by
    cases h with
    | cons h1 h2 =>
      simp only [strsOf, Option.map_eq_some_iff] at e
      obtain ⟨r, e1, rfl⟩ := e
      cases h1
      rw [dpa_strs h2 e1]
      rfl
  | .none :: _, _, _, _, e => by simp [strsOf] at e
  | .int _ :: _, _, _, _, e => by simp [strsOf] at e
  | .bool _ :: _, _, _, _, e => by simp [strsOf] at e
  | .list _ :: _, _, _, _, e => by simp [strsOf] at e
  | .tuple _ :: _, _, _, _, e => by simp [strsOf] at e
  | .dict _ :: _, _, _, _, e => by simp [strsOf] at e
end
section
variable {X : Cx} {k : Nat}
theorem dr1 {K : PySem.W.Frag} {L : Ly} {H : Hp} {vs : List V} {d : D} (r : DRels K L H vs [d]) : ∃ v, vs = [v] ∧ DRel K L H v d := by
  cases r with
  | cons r1 r2 => cases r2; exact ⟨_, rfl, r1⟩
theorem dr2 {K : PySem.W.Frag} {L : Ly} {H : Hp} {vs : List V} {d e : D} (r : DRels K L H vs [d, e]) : ∃ v u, vs = [v, u] ∧ DRel K L H v d ∧ DRel K L H u e := by
  cases r with
  | cons r1 r2 =>
    cases r2 with
    | cons r2 r3 => cases r3; exact ⟨_, _, rfl, r1, r2⟩
theorem cr_len : CalR X (.builtin "len") fLen := by
  intro pins s σ H xs us Q I r q
  obtain ⟨L, h, ds, c, hr, rs, e, q⟩ := q
  unfold fLen at e
  split at e
  · cases e
    obtain ⟨v, rfl, r1⟩ := dr1 rs
    obtain ⟨a, vs, rfl, s1, d1⟩ := r1.list hr
    refine L2.call_len pins s σ H _ us Q I r ⟨_, _, rfl, .inl ⟨vs, s1, rfl⟩, ?_⟩
    rw [DpAll.length d1]
    exact q.here hr (.int _)
  · cases e
    obtain ⟨v, rfl, r1⟩ := dr1 rs
    obtain ⟨a, vs, rfl, s1, d1⟩ := r1.tuple hr
    refine L2.call_len pins s σ H _ us Q I r ⟨_, _, rfl, .inr ⟨vs, s1, rfl⟩, ?_⟩
    rw [DpAll.length d1]
    exact q.here hr (.int _)
  · split at e
    · cases e
      obtain ⟨v, rfl, r1⟩ := dr1 rs
      cases r1.str
      exact L2.call_len pins s σ H _ us Q I r ⟨_, _, rfl, ⟨by assumption, rfl⟩, q.here hr (.int _)⟩
    · cases e
  · cases e
theorem cr_abs : CalR X (.builtin "abs") fAbs := by
  intro pins s σ H xs us Q I r q
  obtain ⟨L, h, ds, c, hr, rs, e, q⟩ := q
  unfold fAbs at e
  split at e
  · cases e
    obtain ⟨v, rfl, r1⟩ := dr1 rs
    cases r1.int
    exact L2.call_abs pins s σ H _ us Q I r ⟨_, rfl, q.here hr (.int _)⟩
  · cases e
theorem cr_int : CalR X (.type "int") fInt := by
  intro pins s σ H xs us Q I r q
  obtain ⟨L, h, ds, c, hr, rs, e, q⟩ := q
  unfold fInt at e
  split at e
  · cases e
    obtain ⟨v, rfl, r1⟩ := dr1 rs
    cases r1.int
    exact L2.call_int1 pins s σ H _ us Q I r (.inl ⟨_, rfl, q.here hr (.int _)⟩)
  · cases e
    obtain ⟨v, rfl, r1⟩ := dr1 rs
    cases r1.bool
    exact L2.call_int1 pins s σ H _ us Q I r (.inr ⟨_, rfl, q.here hr (.int _)⟩)
  · split at e
    · rename_i hz
      split at e
      · rename_i n en
        cases e
        obtain ⟨v, rfl, r1⟩ := dr1 rs
        cases r1.str
        exact L2.call_int_str pins s σ H _ us Q I r ⟨_, n, rfl, en, hz, q.here hr (.int _)⟩
      · cases e
    · cases e
  · cases e
theorem cr_tuple : CalR X (.type "tuple") fTuple := by
  intro pins s σ H xs us Q I r q
  obtain ⟨L, h, ds, c, hr, rs, e, q⟩ := q
  unfold fTuple at e
  split at e
  · cases e
    obtain ⟨v, rfl, r1⟩ := dr1 rs
    obtain ⟨a, vs, rfl, s1, d1⟩ := r1.list hr
    obtain ⟨u, rfl, ru⟩ := vals1 r
    cases ru
    obtain ⟨its, rv, pl, hz⟩ := I.list s1
    have hl := rv.length
    refine call_tuple_list pl.isList (fun h' kp => ?_) (by simp only [List.size_toArray]; omega)
    have I1 : Inv X pins σ H { s with heap := h' } := I.kept (t' := s.toks) kp
    exact ⟨.ref h'.objs.size, _, inv_tup (t' := s.toks) I1 rv hz, rfl, q.tup hr d1 (I1.hok.fresh (Nat.le_refl _)) _ rfl⟩
  · cases e
    obtain ⟨v, rfl, r1⟩ := dr1 rs
    obtain ⟨a, vs, rfl, s1, d1⟩ := r1.tuple hr
    refine L2.call_tuple_of pins s σ H _ us Q I r ⟨_, vs, rfl, .inr ⟨s1, ?_⟩⟩
    cases r1 with
    | pure r1 => exact q.here hr r1
  · cases e
theorem cr_list : CalR X (.type "list") fList := by
  intro pins s σ H xs us Q I r q
  obtain ⟨L, h, ds, c, hr, rs, e, q⟩ := q
  unfold fList at e
  split at e
  · cases e
    obtain ⟨v, rfl, r1⟩ := dr1 rs
    obtain ⟨a, vs, rfl, s1, d1⟩ := r1.list hr
    exact L2.call_list_of pins s σ H _ us Q I r ⟨_, vs, rfl, .inl s1, fun l nl => q.lst hr d1 nl⟩
  · cases e
    obtain ⟨v, rfl, r1⟩ := dr1 rs
    obtain ⟨a, vs, rfl, s1, d1⟩ := r1.tuple hr
    exact L2.call_list_of pins s σ H _ us Q I r ⟨_, vs, rfl, .inr s1, fun l nl => q.lst hr d1 nl⟩
  · cases e
theorem cr_all (hc : X.calm = true) : CalR X (.builtin "all") fAll := by
  intro pins s σ H xs us Q I r q
  obtain ⟨L, h, ds, c, hr, rs, e, q⟩ := q
  unfold fAll at e
  split at e
  · simp only [Option.map_eq_some_iff] at e
    obtain ⟨bs, eb, rfl⟩ := e
    obtain ⟨v, rfl, r1⟩ := dr1 rs
    obtain ⟨a, vs, rfl, s1, d1⟩ := r1.list hr
    exact L2.cr_all hc pins s σ H _ us Q I r ⟨a, bs, rfl, dpa_bools d1 eb ▸ s1, q.here hr (.bl _)⟩
  · cases e
theorem cr_any (hc : X.calm = true) : CalR X (.builtin "any") fAny := by
  intro pins s σ H xs us Q I r q
  obtain ⟨L, h, ds, c, hr, rs, e, q⟩ := q
  unfold fAny at e
  split at e
  · simp only [Option.map_eq_some_iff] at e
    obtain ⟨bs, eb, rfl⟩ := e
    obtain ⟨v, rfl, r1⟩ := dr1 rs
    obtain ⟨a, vs, rfl, s1, d1⟩ := r1.list hr
    exact L2.cr_any hc pins s σ H _ us Q I r ⟨a, bs, rfl, dpa_bools d1 eb ▸ s1, q.here hr (.bl _)⟩
  · cases e
theorem cr_sum (hc : X.calm = true) : CalR X (.builtin "sum") fSum := by
  intro pins s σ H xs us Q I r q
  obtain ⟨L, h, ds, c, hr, rs, e, q⟩ := q
  unfold fSum at e
  split at e
  · simp only [Option.map_eq_some_iff] at e
    obtain ⟨bs, eb, rfl⟩ := e
    obtain ⟨v, rfl, r1⟩ := dr1 rs
    obtain ⟨a, vs, rfl, s1, d1⟩ := r1.list hr
    exact L2.cr_sum hc pins s σ H _ us Q I r ⟨a, bs, rfl, dpa_ints d1 eb ▸ s1, q.here hr (.int _)⟩
  · cases e
theorem cr_str : CalR X (.type "str") fStr := by
  intro pins s σ H xs us Q I r q
  obtain ⟨L, h, ds, c, hr, rs, e, q⟩ := q
  unfold fStr at e
  split at e
  · split at e
    · cases e
      obtain ⟨v, rfl, r1⟩ := dr1 rs
      cases r1.int
      exact L2.call_str_int pins s σ H _ us Q I r ⟨_, rfl, by assumption, q.here hr (.str _)⟩
    · cases e
  · cases e
/-- what is at a place of a list that is read -/
theorem dp_value {pins : List (Addr × Obj)} {σ : L2.St} {H F : Hp} {s : Shared} {K : PySem.W.Frag} : ∀ {ds : List D} {vs : List V} {us : List Value} {i : Nat} {u : Value}, DpAll K F vs ds → Vals vs us → us[i]? = some u → ∃ v d, vs[i]? = some v ∧ ds[i]? = some d ∧ RelV v u ∧ Dp K F v d
  | [], _, _, _, _, h, r, e => by cases h; cases r; simp at e
  | _ :: _, _, _, 0, _, h, r, e => by
    cases h with
    | cons h1 h2 =>
      cases r with
      | cons r1 r2 => simp at e; subst e; exact ⟨_, _, rfl, rfl, r1, h1⟩
  | _ :: _, _, _, i + 1, _, h, r, e => by
    cases h with
    | cons h1 h2 =>
      cases r with
      | cons r1 r2 =>
        obtain ⟨v, d, a, b, c, e'⟩ := dp_value (pins := pins) (σ := σ) (H := H) (s := s) (i := i) h2 r2 (by simpa using e)
        exact ⟨v, d, by simpa using a, by simpa using b, c, e'⟩
theorem alikeAll_of {ds : List D} (h : allAlike ds = true) : ∀ x ∈ ds, ∀ y ∈ ds, PySem.W.alike x y = true := fun x hx y hy => List.all_eq_true.mp (List.all_eq_true.mp h x hx) y hy
theorem noNone_of {ds : List D} (h : noNone ds = true) : ∀ x ∈ ds, x ≠ .none := fun x hx z => by
  have := List.all_eq_true.mp h x hx
  subst z
  exact absurd this (by simp)
theorem minD_mem (x : D) : ∀ xs : List D, PySem.W.minD x xs ∈ x :: xs := by
  intro xs
  unfold PySem.W.minD
  induction xs generalizing x with
  | nil => simp
  | cons y ys ih =>
    rw [List.foldl_cons]
    split
    · have := ih y
      rcases List.mem_cons.mp this with h | h
      · rw [h]; simp
      · exact List.mem_cons_of_mem _ (List.mem_cons_of_mem _ h)
    · have := ih x
      rcases List.mem_cons.mp this with h | h
      · rw [h]; simp
      · exact List.mem_cons_of_mem _ (List.mem_cons_of_mem _ h)
theorem maxD_mem (x : D) : ∀ xs : List D, PySem.W.maxD x xs ∈ x :: xs := by
  intro xs
  unfold PySem.W.maxD
  induction xs generalizing x with
  | nil => simp
  | cons y ys ih =>
    rw [List.foldl_cons]
    split
    · have := ih y
      rcases List.mem_cons.mp this with h | h
      · rw [h]; simp
      · exact List.mem_cons_of_mem _ (List.mem_cons_of_mem _ h)
    · have := ih x
      rcases List.mem_cons.mp this with h | h
      · rw [h]; simp
      · exact List.mem_cons_of_mem _ (List.mem_cons_of_mem _ h)
theorem plain_of_mem {ds : List D} (h : PyData.plainAll ds = true) {d : D} (hd : d ∈ ds) : d.plain = true := by
  induction ds with
  | nil => cases hd
  | cons x xs ih =>
    have h : (PyData.plain x && PyData.plainAll xs) = true := h
    simp only [Bool.and_eq_true] at h
    rcases List.mem_cons.mp hd with rfl | hd
    · exact h.1
    · exact ih h.2 hd
theorem cr_min (hc : X.calm = true) (ro : Room k X.A) : CalR X (.builtin "min") fMin := by
  intro pins s σ H xs us Q I r q
  obtain ⟨L, h, ds, c, hr, rs, e, q⟩ := q
  unfold fMin at e
  split at e
  · split at e
    · rename_i x xs' hz
      cases e
      obtain ⟨v, rfl, r1⟩ := dr1 rs
      obtain ⟨a, vs, rfl, s1, d1⟩ := r1.list hr
      obtain ⟨its, rv, hl, _⟩ := I.list s1
      obtain ⟨as, ra⟩ := Dp.readsAll I _ _ its (DpAll.sub hr.sub _ _ d1) rv
      have hun := ro.un
      rw [Vals.ref1 r]
      refine PySem.W.min_list_data (I.ok.hd hc) hl.isList ra ⟨alikeAll_of hz.1, noNone_of hz.2.1⟩ (by omega) fun i u h' tk bs hu hb hk => ?_
      obtain ⟨v, d, e1, e2, e3, e4⟩ := dp_value (pins := pins) (σ := σ) (H := H) (s := s) d1 rv (by simpa using hu)
      have I' : Inv X pins σ H { s with heap := h', toks := tk } := I.kept hk
      obtain ⟨_, bs', rb⟩ := (DRel.pure e4 : DRel X.K L H v d).reads I' hr e3
      have pl := DpAll.plain _ _ d1
      have ed := SeqAt.plain_unique _ _ _ _ _ (plain_of_mem pl (minD_mem x xs')) hb rb
      rw [ed] at q
      exact ⟨v, H, I', e3, q.here hr e4⟩
    · cases e
  · cases e
    obtain ⟨v, u, rfl, r1, r2⟩ := dr2 rs
    cases r1.int
    cases r2.int
    exact L2.call_min2 hc pins s σ H _ us Q I r ⟨_, _, rfl, q.here hr (.int _)⟩
  · cases e
theorem cr_max (hc : X.calm = true) (ro : Room k X.A) : CalR X (.builtin "max") fMax := by
  intro pins s σ H xs us Q I r q
  obtain ⟨L, h, ds, c, hr, rs, e, q⟩ := q
  unfold fMax at e
  split at e
  · split at e
    · rename_i x xs' hz
      cases e
      obtain ⟨v, rfl, r1⟩ := dr1 rs
      obtain ⟨a, vs, rfl, s1, d1⟩ := r1.list hr
      obtain ⟨its, rv, hl, _⟩ := I.list s1
      obtain ⟨as, ra⟩ := Dp.readsAll I _ _ its (DpAll.sub hr.sub _ _ d1) rv
      have hun := ro.un
      rw [Vals.ref1 r]
      refine PySem.W.max_list_data (I.ok.hd hc) hl.isList ra ⟨alikeAll_of hz.1, noNone_of hz.2.1⟩ (by omega) fun i u h' tk bs hu hb hk => ?_
      obtain ⟨v, d, e1, e2, e3, e4⟩ := dp_value (pins := pins) (σ := σ) (H := H) (s := s) d1 rv (by simpa using hu)
      have I' : Inv X pins σ H { s with heap := h', toks := tk } := I.kept hk
      obtain ⟨_, bs', rb⟩ := (DRel.pure e4 : DRel X.K L H v d).reads I' hr e3
      have pl := DpAll.plain _ _ d1
      have ed := SeqAt.plain_unique _ _ _ _ _ (plain_of_mem pl (maxD_mem x xs')) hb rb
      rw [ed] at q
      exact ⟨v, H, I', e3, q.here hr e4⟩
    · cases e
  · cases e
    obtain ⟨v, u, rfl, r1, r2⟩ := dr2 rs
    cases r1.int
    cases r2.int
    exact L2.call_max2 hc pins s σ H _ us Q I r ⟨_, _, rfl, q.here hr (.int _)⟩
  · cases e
theorem each_of {pins : List (Addr × Obj)} {σ : L2.St} {H F : Hp} {s : Shared} (I : Inv X pins σ H s) (sub : ∀ a o, F a = some o → H a = some o) : ∀ {ds : List D} {vs : List V} {us : List Value}, DpAll X.K F vs ds → Vals vs us →
    PySem.W.EachIs (fun u (p : V × D) => RelV p.1 u ∧ Dp X.K F p.1 p.2 ∧ ∃ as, Reads s.heap u p.2 as) us (vs.zip ds)
  | [], _, _, h, r => by cases h; cases r; exact .nil
  | _ :: _, _, _, h, r => by
    cases h with
    | cons h1 h2 =>
      cases r with
      | cons r1 r2 => exact .cons ⟨r1, h1, Dp.reads I _ _ _ (Dp.sub sub _ _ h1) r1⟩ (each_of I sub h2 r2)
theorem each_vals {P : Value → V × D → Prop} (hp : ∀ u p, P u p → RelV p.1 u) : ∀ {us : List Value} {ps : List (V × D)}, PySem.W.EachIs P us ps → Vals (ps.map (·.1)) us
  | _, _, .nil => .nil
  | _, _, .cons h t => .cons (hp _ _ h) (each_vals hp t)
theorem dpa_of {F : Hp} {K : PySem.W.Frag} : ∀ {ps : List (V × D)}, (∀ p ∈ ps, Dp K F p.1 p.2) → DpAll K F (ps.map (·.1)) (ps.map (·.2))
  | [], _ => .nil
  | p :: ps, h => .cons (h p List.mem_cons_self) (dpa_of fun q hq => h q (List.mem_cons_of_mem _ hq))
theorem each_mem {P : Value → V × D → Prop} : ∀ {us : List Value} {ps : List (V × D)}, PySem.W.EachIs P us ps → ∀ p ∈ ps, ∃ u, P u p
  | _, _, .nil, _, h => by cases h
  | _, _, .cons h t, p, hp => by
    rcases List.mem_cons.mp hp with rfl | hp
    · exact ⟨_, h⟩
    · exact each_mem t p hp
theorem each_mono {P P' : Value → V × D → Prop} (hp : ∀ u p, P u p → P' u p) : ∀ {us : List Value} {ps : List (V × D)}, PySem.W.EachIs P us ps → PySem.W.EachIs P' us ps
  | _, _, .nil => .nil
  | _, _, .cons h t => .cons (hp _ _ h) (each_mono hp t)
theorem map_snd_zip {vs : List V} {ds : List D} (h : vs.length = ds.length) : (vs.zip ds).map (·.2) = ds := by
  rw [show (fun p : V × D => p.2) = Prod.snd from rfl, List.map_snd_zip (by omega)]
theorem cr_sorted (ro : Room k X.A) : CalR X (.builtin "sorted") fSorted := by
  intro pins s σ H xs us Q I r q
  obtain ⟨L, h, ds, c, hr, rs, e, q⟩ := q
  unfold fSorted at e
  split at e
  · split at e
    · rename_i ds hz
      cases e
      obtain ⟨v, rfl, r1⟩ := dr1 rs
      obtain ⟨a, vs, rfl, s1, d1⟩ := r1.list hr
      obtain ⟨its, rv, hl, hsz⟩ := I.list s1
      have hun := ro.un
      have hlen := DpAll.length d1
      unfold sortOk at hz
      simp only [Bool.and_eq_true, Bool.or_eq_true, List.all_eq_true, decide_eq_true_eq] at hz
      obtain ⟨⟨z1, z2⟩, z3⟩ := hz
      rw [Vals.ref1 r]
      have ea := each_of I hr.sub d1 rv
      have em : (vs.zip ds).map (fun p => p.2) = ds := map_snd_zip hlen
      refine PySem.W.sorted_data (R := fun u p => RelV p.1 u) (bs := vs.zip ds) (enc := fun p => p.2) hl.isList (each_mono (fun _ _ z => z.1) ea) (each_mono (fun _ _ z => z.2.2) ea)
        (by rw [em]; exact fun d hd d' hd' => alikeAll_of z1 d hd d' hd') ?_ ?_ ?_ fun out ho hout => ?_
      · rw [em]
        rcases z2 with z2 | z2
        · refine .inl fun d hd => ?_
          have := z2 d hd
          unfold isTup1 at this
          split at this
          · exact ⟨_, _, rfl⟩
          · cases this
        · refine .inr fun d hd => ?_
          have := z2 d hd
          unfold isFlatSort at this
          split at this
          · cases this
          · cases this
          · rename_i n1 n2
            exact ⟨n1, n2⟩
      · rw [List.length_zip, hlen, Nat.min_self]
        rw [hlen] at hsz
        exact hsz
      · intro p hp
        have hm : p.2 ∈ ds := by
          have := List.mem_map_of_mem (f := fun p : V × D => p.2) hp
          rw [em] at this
          exact this
        have := z3 p.2 hm
        omega
      · generalize hps : (vs.zip ds).mergeSort (PySem.W.dataLe false fun p => p.2) = ps at hout
        have perm : ps.Perm (vs.zip ds) := by rw [← hps]; exact List.mergeSort_perm _ _
        have hd : ∀ p ∈ ps, Dp X.K L.F p.1 p.2 := fun p hp => by
          obtain ⟨u, h1, h2, _⟩ := each_mem ea p (perm.mem_iff.mp hp)
          exact h2
        have e2 : ps.map (·.2) = sortD ds := by
          rw [← hps]
          unfold sortD
          have e3 := PySem.W.sort_maps (r := PySem.W.dataLe false fun p : V × D => p.2) (s := PySem.W.dataLe false id) (fun p : V × D => p.2) (l := vs.zip ds) (fun _ _ _ _ => rfl)
          rw [em] at e3
          exact e3
        have hv := each_vals (P := fun u (p : V × D) => RelV p.1 u) (fun _ _ z => z) hout
        have dd := dpa_of hd
        rw [e2] at dd
        obtain ⟨ep, he'⟩ := PyProof.Rows.sortedAll_at s.heap its out.toArray
        have hzz : (ps.map (·.1)).length ≤ sizeLine := by
          rw [List.length_map, perm.length_eq, List.length_zip, hlen, Nat.min_self]
          rw [hlen] at hsz
          exact hsz
        exact ⟨.ref _, upd H (s.heap.objs.size + 1) (.lst (ps.map (·.1))), I.laid (t' := s.toks) (fun _ _ => PyProof.Rows.sortedAll_old) (Nat.le_succ _) ⟨hzz, out, ep, hv, he'⟩, rfl, q.lst hr dd (I.hok.fresh (Nat.le_succ _))⟩
    · cases e
  · split at e
    · rename_i ds hz
      cases e
      obtain ⟨v, rfl, r1⟩ := dr1 rs
      obtain ⟨a, vs, rfl, s1, d1⟩ := r1.tuple hr
      obtain ⟨its, rv, hl, hsz⟩ := I.tuple s1
      have hun := ro.un
      have hlen := DpAll.length d1
      unfold sortOk at hz
      simp only [Bool.and_eq_true, Bool.or_eq_true, List.all_eq_true, decide_eq_true_eq] at hz
      obtain ⟨⟨z1, z2⟩, z3⟩ := hz
      rw [Vals.ref1 r]
      have ea := each_of I hr.sub d1 rv
      have em : (vs.zip ds).map (fun p => p.2) = ds := map_snd_zip hlen
      refine sorted_dataT (R := fun u p => RelV p.1 u) (bs := vs.zip ds) (enc := fun p => p.2) hl (each_mono (fun _ _ z => z.1) ea) (each_mono (fun _ _ z => z.2.2) ea)
        (by rw [em]; exact fun d hd d' hd' => alikeAll_of z1 d hd d' hd') ?_ ?_ ?_ fun out ho hout => ?_
      · rw [em]
        rcases z2 with z2 | z2
        · refine .inl fun d hd => ?_
          have := z2 d hd
          unfold isTup1 at this
          split at this
          · exact ⟨_, _, rfl⟩
          · cases this
        · refine .inr fun d hd => ?_
          have := z2 d hd
          unfold isFlatSort at this
          split at this
          · cases this
          · cases this
          · rename_i n1 n2
            exact ⟨n1, n2⟩
      · rw [List.length_zip, hlen, Nat.min_self]
        rw [hlen] at hsz
        exact hsz
      · intro p hp
        have hm : p.2 ∈ ds := by
          have := List.mem_map_of_mem (f := fun p : V × D => p.2) hp
          rw [em] at this
          exact this
        have := z3 p.2 hm
        omega
      · generalize hps : (vs.zip ds).mergeSort (PySem.W.dataLe false fun p => p.2) = ps at hout
        have perm : ps.Perm (vs.zip ds) := by rw [← hps]; exact List.mergeSort_perm _ _
        have hd : ∀ p ∈ ps, Dp X.K L.F p.1 p.2 := fun p hp => by
          obtain ⟨u, h1, h2, _⟩ := each_mem ea p (perm.mem_iff.mp hp)
          exact h2
        have e2 : ps.map (·.2) = sortD ds := by
          rw [← hps]
          unfold sortD
          have e3 := PySem.W.sort_maps (r := PySem.W.dataLe false fun p : V × D => p.2) (s := PySem.W.dataLe false id) (fun p : V × D => p.2) (l := vs.zip ds) (fun _ _ _ _ => rfl)
          rw [em] at e3
          exact e3
        have hv := each_vals (P := fun u (p : V × D) => RelV p.1 u) (fun _ _ z => z) hout
        have dd := dpa_of hd
        rw [e2] at dd
        obtain ⟨ep, he'⟩ := PyProof.Rows.sortedAll_at s.heap its out.toArray
        have hzz : (ps.map (·.1)).length ≤ sizeLine := by
          rw [List.length_map, perm.length_eq, List.length_zip, hlen, Nat.min_self]
          rw [hlen] at hsz
          exact hsz
        exact ⟨.ref _, upd H (s.heap.objs.size + 1) (.lst (ps.map (·.1))), I.laid (t' := s.toks) (fun _ _ => PyProof.Rows.sortedAll_old) (Nat.le_succ _) ⟨hzz, out, ep, hv, he'⟩, rfl, q.lst hr dd (I.hok.fresh (Nat.le_succ _))⟩
    · cases e
  · cases e
end

/-! ### isinstance(x, T) -/
def isaD : String → D → Option Bool
  | "int", d => some d.isInt
  | "bool", d => some d.isBool
  | "str", d => some d.isStr
  | "tuple", d => some d.isTuple
  | "list", d => some d.isList
  | _, _ => none
def mIsa (T : String) (m : M) : M := fun ρ h => (m ρ h).bind fun w h1 => match rd w h1 with
  | some d => (match isaD T d with
    | some b => .ok (.d (.bool b)) h1
    | none => .stuck)
  | none => .stuck
section
variable {X : Cx} {Wx : WX} {e : Expr} {p p2 pos : Pos} {m : M}
def rIsa (K : PySem.W.Frag) (mg : Str → Option Value) (T : String) : List V → Hp → VK → Prop := fun vs H Q => ∃ x L h d b, vs = [x, .ty T] ∧ HRel K mg L H h ∧ DRel K L H x d ∧ isaD T d = some b ∧ Q (.bl b) H
theorem cr_isa (T : String) : CallR X (.builtin "isinstance") (rIsa X.K X.mg T) := by
  intro pins s σ H xs us Q I r q
  obtain ⟨x, L, h, d, b, rfl, hr, rx, e, q⟩ := q
  obtain ⟨u1, u2, rfl, r1, r2⟩ := vals2 r
  cases (show u2 = Value.type T from r2)
  obtain ⟨_, as, rd⟩ := rx.reads I hr r1
  unfold isaD at e
  split at e
  · cases e; exact PySem.W.isinstance_int_data rd fun tk _ => ⟨.bl _, H, I.tok _, rfl, q⟩
  · cases e; exact PySem.W.isinstance_bool_data rd fun tk _ => ⟨.bl _, H, I.tok _, rfl, q⟩
  · cases e; exact PySem.W.isinstance_str_data rd fun tk _ => ⟨.bl _, H, I.tok _, rfl, q⟩
  · cases e; exact PySem.W.isinstance_tuple_data rd fun tk _ => ⟨.bl _, H, I.tok _, rfl, q⟩
  · cases e; exact PySem.W.isinstance_list_data rd fun tk _ => ⟨.bl _, H, I.tok _, rfl, q⟩
  · cases e
theorem je_isa {T : String} {x : Str} (hg : Gl X "isinstance") (hm : X.mg "isinstance" = none) (hg2 : Gl X x) (hm2 : X.mg x = none) (hv2 : bootBuiltins x = some (.type T)) (he : JE X Wx e m)
    (hs : starEach [e, .Name x p2] X.env = (false, eval e X.env) :: starEach [.Name x p2] X.env := by rfl) (hpl : (backTo pos (starEach [.Name x p2] X.env)).any (·.1) = false := by rfl)
    (hn : x ≠ "__name__" := by decide) (hd : (x == ("__debug__" : Str)) = false := by decide) :
    JE X Wx (.Call (.Name "isinstance" p) [e, .Name x p2] [] pos) (mIsa T m) :=
  peI (pe_callB (cr_isa T) hg hm (by decide +kernel) (pa_cons he (pa_cons (pe_bltn (v := .ty T) hg2 hm2 hv2 rfl hn hd) pa_nil) hs) (he := hs) (hpl := hpl)) fun σ H Q ⟨L, ρ, h, hr, er, s⟩ => ⟨L, ρ, h, hr, er, s.bind fun v H1 L1 w h1 le1 hr1 r1 s1 => by
    split at s1
    · rename_i d ed
      split at s1
      · rename_i b eb
        exact ⟨v, L1, h1, d, b, rfl, hr1, rd_rel hr1 r1 ed, eb, s1.ok hr1 (.d (.bl b))⟩
      · exact s1.elim
    · exact s1.elim⟩
end
end Dw
/-! Dw: subscripts, slices, lists and dicts that change -/
namespace Dw
variable [LamTab]
open PySem PySem.Spec PyProof.Rows L2 HT
section
variable {prog : Program} {w : World} {A : Around} {E : Value → Shared → Prop} {s : Shared}
theorem getItem_tuple_whole {t sl : Addr} {items : Array Value} {vl vu : Value} {lo hi : Option Int} {Q : Value → Shared → Prop} (ht : IsTup s.heap t items) (hs : s.heap.IsSliceOf sl vl vu .none) (pl : IsPart vl lo) (pu : IsPart vu hi)
    (hw : sIx items.size 0 lo = 0 ∧ sIx items.size items.size hi = items.size)
    (h : Q (.ref t) s) : wpAny (model prog w) A (getItem (.ref t) (.ref sl)) Q E s := by
  obtain ⟨os, hos, hcs, hds⟩ := id hs
  have hTs : s.TypeIs (.ref sl) "slice" := ⟨os, hos, hcs⟩
  unfold getItem
  try with_reducible refine wpAny_holding ?_
  first | refine wpAny_bind (wpAny_pure ?_) | skip
  refine wpAny_bind (wpAny_sequenceKey ht.typeIs (by decide) ?_)
  refine wpAny_bind (wpAny_callSpecial?_slot (name := Str.ofString "__getitem__") ht.typeIs PyProof.Rows.slot_tuple_getitem
    (wpAny_call_entry PyProof.Rows.slot_tuple_getitem ht.typeIs entry_tuple_getitem ?_ (args_tuple_getitem _ _)))
  show wpAny _ _ (Builtin.Tuple.tupleItemsOf (.ref t) >>= _) _ _ s
  refine wpAny_bind (tupleItemsOf_ ht ?_)
  refine wpAny_bind (wpAny_typeOf hTs ?_)
  rw [if_pos (by decide)]
  refine wpAny_bind (sliceApplied_gen hs pl pu ?_)
  have hyes : ((((sIx items.size 0 lo : Nat) : Int) == 0 && (1 : Int) == 1 && (sIx items.size items.size hi - sIx items.size 0 lo) == items.size) = true) := by
    rw [hw.1, hw.2]; simp
  show wpAny _ _ (if (((sIx items.size 0 lo : Nat) : Int) == 0 && (1 : Int) == 1 && (sIx items.size items.size hi - sIx items.size 0 lo) == items.size) = true then _ else _) _ _ s
  rw [if_pos hyes]
  refine wpAny_bind (m := Builtin.Tuple.tupleIsExact _) (wpAny_bind (wpAny_typeOf ht.typeIs ?_))
  refine wpAny_pure ?_
  rw [if_pos (by decide)]
  refine wpAny_bind (wpAny_rule ?_)
  exact wpAny_pure ⟨_, rfl, wpAny_pure h⟩
end

/-! ### e[i], e[a:b] -/
def fIx : D → D → Option D
  | .list ds, .int i => atI ds i
  | .tuple ds, .int i => atI ds i
  | .str x, .int i => if x.length ≤ sizeLine then (atI x.cps.toList i).map fun c => .str ⟨#[c]⟩ else none
  | _, _ => none
def cutD (xs : List D) (lo hi : Option Int) : List D := (xs.drop (HT.sIx xs.length 0 lo)).take (HT.sIx xs.length xs.length hi - HT.sIx xs.length 0 lo)
def fSl (d : D) (lo hi : Option Int) : Option D := match d with
  | .list ds => some (.list (cutD ds lo hi))
  | .tuple ds => some (.tuple (cutD ds lo hi))
  | .str x => if x.length ≤ sizeLine then some (.str (cutS x lo hi)) else none
  | _ => none
theorem DpAll.atI {K : PySem.W.Frag} {F : Hp} {ds : List D} {vs : List V} {i : Int} {d : D} (h : DpAll K F vs ds) (e : L2.atI ds i = some d) : ∃ v, L2.atI vs i = some v ∧ Dp K F v d := by
  unfold L2.atI at e ⊢
  rw [DpAll.length h]
  cases q : ixN ds.length i with
  | none => rw [q] at e; cases e
  | some j =>
    rw [q] at e
    obtain ⟨v, a, b⟩ := DpAll.at h (show ds[j]? = some d from e)
    exact ⟨v, a, b⟩
section
variable {X : Cx} {Wx : WX} {a b e : Expr} {pos : Pos} {ma mb m : M}
theorem ix_pure : IxR X (rP2 X.K X.mg fIx) := by
  intro value slice pins s σ H x y v u Q I rx ry q hs
  obtain ⟨L, h, a, b, c, hr, ra, rb, e, q⟩ := q
  unfold fIx at e
  split at e
  · obtain ⟨p, vs, rfl, s1, d1⟩ := ra.list hr
    obtain ⟨v1, e1, r1⟩ := DpAll.atI d1 e
    exact ix_seq value slice pins s σ H _ y v u Q I rx ry (.inl ⟨p, vs, _, v1, rfl, rb.int, s1, e1, q.here hr r1⟩) hs
  · obtain ⟨p, vs, rfl, s1, d1⟩ := ra.tuple hr
    obtain ⟨v1, e1, r1⟩ := DpAll.atI d1 e
    exact ix_seq value slice pins s σ H _ y v u Q I rx ry (.inr (.inl ⟨p, vs, _, v1, rfl, rb.int, s1, e1, q.here hr r1⟩)) hs
  · split at e
    · simp only [Option.map_eq_some_iff] at e
      obtain ⟨c, ec, rfl⟩ := e
      exact ix_seq value slice pins s σ H _ y v u Q I rx ry (.inr (.inr ⟨_, _, c, ra.str, rb.int, by assumption, ec, q.here hr (.str _)⟩)) hs
    · cases e
  · cases e
theorem PE.or {t t' : TE} (h : PE X e t) (h' : PE X e t') : PE X e (fun σ H Q => t σ H Q ∨ t' σ H Q) :=
  ⟨fun pins s σ H Q I q => q.elim (h.run pins s σ H Q I) (h'.run pins s σ H Q I)⟩
/-- a key of a dict -/
def keyD : D → Option Key
  | .int i => some (.inl i)
  | .str x => some (.inr x)
  | _ => none
def valD {κ : Type} [DecidableEq κ] (kvs : List (κ × D)) (k : κ) : Option D := (kvs.find? fun kv => decide (kv.1 = k)).map (·.2)
def putD {κ : Type} [DecidableEq κ] (kvs : List (κ × D)) (k : κ) (v : D) : List (κ × D) :=
  if (kvs.any fun kv => decide (kv.1 = k)) = true then kvs.map (fun kv => if kv.1 = k then (kv.1, v) else kv) else kvs ++ [(k, v)]
theorem keyD_v {K : PySem.W.Frag} {L : Ly} {H : Hp} {v : V} {d : D} {k : Key} (r : DRel K L H v d) (e : keyD d = some k) : v = kV k := by
  unfold keyD at e
  split at e
  · cases e; exact r.int
  · cases e; exact r.str
  · cases e
theorem KRel.val {K : PySem.W.Frag} {F : Hp} {κ : Type} [DecidableEq κ] {vs : List (κ × V)} {ds : List (κ × D)} (r : KRel K F vs ds) (k : κ) : match valD ds k with
    | some d => ∃ v, valV vs k = some v ∧ Dp K F v d
    | none => valV vs k = none := by
  unfold KRel at r
  induction r with
  | nil => exact rfl
  | cons h t ih =>
    rename_i p q ps qs
    obtain ⟨e, rp⟩ := h
    by_cases hk : q.1 = k
    · have e1 : valD (q :: qs) k = some q.2 := by simp [valD, List.find?_cons, hk]
      rw [e1]
      exact ⟨p.2, valV_pos (e.trans hk), rp⟩
    · have e1 : valD (q :: qs) k = valD qs k := by simp [valD, List.find?_cons, hk]
      rw [e1, valV_neg (by rw [e]; exact hk)]
      exact ih
theorem KRel.put {K : PySem.W.Frag} {F : Hp} {κ : Type} [DecidableEq κ] {vs : List (κ × V)} {ds : List (κ × D)} (r : KRel K F vs ds) (k : κ) {v : V} {d : D} (rv : Dp K F v d) : KRel K F (putK vs k v) (putD ds k d) := by
  have ha : (vs.any fun kv => decide (kv.1 = k)) = (ds.any fun kv => decide (kv.1 = k)) := by
    unfold KRel at r
    induction r with
    | nil => rfl
    | cons h t ih => rw [List.any_cons, List.any_cons, ih, h.1]
  have hm : KRel K F (vs.map fun kv => if kv.1 = k then (kv.1, v) else kv) (ds.map fun kv => if kv.1 = k then (kv.1, d) else kv) := by
    clear ha
    unfold KRel at r ⊢
    induction r with
    | nil => exact .nil
    | cons h t ih =>
      rename_i p q ps qs
      refine .cons ?_ ih
      show (if p.1 = k then (p.1, v) else p).1 = (if q.1 = k then (q.1, d) else q).1 ∧ Dp K F (if p.1 = k then (p.1, v) else p).2 (if q.1 = k then (q.1, d) else q).2
      by_cases hk : q.1 = k
      · rw [if_pos hk, if_pos (h.1.trans hk)]
        exact ⟨h.1, rv⟩
      · rw [if_neg hk, if_neg (by rw [h.1]; exact hk)]
        exact h
  have hn : KRel K F (vs ++ [(k, v)]) (ds ++ [(k, d)]) := by
    clear ha hm
    unfold KRel at r ⊢
    induction r with
    | nil => exact .cons ⟨rfl, rv⟩ .nil
    | cons h t ih => exact .cons h ih
  unfold putK putD
  rw [ha]
  split
  · exact hm
  · exact hn
/-- a subscript: of a dict that may change, or of what is read -/
def ixW (x y : W) (h : MH) : Res W := match x with
  | .ref i => (match h[i]? with
    | some (.dk kvs) => (match (rd y h).bind keyD with
      | some k => (match valD kvs k with
        | some d => .ok (.d d) h
        | none => .stuck)
      | none => .stuck)
    | _ => op2 fIx x y h)
  | _ => op2 fIx x y h
def mIx (ma mb : M) : M := fun ρ h => (ma ρ h).bind fun x h1 => (mb ρ h1).bind fun y h2 => ixW x y h2
def isDk (x : W) (h : MH) : Bool := match x with
  | .ref i => (match h[i]? with
    | some (.dk _) => true
    | _ => false)
  | _ => false
theorem ixW_no {x y : W} {h : MH} (n : isDk x h = false) : ixW x y h = op2 fIx x y h := by
  unfold isDk at n
  unfold ixW
  split
  · rename_i i
    split
    · rename_i kvs e
      simp only [e] at n
      cases n
    · rfl
  · rfl
/-- two values are reckoned, then what is wanted of both -/
theorem two_read {K : PySem.W.Frag} {mg : Str → Option Value} {f : W → W → MH → Res W} {σ : L2.St} {H : Hp} {Q : VK} {t1 t2 : V → V → Hp → Prop} (c : W → MH → Bool)
    (g1 : ∀ L H h x y v u, HRel K mg L H h → WRel K L v x → WRel K L u y → c x h = true → Sat K mg (WRel K) L (f x y h) Q (fun c d H' => Wx c d σ H') → t1 v u H)
    (g2 : ∀ L H h x y v u, HRel K mg L H h → WRel K L v x → WRel K L u y → c x h = false → Sat K mg (WRel K) L (f x y h) Q (fun c d H' => Wx c d σ H') → t2 v u H)
    (t : tM K mg Wx (fun ρ h => (ma ρ h).bind fun x h1 => (mb ρ h1).bind fun y h2 => f x y h2) σ H Q) :
    (tM K mg Wx ma σ H fun v H1 => tM K mg Wx mb σ H1 fun u H2 => t1 v u H2) ∨ (tM K mg Wx ma σ H fun v H1 => tM K mg Wx mb σ H1 fun u H2 => t2 v u H2) := by
  obtain ⟨L, ρ, h, hr, er, s⟩ := t
  have s : Sat K mg (WRel K) L ((ma ρ h).bind fun x h1 => (mb ρ h1).bind fun y h2 => f x y h2) Q (fun c d H' => Wx c d σ H') := s
  cases qa : ma ρ h with
  | stuck => rw [qa] at s; exact s.elim
  | exc c h1 =>
    rw [qa] at s
    exact .inl ⟨L, ρ, h, hr, er, by rw [qa]; exact s⟩
  | ok x h1 =>
    rw [qa] at s
    have s : Sat K mg (WRel K) L ((mb ρ h1).bind fun y h2 => f x y h2) Q (fun c d H' => Wx c d σ H') := s
    cases qb : mb ρ h1 with
    | stuck => rw [qb] at s; exact s.elim
    | exc c h2 =>
      rw [qb] at s
      refine .inl ⟨L, ρ, h, hr, er, ?_⟩
      rw [qa]
      intro v H1 L1 le1 hr1 r1
      refine ⟨L1, ρ, h1, hr1, er.mono le1, ?_⟩
      rw [qb]
      exact fun cls dd H2 L2 ei le2 => s cls dd H2 L2 ei (le1.trans le2)
    | ok y h2 =>
      rw [qb] at s
      cases hc : c x h2 with
      | true =>
        refine .inl ⟨L, ρ, h, hr, er, ?_⟩
        rw [qa]
        intro v H1 L1 le1 hr1 r1
        refine ⟨L1, ρ, h1, hr1, er.mono le1, ?_⟩
        rw [qb]
        intro u H2 L2 le2 hr2 r2
        exact g1 L2 H2 h2 x y v u hr2 (WRel.mono le2 _ _ r1) r2 hc (Sat.mono (le1.trans le2) s)
      | false =>
        refine .inr ⟨L, ρ, h, hr, er, ?_⟩
        rw [qa]
        intro v H1 L1 le1 hr1 r1
        refine ⟨L1, ρ, h1, hr1, er.mono le1, ?_⟩
        rw [qb]
        intro u H2 L2 le2 hr2 r2
        exact g2 L2 H2 h2 x y v u hr2 (WRel.mono le2 _ _ r1) r2 hc (Sat.mono (le1.trans le2) s)
theorem je_ix (hu : X.A.units + 1 < cLine) (ha : JE X Wx a ma) (hb : JE X Wx b mb) (hp : PlainIx b) (hs : NoSl b) : JE X Wx (.Subscript a b pos) (mIx ma mb) :=
  peI (PE.or (pe_dget hu ha hb hs) (pe_ix ix_pure ha hb hp)) fun σ H Q t => two_read isDk (f := ixW)
    (t1 := fun v u H2 => ∃ a v', v = .ref a ∧ DGet H2 a u (some v') ∧ Q v' H2) (t2 := fun v u H2 => rP2 X.K X.mg fIx v u H2 Q)
    (fun L H h x y v u hr rx ry hc s => by
      unfold isDk at hc
      split at hc
      · rename_i i
        split at hc
        · rename_i kvs ei
          unfold ixW at s
          simp only [ei] at s
          split at s
          · rename_i k ek
            split at s
            · rename_i d ed
              cases rx with
              | ref rx =>
                cases hr.obj i _ _ rx ei with
                | dk o1 o2 =>
                  rename_i vs
                  obtain ⟨dy, ey1, ey2⟩ := Option.bind_eq_some_iff.mp ek
                  have kv := keyD_v (rd_rel hr ry ey1) ey2
                  have z := o2.val k
                  rw [ed] at z
                  obtain ⟨v', z1, z2⟩ := z
                  refine ⟨_, v', rfl, ?_, s.ok hr (.d z2)⟩
                  rw [kv, ← z1]
                  exact DGet.k o1
            · exact s.elim
          · exact s.elim
        · cases hc
      · cases hc)
    (fun L H h x y v u hr rx ry hc s => by
      rw [ixW_no hc] at s
      exact op2_sat hr rx ry s) t
/-! slices -/
def mSl (m : M) (lo hi : Option M) : M := fun ρ h => (m ρ h).bind fun w h1 =>
  (match lo with
   | none => Res.ok (none : Option Int) h1
   | some l => (l ρ h1).bind fun x h2 => match x with
     | .d (.int i) => .ok (some i) h2
     | _ => .stuck).bind fun l h2 =>
  (match hi with
   | none => Res.ok (none : Option Int) h2
   | some u => (u ρ h2).bind fun x h3 => match x with
     | .d (.int i) => .ok (some i) h3
     | _ => .stuck).bind fun u h3 =>
  match rd w h3 with
  | some d => (match fSl d l u with
    | some c => .ok (.d c) h3
    | none => .stuck)
  | none => .stuck
def mPart (o : Option M) : ME → MH → Res (Option Int) := fun ρ h1 => match o with
   | none => Res.ok (none : Option Int) h1
   | some l => (l ρ h1).bind fun x h2 => match x with
     | .d (.int i) => .ok (some i) h2
     | _ => .stuck
def ORelI (_ : Ly) (a b : Option Int) : Prop := a = b
def tMO (K : PySem.W.Frag) (mg : Str → Option Value) (Wx : WX) (m : ME → MH → Res (Option Int)) : TO := fun σ H Q => ∃ L ρ h, HRel K mg L H h ∧ ERel K L σ ρ ∧ Sat K mg ORelI L (m ρ h) Q (fun c d H' => Wx c d σ H')
theorem poI {o : Option Expr} {t t' : TO} (h : PO X o t) (i : ∀ σ H Q, t' σ H Q → t σ H Q) : PO X o t' := ⟨fun pins s σ H Q I q => h.run pins s σ H Q I (i σ H Q q)⟩
theorem jo_none : PO X none (tMO X.K X.mg Wx (mPart none)) := poI po_none fun σ H Q ⟨L, ρ, h, hr, er, s⟩ => s _ _ L (Ly.le.refl _) hr rfl
theorem jo_some (he : JE X Wx e m) : PO X (some e) (tMO X.K X.mg Wx (mPart (some m))) := poI (po_some he) fun σ H Q ⟨L, ρ, h, hr, er, s⟩ => ⟨L, ρ, h, hr, er, Sat.bind (R' := ORelI) s fun v H1 L1 x h1 le1 hr1 r1 s1 => by
  split at s1
  · rename_i i
    exact ⟨i, int_of r1, s1 _ _ L1 (Ly.le.refl _) hr1 rfl⟩
  · exact s1.elim⟩
theorem DpAll.cut {K : PySem.W.Frag} {F : Hp} {ds : List D} {vs : List V} (h : DpAll K F vs ds) (lo hi : Option Int) : DpAll K F (cutV vs lo hi) (cutD ds lo hi) := by
  unfold cutV cutD
  rw [DpAll.length h]
  exact DpAll.take _ (DpAll.drop _ h)
theorem je_slice {lo hi : Option Expr} {ml mh : Option M} {p2 : Pos} (he : JE X Wx e m) (hl : PO X lo (tMO X.K X.mg Wx (mPart ml))) (hh : PO X hi (tMO X.K X.mg Wx (mPart mh))) : JE X Wx (.Subscript e (.Slice lo hi none p2) pos) (mSl m ml mh) := by
  have base : SlR X (fun x lo hi H Q => ∃ L h d c, HRel X.K X.mg L H h ∧ DRel X.K L H x d ∧ fSl d lo hi = some c ∧ PSat X.K X.mg L h c Q) := by
    intro pins s σ H x v vl vu lo hi sl Q I rx hs pl pu q
    obtain ⟨L, h, d, c, hr, rd', e, q⟩ := q
    unfold fSl at e
    split at e
    · cases e
      obtain ⟨p, vs, rfl, s1, d1⟩ := rd'.list hr
      exact sl_list pins s σ H _ v vl vu lo hi sl Q I rx hs pl pu ⟨p, vs, rfl, s1, fun a na => q.lst hr (DpAll.cut d1 lo hi) na⟩
    · rename_i ds
      cases e
      obtain ⟨p, vs, rfl, s1, d1⟩ := rd'.tuple hr
      by_cases hw : sIx vs.length 0 lo = 0 ∧ sIx vs.length vs.length hi = vs.length
      · cases rx
        obtain ⟨its, r, ht, hz⟩ := I.tuple s1
        have hlen : its.toArray.size = vs.length := by rw [List.size_toArray]; exact r.length.symm
        refine ⟨"tuple", _, PyProof.Rows.slot_tuple_getitem.lookup, ht.typeIs, getItem_tuple_whole ht hs pl pu (by rw [hlen]; exact hw) ⟨.ref p, H, I, rfl, ?_⟩⟩
        have : cutD ds lo hi = ds := by
          unfold cutD
          rw [← DpAll.length d1, hw.1, hw.2]
          simp [DpAll.length d1]
        rw [this] at q
        cases rd' with
        | pure r1 => exact q.here hr r1
      · cases rx
        obtain ⟨its, rv, ht, hz⟩ := I.tuple s1
        have hlen : its.toArray.size = vs.length := by rw [List.size_toArray]; exact rv.length.symm
        refine ⟨"tuple", _, PyProof.Rows.slot_tuple_getitem.lookup, ht.typeIs, getItem_tuple_cut ht hs pl pu (by rw [hlen]; exact hw) ?_ (by rw [hlen]; exact hz)⟩
        rw [hlen]
        exact ⟨.ref s.heap.objs.size, _, inv_tup (t' := s.toks) (xs := cutV vs lo hi) I ((rv.drop (HT.sIx vs.length 0 lo)).take (HT.sIx vs.length vs.length hi - HT.sIx vs.length 0 lo)) (Nat.le_trans (cutV_length vs lo hi) hz), rfl, q.tup hr (DpAll.cut d1 lo hi) (I.hok.fresh (Nat.le_refl _)) _ rfl⟩
    · split at e
      · cases e
        cases rd'.str
        exact sl_str pins s σ H _ v vl vu lo hi sl Q I rx hs pl pu ⟨_, rfl, by assumption, q.here hr (.str _)⟩
      · cases e
    · cases e
  exact peI (pe_slice base he hl hh) fun σ H Q ⟨L, ρ, h, hr, er, s⟩ => ⟨L, ρ, h, hr, er, s.bind fun v H1 L1 w h1 le1 hr1 r1 s1 =>
    ⟨L1, ρ, h1, hr1, er.mono le1, Sat.bind (r := mPart ml ρ h1) s1 fun l H2 L2 l' h2 le2 hr2 r2 s2 => by
      cases (show l = l' from r2)
      exact ⟨L2, ρ, h2, hr2, er.mono (le1.trans le2), Sat.bind (r := mPart mh ρ h2) s2 fun u H3 L3 u' h3 le3 hr3 r3 s3 => by
        cases (show u = u' from r3)
        split at s3
        · rename_i d ed
          split at s3
          · rename_i c ec
            exact ⟨L3, h3, d, c, hr3, rd_rel hr3 (WRel.mono (le2.trans le3) _ _ r1) ed, ec, fun v' H' L' le' hr' rc => s3 v' H' L' le' hr' (.d rc)⟩
          · exact s3.elim
        · exact s3.elim⟩⟩⟩
end

/-! ### lists that change -/
def isLst (x : W) (h : MH) : Bool := match x with
  | .ref i => (match h[i]? with
    | some (.lst _) => true
    | _ => false)
  | _ => false
theorem isLst_of {x : W} {h : MH} (e : isLst x h = true) : ∃ i ds, x = .ref i ∧ h[i]? = some (.lst ds) := by
  unfold isLst at e
  split at e
  · rename_i i
    split at e
    · rename_i ds e2
      exact ⟨i, ds, rfl, e2⟩
    · cases e
  · cases e
/-- o.m(..): the receiver is looked at, then the arguments come -/
def mMet (c : W → MH → Bool) (op : W → List W → MH → Res W) (m : M) (ms : MA) : M := fun ρ h => (m ρ h).bind fun x h1 => if c x h1 = true then (ms ρ h1).bind fun ws h2 => op x ws h2 else .stuck
theorem met_read {K : PySem.W.Frag} {mg : Str → Option Value} {Wx : WX} {T : String} {r : V → List V → Hp → VK → Prop} {c : W → MH → Bool} {op : W → List W → MH → Res W} {m : M} {ms : MA} {σ : L2.St} {H : Hp} {Q : VK}
    (hc : ∀ L H h v x, HRel K mg L H h → WRel K L v x → c x h = true → tyV K T v H)
    (ho : ∀ L H h v x vs ws, HRel K mg L H h → WRel K L v x → WRels K L vs ws → Sat K mg (WRel K) L (op x ws h) Q (fun c d H' => Wx c d σ H') → r v vs H Q)
    (t : tM K mg Wx (mMet c op m ms) σ H Q) : tBM K T r (tM K mg Wx m) (tMA K mg Wx ms) σ H Q := by
  obtain ⟨L, ρ, h, hr, er, s⟩ := t
  refine ⟨L, ρ, h, hr, er, s.bind fun v H1 L1 x h1 le1 hr1 r1 s1 => ?_⟩
  split at s1
  · rename_i hl
    exact ⟨hc L1 H1 h1 v x hr1 r1 hl, L1, ρ, h1, hr1, er.mono le1, s1.bind fun vs H2 L2 ws h2 le2 hr2 r2 s2 => ho L2 H2 h2 v x vs ws hr2 (WRel.mono le2 _ _ r1) r2 s2⟩
  · exact s1.elim
theorem tyV_lst {K : PySem.W.Frag} {mg : Str → Option Value} {L : Ly} {H : Hp} {h : MH} {v : V} {x : W} (hr : HRel K mg L H h) (r : WRel K L v x) (e : isLst x h = true) : tyV K "list" v H := by
  obtain ⟨i, ds, rfl, ei⟩ := isLst_of e
  cases r with
  | ref r =>
    cases hr.obj i _ _ r ei with
    | lst o1 o2 => exact .inl ⟨rfl, _, SqL.of o1⟩
/-- xs.append(e) -/
def oApp (x : W) (ws : List W) (h : MH) : Res W := match x, ws with
  | .ref i, [.d d] => (match h[i]? with
    | some (.lst ds) => if ds.length < sizeLine then .ok (.d .none) (h.set i (.lst (ds ++ [d]))) else .stuck
    | _ => .stuck)
  | _, _ => .stuck
theorem app_ho {K : PySem.W.Frag} {mg : Str → Option Value} {L : Ly} {H : Hp} {h : MH} {v : V} {x : W} {vs : List V} {ws : List W} {Q : VK} {E : XK} (hr : HRel K mg L H h) (r : WRel K L v x) (rs : WRels K L vs ws) (s : Sat K mg (WRel K) L (oApp x ws h) Q E) : rAppend v vs H Q := by
  unfold oApp at s
  split at s
  · rename_i i d
    split at s
    · rename_i ds ei
      split at s
      · rename_i hz
        cases r with
        | ref r =>
          cases rs with
          | cons r1 r2 =>
            cases r2
            cases r1 with
            | d r1 =>
              cases hr.obj i _ _ r ei with
              | lst o1 o2 =>
                exact ⟨_, _, _, rfl, rfl, o1, by rw [DpAll.length o2]; exact hz, s _ _ L (Ly.le.refl _) (hr.put r (.lst upd_same (DpAll.append o2 (.cons r1 .nil)))) (.d .non)⟩
      · exact s.elim
    · exact s.elim
  · exact s.elim
/-- xs.extend(ys), any list that is read -/
def oExt (x : W) (ws : List W) (h : MH) : Res W := match x, ws with
  | .ref i, [w] => (match h[i]?, rd w h with
    | some (.lst ds), some (.list es) => if ds.length + es.length ≤ sizeLine then .ok (.d .none) (h.set i (.lst (ds ++ es))) else .stuck
    | _, _ => .stuck)
  | _, _ => .stuck
theorem list_extendW (l : Addr) (items : Array Value) (n : Nat) (b : Addr) (items2 : Array Value) (n2 : Nat) (dd2 : Option Addr) (sl2 : Array (Option Value)) (hc0 : ¬(!items.isEmpty && Builtin.List.listTooLong (items.size + items2.size)) = true) (hc1 : items.size ≤ sizeLine) (hs2 : items.size + items2.size ≤ sizeLine + 1) :
    Meets (Builtin.«list.extend» ⟨[.ref l, .ref b], []⟩) (fun _ R s => s.heap.get? l = some { cls := .type "list", dict := none, data := .seq items n, slots := #[] } ∧ s.heap.get? b = some { cls := .type "list", dict := dd2, data := .seq items2 n2, slots := sl2 } ∧ R (.ok (.ret Value.none)) { s with heap := s.heap.update l (Obj.mapSeq fun x => x ++ items2), toks := s.toks }) :=
  .of_wp fun prog w A R s h => by
    obtain ⟨hp, g, d, tk, os⟩ := s; obtain ⟨hl, hb, h⟩ := h; have f1 := AutoSeq1.idx_int; have f2 := AutoSeq1.sub_tuple_tuple; have f3 := AutoSeq1.sub_list_list; have f4 := AutoSeq1.sub_tuple_list; have f5 := AutoSeq1.sub_list_tuple;
    have hz' : (items ++ items2).size ≤ sizeLine + 1 := by rw [Array.size_append]; exact hs2
    wp_walk using (wpAny_updateSeq hl rfl (hz := hc1) (_hz' := hz')), AutoSeq1.wpAny_loadPart' hl, AutoSeq1.wpAny_loadPart' hb; exact ⟨_, rfl, h⟩
def rExt2 (K : PySem.W.Frag) : V → List V → Hp → VK → Prop := fun x vs H Q => ∃ l b xs zs, x = .ref l ∧ vs = [.ref b] ∧ H l = some (.lst xs) ∧ SqL K H b zs ∧ xs.length + zs.length ≤ sizeLine ∧ Q .non (upd H l (.lst (xs ++ zs)))
section
variable {X : Cx}
theorem mt_ext2 : MtR X "list.extend" (rExt2 X.K) := by
  intro pins s σ H x vs v us Q I rx rv h
  obtain ⟨l, b, xs, zs, rfl, rfl, hH, hB, hz, q⟩ := h
  cases rx
  obtain ⟨u, rfl, ru⟩ := rv.one
  cases ru
  obtain ⟨z, its, n, r, hl, e⟩ := I.lstM hH
  obtain ⟨its2, r2, ⟨⟨cls2, dd2, data2, sl2⟩, n2, ho2, hc2, hdn, hd2⟩, hl2⟩ := I.list hB
  simp only at hc2 hd2
  subst hc2 hd2
  have l2 := r2.length
  have hsz : its.toArray.size + its2.toArray.size ≤ sizeLine := by rw [List.size_toArray, List.size_toArray]; omega
  have hlong : ¬ (!its.toArray.isEmpty && Builtin.List.listTooLong (its.toArray.size + its2.toArray.size)) = true := by
    rw [notLongL hsz, Bool.and_false]
    exact Bool.false_ne_true
  refine call_meets F.slot_list_extend ⟨_, e, rfl⟩ F.entry_list_extend (F.args_list_extend_2 _ _)
    (list_extendW l its.toArray n b its2.toArray n2 dd2 sl2 hlong (by rw [List.size_toArray]; omega) (by omega)) ⟨e, ho2, ?_⟩
  refine ⟨.non, _, I.lset (its' := its ++ its2) hH e (by simp) (r.append r2) ?_, rfl, q⟩
  rw [List.length_append]
  omega
end
theorem ext_ho {K : PySem.W.Frag} {mg : Str → Option Value} {L : Ly} {H : Hp} {h : MH} {v : V} {x : W} {vs : List V} {ws : List W} {Q : VK} {E : XK} (hr : HRel K mg L H h) (r : WRel K L v x) (rs : WRels K L vs ws) (s : Sat K mg (WRel K) L (oExt x ws h) Q E) : rExt2 K v vs H Q := by
  unfold oExt at s
  split at s
  · rename_i i w
    split at s
    · rename_i ds es ei ew
      split at s
      · rename_i hz
        cases r with
        | ref r =>
          cases rs with
          | cons r1 r2 =>
            cases r2
            obtain ⟨b, zs, rfl, s1, d1⟩ := (rd_rel hr r1 ew).list hr
            cases hr.obj i _ _ r ei with
            | lst o1 o2 =>
              exact ⟨_, b, _, zs, rfl, rfl, o1, s1, by rw [DpAll.length o2, DpAll.length d1]; exact hz, s _ _ L (Ly.le.refl _) (hr.put r (.lst upd_same (DpAll.append o2 d1))) (.d .non)⟩
      · exact s.elim
    · exact s.elim
  · exact s.elim
/-- xs.count(d) -/
def seqDs (w : W) (h : MH) : Option (List D) := match rd w h with
  | some (.list ds) => some ds
  | _ => none
def isLstR (x : W) (h : MH) : Bool := (seqDs x h).isSome
theorem tyV_lstR {K : PySem.W.Frag} {mg : Str → Option Value} {L : Ly} {H : Hp} {h : MH} {v : V} {x : W} (hr : HRel K mg L H h) (r : WRel K L v x) (e : isLstR x h = true) : tyV K "list" v H := by
  unfold isLstR seqDs at e
  split at e
  · rename_i ds ed
    obtain ⟨a, vs, rfl, s1, d1⟩ := (rd_rel hr r ed).list hr
    exact .inl ⟨rfl, _, s1⟩
  · cases e
def oCnt (x : W) (ws : List W) (h : MH) : Res W := match seqDs x h, ws with
  | some ds, [w] => (match rd w h with
    | some d => if min (PyData.depthAll ds) d.depth ≤ 100 then .ok (.d (.int ((ds.countP fun y => PyData.eqv y d : Nat) : Int))) h else .stuck
    | none => .stuck)
  | _, _ => .stuck
def rCnt (K : PySem.W.Frag) (mg : Str → Option Value) : V → List V → Hp → VK → Prop := fun x vs H Q => ∃ L h ds u d, HRel K mg L H h ∧ DRel K L H x (.list ds) ∧ vs = [u] ∧ DRel K L H u d ∧ min (PyData.depthAll ds) d.depth ≤ 100 ∧ Q (.int ((ds.countP fun y => PyData.eqv y d : Nat) : Int)) H
section
variable {X : Cx} {k : Nat}
theorem mt_cnt (ro : Room k X.A) : MtR X "list.count" (rCnt X.K X.mg) := by
  intro pins s σ H x vs v us Q I rx rv h
  obtain ⟨L, h, ds, u, d, hr, rd1, rfl, rd2, hz, q⟩ := h
  obtain ⟨u', rfl, ru⟩ := rv.one
  obtain ⟨a, vs, rfl, s1, d1⟩ := rd1.list hr
  cases rx
  obtain ⟨its, rv', pl, _⟩ := I.list s1
  obtain ⟨as, ra⟩ := Dp.readsAll I _ _ its (DpAll.sub hr.sub _ _ d1) rv'
  obtain ⟨pd, bs, rb⟩ := rd2.reads I hr ru
  have hun := ro.un
  exact SeqAt.count_list_data pl.isList (by simpa using ra) rb (DpAll.plain _ _ d1) pd (by omega) ⟨.int _, H, I.tok _, ⟨_, rfl⟩, q⟩
end
theorem cnt_ho {K : PySem.W.Frag} {mg : Str → Option Value} {L : Ly} {H : Hp} {h : MH} {v : V} {x : W} {vs : List V} {ws : List W} {Q : VK} {E : XK} (hr : HRel K mg L H h) (r : WRel K L v x) (rs : WRels K L vs ws) (s : Sat K mg (WRel K) L (oCnt x ws h) Q E) : rCnt K mg v vs H Q := by
  unfold oCnt at s
  split at s
  · rename_i ds w e
    split at s
    · rename_i d ed
      split at s
      · rename_i hz
        cases rs with
        | cons r1 r2 =>
          cases r2
          unfold seqDs at e
          split at e
          · rename_i ds' e'
            cases e
            exact ⟨L, h, ds, _, d, hr, rd_rel hr r e', rfl, rd_rel hr r1 ed, hz, s.ok hr (.d (.int _))⟩
          · cases e
      · exact s.elim
    · exact s.elim
  · exact s.elim
section
variable {X : Cx} {Wx : WX} {o e : Expr} {es : List Expr} {pos apos : Pos} {m : M} {ms : MA} {k : Nat}
/-- a method of a list with arguments -/
theorem je_met {name : Str} {id : String} {r : V → List V → Hp → VK → Prop} {c : W → MH → Bool} {op : W → List W → MH → Res W} (slot : Slot "list" name id) (hty : typeOf (.builtin id) = pure (.type "method_descriptor")) (hm : MtR X id r)
    (hc : ∀ L H h v x, HRel X.K X.mg L H h → WRel X.K L v x → c x h = true → tyV X.K "list" v H)
    (hop : ∀ L H h v x vs ws Q E, HRel X.K X.mg L H h → WRel X.K L v x → WRels X.K L vs ws → Sat X.K X.mg (WRel X.K) L (op x ws h) Q E → r v vs H Q)
    (ho : JE X Wx o m) (ha : JA X Wx (e :: es) ms) (hbase : attributeBase o name X.env (eval o X.env) = eval o X.env := by rfl)
    (hfew : ((backTo pos (starEach (e :: es) X.env)).all (fun x => !x.1) && (backToKw pos (keywordEach [] X.env)).all (fun x => x.1.isSome)
      && decide ((e :: es).length + ([] : List Keyword).length + (if ([] : List Keyword).isEmpty then 0 else 1) < 30)) = true := by rfl)
    (hline : (apos.endLine == pos.line) = true := by rfl) (hs : starEach (e :: es) X.env = (false, eval e X.env) :: starEach es X.env := by rfl) (hpl : (backTo pos (starEach es X.env)).any (·.1) = false := by rfl) :
    JE X Wx (.Call (.Attribute o name apos) (e :: es) [] pos) (mMet c op m ms) :=
  peI (pe_bm PySem.F.plainAttrs_list slot hty hm ho ha hbase hfew hline hs hpl) fun σ H Q t => met_read hc (fun L H h v x vs ws a b c d => hop L H h v x vs ws Q _ a b c d) t
end

/-! ### dicts that change -/
section
variable {X : Cx} {Wx : WX} {o i e : Expr} {pos pos' : Pos} {mo mi m : M}
def mDict : M := fun _ h => .ok (.ref h.length) (h ++ [.dk []])
theorem je_dict : JE X Wx (.Dict [] [] pos) mDict := peI pe_dnewK fun σ H Q ⟨L, ρ, h, hr, er, s⟩ p np => by
  obtain ⟨le, hr'⟩ := hr.new (u := .dK []) (o := .dk []) np (.dk upd_same .nil)
  refine s _ _ _ le hr' (.ref ?_)
  show (L.mu ++ [p])[h.length]? = some p
  rw [← hr.len]
  simp
/-- d[k] = v, xs[i] = v -/
def putW (x y : W) (d : W) (h : MH) : Option MH := match x, d with
  | .ref i, .d d => (match h[i]? with
    | some (.dk kvs) => (match (rd y h).bind keyD with
      | some k => if kvs.length < sizeLine then some (h.set i (.dk (putD kvs k d))) else none
      | none => none)
    | some (.lst ds) => (match rd y h with
      | some (.int k) => (match ixN ds.length k with
        | some j => some (h.set i (.lst (ds.set j d)))
        | none => none)
      | _ => none)
    | _ => none)
  | _, _ => none
def mPut (mo mi m : M) : MS := fun ρ h => (m ρ h).toS ρ fun w h1 => (mo ρ h1).toS ρ fun x h2 => (mi ρ h2).toS ρ fun y h3 => match putW x y w h3 with
  | some h4 => .nx ρ h4
  | none => .stuck
theorem PSet.or {t t' : TSet} (a : PSet X t) (b : PSet X t') : PSet X (fun o i v H Q => t o i v H Q ∨ t' o i v H Q) := fun pins s σ H o i v ov iv u Q I r1 r2 r3 q =>
  q.elim (a pins s σ H o i v ov iv u Q I r1 r2 r3) (b pins s σ H o i v ov iv u Q I r1 r2 r3)
theorem js_put (hu : X.A.units + 1 < cLine) (ho : JE X Wx o mo) (hi : JE X Wx i mi) (he : JE X Wx e m) (hs : swapsWithSole [.Subscript o i pos'] e pos.line X.env = pure false := by rfl) (hw : swappedStores [.Subscript o i pos'] e X.env = pure none := by rfl)
    (h1 : (assignEach [.Subscript o i pos'] X.env).map (·.2) = [assign (.Subscript o i pos') X.env] := by rfl)
    (ha : ∀ v, assign (.Subscript o i pos') X.env v = (do
      let ov ← holding [v] (eval o X.env)
      let iv ← holding [v, ov] (eval i X.env)
      standAt pos'
      holding [v, ov, iv] (setItem ov iv v)
      release [v, ov, iv] []) := by intro _; rfl) :
    JS X Wx (.Assign [.Subscript o i pos'] e pos) (mPut mo mi m) :=
  psI (ps_asg he (pg_sub ho hi (PSet.or set_list (set_dict hu)) ha) hs hw h1) fun D σ H ⟨L, ρ, h, hr, er, s⟩ => ⟨L, ρ, h, hr, er, Sat.toS er s fun v H1 L1 w h1 le1 hr1 r1 s1 =>
    ⟨L1, ρ, h1, hr1, er.mono le1, Sat.toS (er.mono le1) s1 fun u H2 L2 x h2 le2 hr2 r2 s2 =>
      ⟨L2, ρ, h2, hr2, er.mono (le1.trans le2), Sat.toS (er.mono (le1.trans le2)) s2 fun t H3 L3 y h3 le3 hr3 r3 s3 => by
        split at s3
        · rename_i h4 e4
          have rw1 := WRel.mono (le2.trans le3) _ _ r1
          have rx := WRel.mono le3 _ _ r2
          unfold putW at e4
          split at e4
          · rename_i j d
            split at e4
            · rename_i kvs ej
              split at e4
              · rename_i k ek
                split at e4
                · rename_i hz
                  cases e4
                  cases rx with
                  | ref rx =>
                    cases rw1 with
                    | d rw1 =>
                      cases hr3.obj j _ _ rx ej with
                      | dk o1 o2 =>
                        rename_i vs
                        obtain ⟨dy, ey1, ey2⟩ := Option.bind_eq_some_iff.mp ek
                        have kv := keyD_v (rd_rel hr3 r3 ey1) ey2
                        subst kv
                        have hl : vs.length = kvs.length := Paired.length o2
                        exact .inr ⟨_, _, rfl, DPut.k o1 (by rw [hl]; exact hz), s3 _ _ L3 (Ly.le.refl _) (hr3.put rx (.dk upd_same (o2.put k rw1))) (er.mono (le1.trans (le2.trans le3)))⟩
                · cases e4
              · cases e4
            · rename_i ds ej
              split at e4
              · rename_i k ek
                split at e4
                · rename_i jx ejx
                  cases e4
                  cases rx with
                  | ref rx =>
                    cases rw1 with
                    | d rw1 =>
                      cases hr3.obj j _ _ rx ej with
                      | lst o1 o2 =>
                        rename_i vs
                        have ky := (rd_rel hr3 r3 ek).int
                        subst ky
                        have hl : vs.length = ds.length := DpAll.length o2
                        exact .inl ⟨_, vs, k, jx, rfl, rfl, o1, by rw [hl]; exact ejx, s3 _ _ L3 (Ly.le.refl _) (hr3.put rx (.lst upd_same (DpAll.set rw1 jx o2))) (er.mono (le1.trans (le2.trans le3)))⟩
                · cases e4
              · cases e4
            · cases e4
          · cases e4
        · exact s3.elim⟩⟩⟩
end
end Dw
/-! Dw: defs, calls, the end of a law -/
namespace Dw
variable [LamTab]
open PySem PySem.Spec PyProof.Rows L2

mutual
/-- the places that are named lie below n -/
def W.blw (n : Nat) : W → Bool
  | .d _ => true
  | .ref i => decide (i < n)
  | .tup ws => W.blwAll n ws
  | .clo _ ws => W.blwAll n ws
def W.blwAll (n : Nat) : List W → Bool
  | [] => true
  | w :: ws => W.blw n w && W.blwAll n ws
end
def MO.blw (n : Nat) : MO → Bool
  | .ins _ fs => fs.all fun p => W.blw n p.2
  | _ => true
/-- what stood before is as it was, or names nothing new -/
def Okt (h h' : MH) : Prop := h.length ≤ h'.length ∧ ∀ (i : Nat) (o : MO), i < h.length → h'[i]? = some o → h[i]? = some o ∨ o.blw h.length = true
def Ly.cut (L : Ly) (n : Nat) : Ly := { L with mu := L.mu.take n }
mutual
theorem WRel.cut {K : PySem.W.Frag} {L : Ly} {n : Nat} : ∀ (w : W) (v : V), WRel K L v w → w.blw n = true → WRel K (L.cut n) v w
  | .d x, _, h, _ => by
    cases h with
    | d h => exact .d h
  | .ref i, _, h, b => by
    cases h with
    | ref h =>
      refine .ref ?_
      have b : i < n := of_decide_eq_true b
      show (L.mu.take n)[i]? = _
      rw [List.getElem?_take_of_lt b]
      exact h
  | .tup ws, _, h, b => by
    cases h with
    | tup h1 h2 => exact .tup h1 (WRels.cut ws _ h2 b)
  | .clo k ws, _, h, b => by
    cases h with
    | clo h1 h2 h3 h4 h5 => exact .clo h1 h2 h3 h4 (WRels.cut ws _ h5 b)
theorem WRels.cut {K : PySem.W.Frag} {L : Ly} {n : Nat} : ∀ (ws : List W) (vs : List V), WRels K L vs ws → W.blwAll n ws = true → WRels K (L.cut n) vs ws
  | [], _, h, _ => by cases h; exact .nil
  | w :: ws, _, h, b => by
    cases h with
    | cons h1 h2 =>
      have b : (W.blw n w && W.blwAll n ws) = true := b
      simp only [Bool.and_eq_true] at b
      exact .cons (WRel.cut w _ h1 b.1) (WRels.cut ws _ h2 b.2)
theorem WRel.lt {K : PySem.W.Frag} {L : Ly} : ∀ (w : W) (v : V), WRel K L v w → w.blw L.mu.length = true
  | .d x, _, _ => rfl
  | .ref i, _, h => by
    cases h with
    | ref h => exact decide_eq_true (List.getElem?_eq_some_iff.mp h).1
  | .tup ws, _, h => by
    cases h with
    | tup h1 h2 => exact WRels.lt ws _ h2
  | .clo k ws, _, h => by
    cases h with
    | clo h1 h2 h3 h4 h5 => exact WRels.lt ws _ h5
theorem WRels.lt {K : PySem.W.Frag} {L : Ly} : ∀ (ws : List W) (vs : List V), WRels K L vs ws → W.blwAll L.mu.length ws = true
  | [], _, _ => rfl
  | w :: ws, _, h => by
    cases h with
    | cons h1 h2 =>
      show (W.blw _ w && W.blwAll _ ws) = true
      rw [WRel.lt w _ h1, WRels.lt ws _ h2]
      rfl
end
theorem FRel.lt {K : PySem.W.Frag} {L : Ly} {vs : List (Str × V)} {fs : List (Str × W)} (r : FRel K L vs fs) : (fs.all fun p => W.blw L.mu.length p.2) = true := by
  unfold FRel at r
  induction r with
  | nil => rfl
  | cons h t ih => rw [List.all_cons, ih, WRel.lt _ _ h.2]; rfl
theorem FRel.cut {K : PySem.W.Frag} {L : Ly} {n : Nat} {vs : List (Str × V)} {fs : List (Str × W)} (r : FRel K L vs fs) (b : (fs.all fun p => W.blw n p.2) = true) : FRel K (L.cut n) vs fs := by
  unfold FRel at r ⊢
  induction r with
  | nil => exact .nil
  | cons h t ih =>
    rw [List.all_cons, Bool.and_eq_true] at b
    exact .cons ⟨h.1, WRel.cut _ _ h.2 b.1⟩ (ih b.2)
section
variable {K : PySem.W.Frag} {mg : Str → Option Value}
theorem HRel.cut {L L' : Ly} {H H' : Hp} {h h' : MH} (hr : HRel K mg L H h) (le : L.le L') (hr' : HRel K mg L' H' h') (ok : Okt h h') : L.le (L'.cut h.length) ∧ HRel K mg (L'.cut h.length) H' (h'.take h.length) := by
  obtain ⟨t, ht⟩ := le.m
  have em : (L'.cut h.length).mu = L.mu := by
    show L'.mu.take h.length = L.mu
    rw [← ht, ← hr.len, List.take_left]
  have sub : ∀ a, a ∈ (L'.cut h.length).mu → a ∈ L'.mu := fun a ha => List.mem_of_mem_take ha
  refine ⟨⟨le.f, by rw [em]; exact List.prefix_refl _, le.p, le.c⟩, ⟨hr'.sub, fun p hp => ?_, hr'.pnd, ?_, ?_, fun a ha => hr'.fr a (sub a ha), fun p hp => ?_, hr'.tab, fun i a o e e2 => ?_, hr'.cnt, hr'.fx⟩⟩
  · obtain ⟨h1, h2, h3⟩ := hr'.pin p hp
    exact ⟨h1, h2, fun z => h3 (sub _ z)⟩
  · rw [em, List.length_take, hr.len]
    have := ok.1
    omega
  · rw [em]; exact hr.nd
  · obtain ⟨h1, h2⟩ := hr'.cpin p hp
    exact ⟨h1, h2.imp id fun ⟨h2, h3, h4⟩ => ⟨h2, fun z => h3 (sub _ z), h4⟩⟩
  · rw [em] at e
    have hi : i < h.length := by rw [← hr.len]; exact (List.getElem?_eq_some_iff.mp e).1
    rw [List.getElem?_take_of_lt hi] at e2
    have e' := le.at e
    have ob := hr'.obj i a o e' e2
    cases ob with
    | lst o1 o2 => exact .lst o1 o2
    | dk o1 o2 => exact .dk o1 o2
    | dt o1 o2 => exact .dt o1 o2
    | ins o0 o1 o2 o3 =>
      refine .ins o0 o1 (o2.cut ?_) o3
      rcases ok.2 i _ hi e2 with z | z
      · cases hr.obj i a _ e z with
        | ins q0 q1 q2 q3 =>
          have := q2.lt
          rw [hr.len] at this
          exact this
      · exact z
end
abbrev FSpec := List W → MH → Res W
section
open Classical
/-- what a def hands back: lists of its own are handed over as they are, what else it made is forgotten -/
noncomputable def retW (h : MH) (w : W) (h' : MH) : Res W :=
  if Okt h h' then (match w with
    | .d x => .ok (.d x) (h'.take h.length)
    | .ref i => if h.length ≤ i then (match h'[i]? with
      | some (.lst ds) => .ok (.d (.list ds)) (h'.take h.length)
      | _ => .ok w h') else .ok w h'
    | _ => .ok w h') else .ok w h'
noncomputable def excW (h : MH) (c : Str) (h' : MH) : Res W := if Okt h h' then .exc c (h'.take h.length) else .exc c h'
noncomputable def mFn (n : Nat) (body : MS) : FSpec := fun ws h =>
  match body (ws.map some ++ List.replicate (n - ws.length) none) h with
  | .nx _ h' => retW h (.d .none) h'
  | .rt w h' => retW h w h'
  | .exc c _ h' => excW h c h'
  | _ => .stuck
end
/-- the promise of a def -/
def spF (K : PySem.W.Frag) (mg : Str → Option Value) (n : Nat) (f : FSpec) : Sp := fun vs H Q E => vs.length = n ∧ ∃ L h ws, HRel K mg L H h ∧ WRels K L vs ws ∧ Sat K mg (WRel K) L (f ws h) Q E
section
variable {K : PySem.W.Frag} {mg : Str → Option Value} {L L' : Ly} {H H' : Hp} {h h' : MH} {w : W} {v : V} {Q : VK} {E : XK}
theorem ret_sat (hr : HRel K mg L H h) (s : Sat K mg (WRel K) L (retW h w h') Q E) (le : L.le L') (hr' : HRel K mg L' H' h') (rv : WRel K L' v w) : Q v H' := by
  unfold retW at s
  split at s
  · rename_i ok
    obtain ⟨le2, hr2⟩ := hr.cut le hr' ok
    cases w with
    | d x =>
      cases rv with
      | d rv => exact s v H' _ le2 hr2 (.d rv)
    | tup ws => exact s v H' L' le hr' rv
    | clo k ws => exact s v H' L' le hr' rv
    | ref i =>
      simp only at s
      split at s
      · rename_i hi
        split at s
        · rename_i ds ei
          cases rv with
          | ref rv =>
            rename_i a
            cases hr'.obj i a _ rv ei with
            | lst o1 o2 =>
              rename_i vs
              -- the list is frozen
              have na : a ∉ (L'.cut h.length).mu := fun z => by
                obtain ⟨j, hj⟩ := List.getElem?_of_mem z
                have hjl : j < h.length := by
                  have := (List.getElem?_eq_some_iff.mp hj).1
                  have z : (L'.mu.take h.length).length ≤ h.length := by rw [List.length_take]; exact Nat.min_le_left _ _
                  exact Nat.lt_of_lt_of_le this z
                have hj' : (L'.mu.take h.length)[j]? = some a := hj
                rw [List.getElem?_take_of_lt hjl] at hj'
                have := nd_ix hr'.nd hj' rv
                omega
              have fa : L'.F a = none := hr'.fr a (List.mem_of_getElem? rv)
              have np : ∀ p ∈ L'.P, p.1 ≠ a := fun p hp z => (hr'.pin p hp).2.2 (z ▸ List.mem_of_getElem? rv)
              have fs : ∀ b u, L'.F b = some u → upd L'.F a (.lst vs) b = some u := fun b u z => by
                rw [upd_ne (fun q => by rw [q, fa] at z; cases z)]
                exact z
              refine s (.ref a) H' ⟨upd L'.F a (.lst vs), (L'.cut h.length).mu, L'.P, L'.C⟩ ⟨fun b u z => fs b u (le2.f b u z), le2.m, le2.p, le2.c⟩ ⟨fun b u e => ?_, fun p hp => ?_, hr2.pnd, hr2.len, hr2.nd, fun b hb => ?_, fun p hp => ?_, fun t ht => ⟨(hr2.tab t ht).1, ?_, (hr2.tab t ht).2.2⟩, fun j b o e e2 => ?_, hr2.cnt, fun b u e => ?_⟩ (.d (.lst (SqL.of upd_same) (DpAll.sub fs _ _ o2)))
              · have e : upd L'.F a (.lst vs) b = some u := e
                by_cases hb : b = a
                · subst hb
                  rw [upd_same] at e
                  cases e
                  exact o1
                · rw [upd_ne hb] at e
                  exact hr'.sub b u e
              · obtain ⟨h1, h2, h3⟩ := hr2.pin p hp
                refine ⟨h1, ?_, h3⟩
                show upd L'.F a (.lst vs) p.1 = none
                rw [upd_ne (np p hp)]
                exact h2
              · show upd L'.F a (.lst vs) b = none
                have hne : b ≠ a := fun z => na (z ▸ hb)
                rw [upd_ne hne]
                exact hr2.fr b hb
              · obtain ⟨h1, h2⟩ := hr2.cpin p hp
                refine ⟨h1, ?_⟩
                rcases (hr'.cpin p hp).2 with z | ⟨k2, k3, k4⟩
                · exact .inl z
                · refine .inr ⟨?_, fun z => ?_, k4⟩
                  · show upd L'.F a (.lst vs) p.1 = none
                    have hpa : p.1 ≠ a := fun z => k3 (z ▸ List.mem_of_getElem? rv)
                    rw [upd_ne hpa]
                    exact k2
                  · exact k3 (List.mem_of_mem_take (show p.1 ∈ L'.mu.take h.length from z))
              · show upd L'.F a (.lst vs) t.2.1 = none
                have hta : t.2.1 ≠ a := fun z => by
                  obtain ⟨ps, e, _⟩ := (hr2.tab t ht).1
                  rw [z, o1] at e
                  cases e
                rw [upd_ne hta]
                exact (hr2.tab t ht).2.1
              · exact (hr2.obj j b o e e2).mono (L := L'.cut h.length) (L' := ⟨upd L'.F a (.lst vs), (L'.cut h.length).mu, L'.P, L'.C⟩) ⟨fs, List.prefix_refl _, fun _ z => z⟩ rfl
              · have e : upd L'.F a (.lst vs) b = some u := e
                by_cases hb : b = a
                · subst hb
                  rw [upd_same] at e
                  cases e
                  exact good_lst _
                · rw [upd_ne hb] at e
                  exact hr2.fx b u e
        · exact s v H' L' le hr' rv
      · exact s v H' L' le hr' rv
  · exact s v H' L' le hr' rv
theorem exc_sat {c : Str} {cls : Value} {dd : Option Addr} (hr : HRel K mg L H h) (s : Sat K mg (WRel K) L (excW h c h') Q E) (le : L.le L') (hr' : HRel K mg L' H' h') (ei : ExcIs mg c cls) : E cls dd H' := by
  unfold excW at s
  split at s
  · rename_i ok
    obtain ⟨le2, hr2⟩ := hr.cut le hr' ok
    exact s cls dd H' _ ei le2 hr2
  · exact s cls dd H' L' ei le hr'
theorem start_rel : ∀ {vs : List V} {ws : List W} (n : Nat), WRels K L vs ws → vs.length ≤ n → ERel K L (vs.map some ++ List.replicate (n - vs.length) none) (ws.map some ++ List.replicate (n - ws.length) none) := by
  intro vs ws n r hn
  have hl := r.length
  refine ⟨by simp [hl], fun i w e => ?_⟩
  by_cases hi : i < ws.length
  · rw [List.getElem?_append_left (by simpa using hi), List.getElem?_map] at e
    rw [List.getElem?_append_left (by rw [List.length_map, hl]; exact hi), List.getElem?_map]
    have go : ∀ {vs : List V} {ws : List W} {i : Nat} {w : W}, WRels K L vs ws → ws[i]? = some w → ∃ v, vs[i]? = some v ∧ WRel K L v w := by
      intro vs ws
      induction ws generalizing vs with
      | nil => intro i w _ e; simp at e
      | cons x xs ih =>
        intro i w r e
        cases r with
        | cons r1 r2 =>
          cases i with
          | zero => simp at e; subst e; exact ⟨_, rfl, r1⟩
          | succ i =>
            obtain ⟨v, a, b⟩ := ih r2 (by simpa using e)
            exact ⟨v, by simpa using a, b⟩
    cases q : ws[i]? with
    | none => rw [q] at e; cases e
    | some x =>
      rw [q] at e
      cases e
      obtain ⟨v, a, b⟩ := go r q
      exact ⟨v, by rw [a]; rfl, b⟩
  · rw [List.getElem?_append_right (by simpa using hi), List.getElem?_replicate] at e
    split at e <;> cases e
end
/-- a def of the text that keeps its promise, by its name -/
structure FSt (P : Program) (w : World) (K : PySem.W.Frag) (mg : Str → Option Value) (base : Heap) (k : Nat) (x : Str) (n : Nat) (m : FSpec) : Prop where
  ex : ∃ f fd ps, mg x = some (.ref f) ∧ PySem.W.keepIn K (.ref f) = true ∧ Binds K fd ps [] ∧ FnOk P w K mg base (L2.CX P w) k f fd ps (spF K mg n m)
section
variable {P : Program} {w : World} {K : PySem.W.Frag} {mg : Str → Option Value} {base : Heap}
theorem fnok_of {x qual : Str} {st : Stmt} {f : Addr} {fd : FuncData} {N ps : List Str} {k n : Nat} {mb : MS} (F : Fun K x qual st f fd) (S : FnScope N ps (defScope st)) (hn : ps.length = n)
    (hbody : ∀ (cdv : Value) (A : Around) (outer : List Env) (s : Shared) (H : Hp) (E : XK), Room k (A.deeper (envOfC qual (defScope st) s.heap.objs.size f cdv)) →
      JSs (cxOf (L2.CX P w) P w K mg base N qual (defScope st) f cdv A outer s H E) (fun cls d _ H' => E cls d H') (defBody st) mb) : FnOk P w K mg base (L2.CX P w) (k + 1) f fd ps (spF K mg n (mFn N.length mb)) := by
  refine F.okX S (fun vs H Q E h => h.1.trans hn.symm) fun cdv A outer s H vs Q E hr h => ⟨_, hbody cdv A outer s H E hr, ?_⟩
  obtain ⟨hl, L, h, ws, hrl, rw', s⟩ := h
  have hpl : vs.length ≤ N.length := by
    have := congrArg List.length S.pre
    rw [List.length_take] at this
    omega
  refine ⟨L, _, h, hrl, start_rel N.length rw' hpl, ?_⟩
  unfold mFn at s
  cases q : mb (ws.map some ++ List.replicate (N.length - ws.length) none) h with
  | nx ρ h' => rw [q] at s; exact fun σ' H' L' le hr' er => ret_sat hrl s le hr' (.d .non)
  | rt w h' => rw [q] at s; exact fun v H' L' le hr' rv => ret_sat hrl s le hr' rv
  | exc c ρ h' => rw [q] at s; exact fun cls dd σ' H' L' ei le hr' er => exc_sat hrl s le hr' ei
  | bk ρ h' => rw [q] at s; exact s.elim
  | ct ρ h' => rw [q] at s; exact s.elim
  | stuck => rw [q] at s; exact s.elim
/-- THE RULE for a def -/
theorem fst_of {x qual : Str} {st : Stmt} {f : Addr} {fd : FuncData} {N ps : List Str} {k n : Nat} {mb : MS} (F : Fun K x qual st f fd) (mgf : mg x = some (.ref f)) (b : Binds K fd ps []) (S : FnScope N ps (defScope st)) (hn : ps.length = n)
    (hbody : ∀ (cdv : Value) (A : Around) (outer : List Env) (s : Shared) (H : Hp) (E : XK), Room k (A.deeper (envOfC qual (defScope st) s.heap.objs.size f cdv)) →
      JSs (cxOf (L2.CX P w) P w K mg base N qual (defScope st) f cdv A outer s H E) (fun cls d _ H' => E cls d H') (defBody st) mb) : FSt P w K mg base (k + 1) x n (mFn N.length mb) :=
  ⟨f, fd, ps, mgf, F.kp, b, fnok_of F S hn hbody⟩
end
def mCall (f : FSpec) (ms : MA) : M := fun ρ h => (ms ρ h).bind fun ws h1 => f ws h1
section
variable {X : Cx} {Wx : WX} {x : Str} {p pos : Pos} {e : Expr} {es : List Expr} {ms : MA} {m : FSpec} {j k n : Nat}
theorem je_call (T : FSt X.prog X.w X.K X.mg X.base k x n m) (hr : Room j X.A) (hk : k ≤ j) (tk : Takes X Wx) (hg : Gl X x) (ha : JA X Wx (e :: es) ms) (hn : (e :: es).length = n := by rfl) (hdb : (x == ("__debug__" : Str)) = false := by decide)
    (he : starEach (e :: es) X.env = (false, eval e X.env) :: starEach es X.env := by rfl) (hpl : (backTo pos (starEach es X.env)).any (·.1) = false := by rfl)
    (hlen : ∀ ρ h ws h', ms ρ h = .ok ws h' → ws.length = n) : JE X Wx (.Call (.Name x p) (e :: es) [] pos) (mCall m ms) := by
  obtain ⟨f, fd, ps, mgf, kp, b, F⟩ := T.ex
  refine peI (pe_callSD (E := fun σ cls d H' => Wx cls d σ H') F (hr.mono hk) hg mgf kp b .nil (fun σ => passAt tk σ) ha hdb he hpl) fun σ H Q ⟨L, ρ, h, hrl, er, s⟩ => ⟨L, ρ, h, hrl, er, ?_⟩
  unfold mCall at s
  cases q : ms ρ h with
  | stuck => rw [q] at s; exact s.elim
  | exc c h1 => rw [q] at s; exact s
  | ok ws h1 =>
    rw [q] at s
    intro vs H1 L1 le1 hr1 r1
    rw [List.append_nil]
    exact ⟨by rw [r1.length]; exact hlen ρ h ws h1 q, L1, h1, ws, hr1, r1, Sat.mono le1 s⟩
end
/-- the arguments' number -/
theorem len_nil (ρ : ME) (h : MH) (ws : List W) (h' : MH) (e : mNil ρ h = .ok ws h') : ws.length = 0 := by cases e; rfl
theorem len_cons {m : M} {ms : MA} {n : Nat} (hms : ∀ ρ h ws h', ms ρ h = .ok ws h' → ws.length = n) (ρ : ME) (h : MH) (ws : List W) (h' : MH) (e : mCons m ms ρ h = .ok ws h') : ws.length = n + 1 := by
  unfold mCons at e
  cases q : m ρ h with
  | stuck => rw [q] at e; cases e
  | exc c h1 => rw [q] at e; cases e
  | ok w h1 =>
    rw [q] at e
    have e : ((ms ρ h1).bind fun ws h2 => Res.ok (w :: ws) h2) = .ok ws h' := e
    cases q2 : ms ρ h1 with
    | stuck => rw [q2] at e; cases e
    | exc c h1 => rw [q2] at e; cases e
    | ok us h2 =>
      rw [q2] at e
      cases e
      rw [List.length_cons, hms ρ h1 us _ q2]

/-! ### sorted(d) of a dict that may change -/
def keysI {κ : Type} : List (Key × κ) → Option (List Int)
  | [] => some []
  | (.inl i, _) :: r => (keysI r).map (i :: ·)
  | _ :: _ => none
def keysS {κ : Type} : List (Key × κ) → Option (List Str)
  | [] => some []
  | (.inr i, _) :: r => (keysS r).map (i :: ·)
  | _ :: _ => none
def leS (a b : Str) : Bool := decide (a.cps.toList ≤ b.cps.toList)
def sortI (ns : List Int) : List Int := ns.mergeSort fun a b => decide (a ≤ b)
def sortS (ns : List Str) : List Str := ns.mergeSort leS
def oSortedDict (kvs : List (Key × D)) : Option D := match keysI kvs with
  | some ns => if ns.length < 64 then some (.list ((sortI ns).map .int)) else none
  | none => match keysS kvs with
    | some ss => if ss.length < 64 then some (.list ((sortS ss).map .str)) else none
    | none => none
def dkOf (w : W) (h : MH) : Option (List (Key × D)) := match w with
  | .ref i => (match h[i]? with
    | some (.dk kvs) => some kvs
    | _ => none)
  | _ => none
def mSorted (ms : MA) : M := fun ρ h => (ms ρ h).bind fun ws h1 => match ws with
  | [w] => (match dkOf w h1 with
    | some kvs => (match oSortedDict kvs with
      | some d => .ok (.d d) h1
      | none => .stuck)
    | none => opn fSorted [w] h1)
  | _ => .stuck
theorem keysI_map {K : PySem.W.Frag} {F : Hp} {vs : List (Key × V)} {ds : List (Key × D)} {ns : List Int} (r : KRel K F vs ds) (e : keysI ds = some ns) : vs.map (·.1) = ns.map Sum.inl := by
  unfold KRel at r
  induction r generalizing ns with
  | nil => cases e; rfl
  | cons h t ih =>
    rename_i p q ps qs
    obtain ⟨k, d⟩ := q
    cases k with
    | inr _ => simp [keysI] at e
    | inl i =>
      simp only [keysI, Option.map_eq_some_iff] at e
      obtain ⟨r, e1, rfl⟩ := e
      rw [List.map_cons, ih e1, h.1]
      rfl
theorem keysS_map {K : PySem.W.Frag} {F : Hp} {vs : List (Key × V)} {ds : List (Key × D)} {ns : List Str} (r : KRel K F vs ds) (e : keysS ds = some ns) : vs.map (·.1) = ns.map Sum.inr := by
  unfold KRel at r
  induction r generalizing ns with
  | nil => cases e; rfl
  | cons h t ih =>
    rename_i p q ps qs
    obtain ⟨k, d⟩ := q
    cases k with
    | inl _ => simp [keysS] at e
    | inr i =>
      simp only [keysS, Option.map_eq_some_iff] at e
      obtain ⟨r, e1, rfl⟩ := e
      rw [List.map_cons, ih e1, h.1]
      rfl
theorem sorted_one {ns ys : List Int} (p : ys.Perm ns) (s : ys.Pairwise (· ≤ ·)) : ys = sortI ns := by
  unfold sortI
  have p2 : ys.Perm (ns.mergeSort fun a b => decide (a ≤ b)) := p.trans (List.mergeSort_perm _ _).symm
  have s2 : (ns.mergeSort fun a b => decide (a ≤ b)).Pairwise (· ≤ ·) := (List.pairwise_mergeSort (le := fun a b => decide (a ≤ b)) (fun a b c h1 h2 => by simp at *; omega) (fun a b => by simp; omega) ns).imp (by simp)
  exact p2.eq_of_pairwise (le := (· ≤ ·)) (fun a b _ _ h1 h2 => by omega) s s2
theorem dpa_intsOf {K : PySem.W.Frag} {F : Hp} : ∀ ns : List Int, DpAll K F (ns.map V.int) (ns.map .int)
  | [] => .nil
  | n :: ns => .cons (.int n) (dpa_intsOf ns)
theorem dpa_strsOf {K : PySem.W.Frag} {F : Hp} : ∀ ns : List Str, DpAll K F (ns.map V.str) (ns.map .str)
  | [] => .nil
  | n :: ns => .cons (.str n) (dpa_strsOf ns)
end Dw
/-! Dw: calls on values that may change; the end of a law -/
namespace Dw
variable [LamTab]
open PySem PySem.Spec PyProof.Rows L2

def noExc {α : Type} : Res α → Res α
  | .exc _ _ => .stuck
  | r => r
def E00 : XK := fun _ _ _ => False
def rPW (K : PySem.W.Frag) (mg : Str → Option Value) (f : List W → MH → Res W) : List V → Hp → VK → Prop := fun vs H Q => ∃ L h ws, HRel K mg L H h ∧ WRels K L vs ws ∧ Sat K mg (WRel K) L (noExc (f ws h)) Q E00
def mCalW (f : List W → MH → Res W) (ms : MA) : M := fun ρ h => (ms ρ h).bind fun ws h1 => noExc (f ws h1)
theorem noExc_sat {K : PySem.W.Frag} {mg : Str → Option Value} {α β : Type} {R : Ly → β → α → Prop} {L : Ly} {r : Res α} {Q : β → Hp → Prop} {E E' : XK} (s : Sat K mg R L (noExc r) Q E) : Sat K mg R L (noExc r) Q E' := by
  cases r with
  | ok a h => exact s
  | exc c h => exact s
  | stuck => exact s
abbrev CalW (X : Cx) (f : Value) (g : List W → MH → Res W) : Prop := CallR X f (rPW X.K X.mg g)
section
variable {X : Cx} {Wx : WX} {x : Str} {p pos : Pos} {e : Expr} {es : List Expr} {ms : MA} {f : List W → MH → Res W} {id T : String} {k : Nat}
theorem calW_read {K : PySem.W.Frag} {mg : Str → Option Value} {σ : L2.St} {H : Hp} {Q : VK} (t : tM K mg Wx (mCalW f ms) σ H Q) : tCB (rPW K mg f) (tMA K mg Wx ms) σ H Q := by
  obtain ⟨L, ρ, h, hr, er, s⟩ := t
  exact ⟨L, ρ, h, hr, er, s.bind fun vs H1 L1 ws h1 le1 hr1 r1 s1 => ⟨L1, h1, ws, hr1, r1, noExc_sat s1⟩⟩
theorem je_callBW (hc : CalW X (.builtin id) f) (hg : Gl X x) (hm : X.mg x = none) (hv : bootBuiltins x = some (.builtin id)) (ha : JA X Wx (e :: es) ms) (hn : x ≠ "__name__" := by decide) (hdb : (x == ("__debug__" : Str)) = false := by decide)
    (he : starEach (e :: es) X.env = (false, eval e X.env) :: starEach es X.env := by rfl) (hpl : (backTo pos (starEach es X.env)).any (·.1) = false := by rfl) : JE X Wx (.Call (.Name x p) (e :: es) [] pos) (mCalW f ms) :=
  peI (pe_callB hc hg hm hv ha hn hdb he hpl) fun _ _ _ t => calW_read t
theorem je_callTW (hc : CalW X (.type T) f) (hg : Gl X x) (hm : X.mg x = none) (hv : bootBuiltins x = some (.type T)) (ha : JA X Wx (e :: es) ms) (hn : x ≠ "__name__" := by decide) (hdb : (x == ("__debug__" : Str)) = false := by decide)
    (he : starEach (e :: es) X.env = (false, eval e X.env) :: starEach es X.env := by rfl) (hpl : (backTo pos (starEach es X.env)).any (·.1) = false := by rfl) : JE X Wx (.Call (.Name x p) (e :: es) [] pos) (mCalW f ms) :=
  peI (pe_callTy hc hg hm hv ha hn hdb he hpl) fun _ _ _ t => calW_read t
/-- sorted(x) of a dict, of what is read -/
def oSorted : List W → MH → Res W
  | [w], h => (match dkOf w h with
    | some kvs => (match keysI kvs with
      | some ns => if ns.length < 64 then .ok (.d (.list ((sortI ns).map .int))) h else .stuck
      | none => .stuck)
    | none => opn fSorted [w] h)
  | _, _ => .stuck
theorem noExc_opn {f : List D → Option D} {ws : List W} {h : MH} : noExc (opn f ws h) = opn f ws h := by
  unfold opn
  split
  · split <;> rfl
  · rfl
theorem cw_sorted (hc : X.calm = true) (ro : Room k X.A) : CalW X (.builtin "sorted") oSorted := by
  intro pins s σ H xs us Q I r q
  obtain ⟨L, h, ws, hr, rw', s1⟩ := q
  unfold oSorted at s1
  split at s1
  · rename_i w h
    split at s1
    · rename_i kvs ek
      split at s1
      · rename_i ns en
        split at s1
        · rename_i hz
          cases rw' with
          | cons r1 r2 =>
            cases r2
            unfold dkOf at ek
            split at ek
            · rename_i i
              split at ek
              · rename_i kvs' ei
                cases ek
                cases r1 with
                | ref r1 =>
                  cases hr.obj i _ _ r1 ei with
                  | dk o1 o2 =>
                    refine call_sortedDI hc pins s σ H _ us Q I r ⟨_, _, ns, rfl, .inl o1, keysI_map o2 en, hz, fun ys p hp hs np => ?_⟩
                    rw [sorted_one hp hs]
                    obtain ⟨le, hr'⟩ := hr.frz (o := .lst ((sortI ns).map V.int)) np
                    exact s1 _ _ _ le hr' (.d (.lst (SqL.of (show upd L.F p (.lst ((sortI ns).map V.int)) p = _ from upd_same)) (dpa_intsOf _)))
              · cases ek
            · cases ek
        · exact s1.elim
      · exact s1.elim
    · rw [noExc_opn] at s1
      exact cr_sorted ro pins s σ H xs us Q I r (opn_sat hr rw' s1)
  · exact s1.elim
end

/-! ### the end of a law -/
def spLaw (K : PySem.W.Frag) : Sp := fun vs H Q _ => ∃ (a : Addr) (ns : List Int), vs = [.ref a] ∧ SqL K H a (ns.map V.int) ∧ ns.length ≤ 63 ∧ (∀ t ∈ LamTab.tabs, H t.2.1 = some (.tbl #[])) ∧ ∀ H', Q (.bl true) H'
open Classical in
/-- what is frozen at the start: the lists -/
noncomputable def noTbl (H : Hp) : Hp := fun b => if (∃ xs, H b = some (.lst xs)) ∨ ∃ o xs, H b = some (.frz o (.lst xs)) then H b else none
theorem noTbl_sub {H : Hp} : ∀ a o, noTbl H a = some o → H a = some o := fun a o e => by
  unfold noTbl at e
  split at e
  · exact e
  · cases e
theorem noTbl_good {H : Hp} : ∀ a o, noTbl H a = some o → GoodO o := fun a o e => by
  unfold noTbl at e
  split at e
  · rename_i h
    rcases h with ⟨xs, h⟩ | ⟨ob, xs, h⟩
    · rw [h] at e
      cases e
      exact good_lst _
    · rw [h] at e
      cases e
      exact ⟨fun _ z => (by cases z), fun _ _ z => (by cases z)⟩
  · cases e
theorem noTbl_none {H : Hp} {a : Addr} {ps : Array Value} (e : H a = some (.tbl ps)) : noTbl H a = none := by
  unfold noTbl
  rw [if_neg]
  rintro (⟨xs, z⟩ | ⟨ob, xs, z⟩)
  · rw [e] at z; cases z
  · rw [e] at z; cases z
theorem noTbl_SqL {K : PySem.W.Frag} {H : Hp} {a : Addr} {xs : List V} (h : SqL K H a xs) : SqL K (noTbl H) a xs := by
  rcases h with h | h
  · refine .inl ?_
    rcases h with h | ⟨o, h⟩
    · exact .inl (by unfold noTbl; rw [if_pos (.inl ⟨xs, h⟩)]; exact h)
    · exact .inr ⟨o, by unfold noTbl; rw [if_pos (.inr ⟨o, xs, h⟩)]; exact h⟩
  · exact .inr h
/-- what a law is to give: True at every script -/
def LawTrue (m : FSpec) : Prop := ∀ ns : List Int, ns.length ≤ 63 → ∃ h', m [.d (.list (ns.map .int))] [] = .ok (.d (.bool true)) h'
theorem law_ok {P : Program} {w : World} {K : PySem.W.Frag} {mg : Str → Option Value} {base : Heap} {k : Nat} {f : Addr} {fd : FuncData} {ps : List Str} {m : FSpec} (F : FnOk P w K mg base (L2.CX P w) k f fd ps (spF K mg 1 m)) (t : LawTrue m) :
    FnOk P w K mg base (L2.CX P w) k f fd ps (spLaw K) :=
  F.imp fun vs H Q E ⟨a, ns, e, hS, hl, hT, q⟩ => by
    subst e
    obtain ⟨h', eh⟩ := t ns hl
    have h0 : HRel K mg ⟨noTbl H, [], [], []⟩ H [] := by
      refine ⟨noTbl_sub, fun p hp => ?_, List.nodup_nil, rfl, List.nodup_nil, fun a ha => ?_, fun p hp => ?_, fun t ht => ⟨LamX.TabS.nil (hT t ht), noTbl_none (hT t ht), fun q hq => ?_⟩, fun i a o e => ?_, fun p hp => absurd (show p ∈ ([] : List (Addr × HO)) from hp) (by simp), noTbl_good⟩
      · exact absurd (show p ∈ ([] : List (Addr × HO)) from hp) (by simp)
      · exact absurd (show a ∈ ([] : List Addr) from ha) (by simp)
      · exact absurd (show p ∈ ([] : List (Addr × HO)) from hp) (by simp)
      · exact absurd (show q ∈ ([] : List (Addr × HO)) from hq) (by simp)
      · have e : ([] : List Addr)[i]? = some a := e
        simp at e
    refine ⟨rfl, ⟨noTbl H, [], [], []⟩, [], [.d (.list (ns.map .int))], h0, .cons (.d (.lst (noTbl_SqL hS) (dpa_intsOf ns))) .nil, ?_⟩
    rw [eh]
    intro v H' L' le hr rv
    cases rv with
    | d rv => cases rv; exact q H'
theorem cx_no {P : Program} {w : World} {H : Hp} {s : Shared} {e : Value} {s' : Shared} (h : L2.CX P w [] H s (fun _ _ _ => False) e s') : False := by
  obtain ⟨_, _, _, _, _, _, _, _, _, _, _, _, z⟩ := h
  exact z.elim
theorem dw_walk {l : PySem.W.OpenLaw} {k : Nat} {q : Program} {loose : List Str} {XP : (Str → Option Value) → Heap → Prop} {YP : World → Heap → Prop} {d : DefRec} {K : Params → PySem.W.Frag} {x : Str}
    (hT : LamTab.tabs = []) (hn : l.most = some 63) (hdf : d.params.defaults = []) (hr : Room k callerA)
    (hY : ∀ (w : World) (h : Heap), YP w h → (K w.params).In h)
    (F : ∀ (w : World) (mg : Str → Option Value) (fa : Addr) (h : Heap), (K w.params).In h → h.Ns mainGlobals mg → mg d.name = some (.ref fa) →
      ∃ fd : FuncData, (∀ (s : Shared) (u : Value), BindsTo s fd ⟨[u], []⟩ [(x, u)]) ∧
        ∀ base : Heap, (K w.params).In base → base.Ns mainGlobals mg → FnOk l.prog w (K w.params) mg base (L2.CX l.prog w) k fa fd [x] (spLaw (K w.params))) :
    PySem.W.WalkO q loose XP YP l.row.toRowW d [] (fun f vs => PySem.call f vs) :=
  L2.walk_of (n := 63) (k := k) (x := x) (CX := fun w => L2.CX l.prog w) (sp := fun w => spLaw (K w.params)) hn (by decide) hdf hr hY F (fun _ _ a ns hl _ hS => ⟨a, ns, rfl, hS, hl, fun t z => (by rw [hT] at z; cases z), fun _ => rfl⟩) fun _ _ _ _ _ z => cx_no z
end Dw
/-! Dw: more small rules -/
namespace Dw
variable [LamTab]
open PySem PySem.Spec PyProof.Rows L2

/-! ### comparisons give a truth -/
abbrev IsB (f : D → D → Option D) : Prop := ∀ x y c, f x y = some c → ∃ k, c = .bool k
theorem b_eq : IsB fEq := fun x y c e => by unfold fEq at e; split at e <;> cases e; exact ⟨_, rfl⟩
theorem b_ne : IsB fNe := fun x y c e => by unfold fNe at e; split at e <;> cases e; exact ⟨_, rfl⟩
theorem b_lt : IsB fLt := fun x y c e => by unfold fLt at e; (repeat' split at e) <;> first | (cases e; exact ⟨_, rfl⟩) | cases e
theorem b_gt : IsB fGt := fun x y c e => by unfold fGt at e; (repeat' split at e) <;> first | (cases e; exact ⟨_, rfl⟩) | cases e
theorem b_le : IsB fLe := fun x y c e => by unfold fLe at e; (repeat' split at e) <;> first | (cases e; exact ⟨_, rfl⟩) | cases e
theorem b_ge : IsB fGe := fun x y c e => by unfold fGe at e; (repeat' split at e) <;> first | (cases e; exact ⟨_, rfl⟩) | cases e
theorem b_in : IsB fIn := fun x y c e => by unfold fIn at e; (repeat' split at e) <;> first | (cases e; exact ⟨_, rfl⟩) | cases e
theorem b_notIn : IsB fNotIn := fun x y c e => by unfold fNotIn at e; (repeat' split at e) <;> first | (cases e; exact ⟨_, rfl⟩) | cases e
theorem b_is : IsB fIs := fun x y c e => by unfold fIs at e; (repeat' split at e) <;> first | (cases e; exact ⟨_, rfl⟩) | cases e
theorem b_isNot : IsB fIsNot := fun x y c e => by unfold fIsNot at e; (repeat' split at e) <;> first | (cases e; exact ⟨_, rfl⟩) | cases e

/-! ### a, b = x, y -/
def mPar (i j : Nat) (ms : MA) : MS := fun ρ h => (ms ρ h).toS ρ fun ws h1 => match ws with
  | [v, w] => .nx ((ρ.set i (some v)).set j (some w)) h1
  | _ => .stuck
def mPar3 (i j l : Nat) (ms : MA) : MS := fun ρ h => (ms ρ h).toS ρ fun ws h1 => match ws with
  | [v, w, u] => .nx (((ρ.set i (some v)).set j (some w)).set l (some u)) h1
  | _ => .stuck
section
variable {X : Cx} {Wx : WX}
theorem js_par (i j : Nat) {x y : Str} {a b : Expr} {ms : MA} {px py pt pos : Pos} {kt k2 pt2} (hc : X.calm = true) (hN : X.N.Nodup) (ha : JA X Wx [a, b] ms) (hi : X.N[i]? = some x := by rfl) (hj : X.N[j]? = some y := by rfl) (hij : i ≠ j := by decide)
    (hx : X.env.scope.names.lookup x = some .local := by rfl) (hy : X.env.scope.names.lookup y = some .local := by rfl)
    (hw : swappedStores [.Tuple [.Name x px, .Name y py] kt pt] (.Tuple [a, b] k2 pt2) X.env = pure (some [x, y]) := by rfl)
    (hs : swapsWithSole [.Tuple [.Name x px, .Name y py] kt pt] (.Tuple [a, b] k2 pt2) pos.line X.env = pure false := by rfl) :
    JS X Wx (.Assign [.Tuple [.Name x px, .Name y py] kt pt] (.Tuple [a, b] k2 pt2) pos) (mPar i j ms) :=
  psI (ps_par hc hN hi hj hij hx hy ha hw hs) fun D σ H ⟨L, ρ, h, hr, er, s⟩ => ⟨L, ρ, h, hr, er, Sat.toS er s fun vs H1 L1 ws h1 le1 hr1 r1 s1 => by
    split at s1
    · cases r1 with
      | cons r1 r2 =>
        cases r2 with
        | cons r2 r3 =>
          cases r3
          exact ⟨_, _, rfl, s1 _ H1 L1 (Ly.le.refl _) hr1 (((er.mono le1).set i r1).set j r2)⟩
    · exact s1.elim⟩
theorem js_par3 (i j l : Nat) {x y z : Str} {a b c : Expr} {ms : MA} {px py pz pt pos : Pos} {kt k2 pt2} (hc : X.calm = true) (hN : X.N.Nodup) (ha : JA X Wx [a, b, c] ms) (hi : X.N[i]? = some x := by rfl) (hj : X.N[j]? = some y := by rfl) (hl : X.N[l]? = some z := by rfl)
    (hij : i ≠ j := by decide) (hil : i ≠ l := by decide) (hjl : j ≠ l := by decide)
    (hx : X.env.scope.names.lookup x = some .local := by rfl) (hy : X.env.scope.names.lookup y = some .local := by rfl) (hz : X.env.scope.names.lookup z = some .local := by rfl)
    (hw : swappedStores [.Tuple [.Name x px, .Name y py, .Name z pz] kt pt] (.Tuple [a, b, c] k2 pt2) X.env = pure (some [x, y, z]) := by rfl)
    (hs : swapsWithSole [.Tuple [.Name x px, .Name y py, .Name z pz] kt pt] (.Tuple [a, b, c] k2 pt2) pos.line X.env = pure false := by rfl) :
    JS X Wx (.Assign [.Tuple [.Name x px, .Name y py, .Name z pz] kt pt] (.Tuple [a, b, c] k2 pt2) pos) (mPar3 i j l ms) :=
  psI (ps_par3 hc hN hi hj hl hij hil hjl hx hy hz ha hw hs) fun D σ H ⟨L, ρ, h, hr, er, s⟩ => ⟨L, ρ, h, hr, er, Sat.toS er s fun vs H1 L1 ws h1 le1 hr1 r1 s1 => by
    split at s1
    · cases r1 with
      | cons r1 r2 =>
        cases r2 with
        | cons r2 r3 =>
          cases r3 with
          | cons r3 r4 =>
            cases r4
            exact ⟨_, _, _, rfl, s1 _ H1 L1 (Ly.le.refl _) hr1 ((((er.mono le1).set i r1).set j r2).set l r3)⟩
    · exact s1.elim⟩
/-! ### a < b < c as a test -/
theorem jt_chain {a b c : Expr} {ma mb mc : M} {f g : D → D → Option D} {pos : Pos} {op op' : CmpOp} (ho : CmpR X op f) (ho' : CmpR X op' g) (hg : IsB g) (ha : JE X Wx a ma) (hb : JE X Wx b mb) (hc : JE X Wx c mc)
    (hm : lastMarks [op, op'] [b, c] = false := by with_unfolding_all rfl) : JT X Wx (.Compare a [op, op'] [b, c] pos) (mTest (mChain f g ma mb mc)) :=
  ptI (pt_chain ho ho' ha hb hc hm) fun σ H Q ⟨L, ρ, h, hr, er, s⟩ => by
    unfold mTest mChain at s
    rw [Res.assoc] at s
    refine ⟨L, ρ, h, hr, er, s.bind fun v H1 L1 x h1 le1 hr1 r1 s1 => ?_⟩
    rw [Res.assoc] at s1
    refine ⟨L1, ρ, h1, hr1, er.mono le1, s1.bind fun u H2 L2 y h2 le2 hr2 r2 s2 => ?_⟩
    rw [Res.assoc] at s2
    refine op2_sat (E := fun c d H' => Wx c d σ H') hr2 (WRel.mono le2 _ _ r1) r2 (s2.bind fun z H3 L3 wz h3 le3 hr3 r3 s3 => ?_)
    split at s3
    · rename_i k
      refine ⟨k, bl_of r3, ?_⟩
      cases k with
      | true =>
        rw [if_pos rfl, Res.assoc] at s3
        refine ⟨L3, ρ, h3, hr3, (er.mono (le1.trans (le2.trans le3))), s3.bind fun t H4 L4 wt h4 le4 hr4 r4 s4 => ?_⟩
        have r2' := WRel.mono (le3.trans le4) _ _ r2
        unfold op2 at s4
        split at s4
        · rename_i p q ep eq
          cases ec : g p q with
          | none => simp only [ec] at s4; exact s4.elim
          | some d =>
            obtain ⟨k2, rfl⟩ := hg _ _ _ ec
            simp only [ec] at s4
            exact ⟨L4, h4, p, q, _, hr4, rd_rel hr4 r2' ep, rd_rel hr4 r4 eq, ec, fun v' H' L' le' hr' rc => by
              cases rc
              exact ⟨k2, rfl, s4 k2 H' L' le' hr' rfl⟩⟩
        · exact s4.elim
      | false => exact ⟨false, rfl, s3 false H3 L3 (Ly.le.refl _) hr3 rfl⟩
    · exact s3.elim
end

/-! ### xs * n -/
def fRep : D → D → Option D
  | .list xs, .int k => if -(2 ^ 63) ≤ k ∧ k < 2 ^ 63 ∧ xs.length * k.toNat ≤ sizeLine then some (.list (List.replicate k.toNat xs).flatten) else none
  | a, b => fMul a b
theorem dpa_rep {K : PySem.W.Frag} {F : Hp} {vs : List V} {ds : List D} (h : DpAll K F vs ds) : ∀ n : Nat, DpAll K F (List.replicate n vs).flatten (List.replicate n ds).flatten
  | 0 => .nil
  | n + 1 => by
    rw [List.replicate_succ, List.replicate_succ, List.flatten_cons, List.flatten_cons]
    exact DpAll.append h (dpa_rep h n)
theorem je_rep {X : Cx} {Wx : WX} {es : List Expr} {b : Expr} {p pos : Pos} {ms : MA} {mb : M} (ha : JA X Wx es ms) (hb : JE X Wx b mb) : JE X Wx (.BinOp (.List es p) .Mult b pos) (mOp2 fRep (mLst ms) mb) :=
  peI (pe_op op_rep (pe_lst ha) hb) fun σ H Q ⟨L, ρ, h, hr, er, s⟩ => ⟨L, ρ, h, hr, er, by
    unfold mOp2 mLst at s
    rw [Res.assoc] at s
    refine s.bind fun vs H1 L1 ws h1 le1 hr1 r1 s1 => ?_
    split at s1
    · rename_i hz
      refine ⟨by rw [r1.length]; exact hz, fun p np => ?_⟩
      obtain ⟨le, hr'⟩ := hr1.frz (o := .lst vs) np
      split at s1
      · rename_i ds ed
        refine ⟨_, ρ, h1, hr', er.mono (le1.trans le), ?_⟩
        refine Sat.bind (Sat.mono le s1) fun v H2 L2 y h2 le2 hr2 r2 s2 => ?_
        have hp : H2 p = some (.lst vs) := hr2.sub _ _ (le2.f p _ (show upd L1.F p (.lst vs) p = _ from upd_same))
        have hd : DpAll X.K L2.F vs ds := DpAll.sub (fun a u z => le2.f a u (le.f a u z)) _ _ (r1.pure ed)
        unfold op2 at s2
        split at s2
        · rename_i a b ea eb
          cases ea
          unfold fRep at s2
          split at s2
          · rename_i c ec
            split at ec
            · rename_i xs k ea'
              cases ea'
              split at ec
              · rename_i hk
                cases ec
                have := (rd_rel hr2 r2 eb).int
                subst this
                refine ⟨p, _, vs, rfl, rfl, hp, hk.1, hk.2.1, by rw [DpAll.length hd]; exact hk.2.2, fun q nq => ?_⟩
                exact PSat.lst (fun v' H' L' le' hr' rc => s2 v' H' L' le' hr' (.d rc)) hr2 (dpa_rep hd _) nq
              · cases ec
            · exact absurd ec (by unfold fMul; simp)
          · exact s2.elim
        · exact s2.elim
      · exact s1.elim
    · exact s1.elim⟩
end Dw
/-! Dw: xs[::-1]; defs that call themselves -/
namespace Dw
variable [LamTab]
open PySem PySem.Spec PyProof.Rows L2 HT
section
variable {prog : Program} {w : World} {A : Around} {E : Value → Shared → Prop} {s : Shared}
theorem sliceApplied_rev {sl : Addr} {vs : Value} {n : Nat} {Q : Int × Int × Nat → Shared → Prop} (hs : s.heap.IsSliceOf sl .none .none vs) (ps : IsPart vs (some (-1)))
    (h : Q ((n : Int) - 1, -1, n) s) : wpAny (model prog w) A (Builtin.Slice.sliceApplied (.ref sl) (pure (n : Int))) Q E s := by
  obtain ⟨os, hos, hcs, hds⟩ := id hs
  unfold Builtin.Slice.sliceApplied Builtin.Slice.sliceFields
  refine wpAny_bind (wpAny_bind (wpAny_field hos hds (x := .none) rfl (wpAny_bind (wpAny_field hos hds (x := .none) rfl (wpAny_bind (wpAny_field hos hds (x := vs) rfl (wpAny_pure ?_)))))))
  refine wpAny_bind (slicePart_ ps ?_)
  show wpAny _ _ (if ((-1 : Int) == 0) = true then _ else _) _ _ s
  rw [if_neg (by decide)]
  refine wpAny_bind (slicePart_none (wpAny_bind (slicePart_none (wpAny_bind (wpAny_pure ?_)))))
  have e : Builtin.Slice.slicePlaces ((n : Int) - 1) (-1) (-1) = n := by
    unfold Builtin.Slice.slicePlaces
    rw [if_neg (by decide), show (-(-1) : Int) = 1 from rfl, Int.ediv_one]
    split <;> omega
  show wpAny _ _ (pure (((n : Int) - 1), (-1 : Int), Builtin.Slice.slicePlaces ((n : Int) - 1) (-1) (-1))) _ _ s
  rw [e]
  exact wpAny_pure h
theorem rev_pick (xs : Array Value) : ((List.range xs.size).filterMap fun (m : Nat) => xs[(((xs.size : Nat) : Int) - 1 + (m : Int) * (-1)).toNat]?).toArray = xs.toList.reverse.toArray := by
  rw [← PySem.W.krv_pick]
  unfold slicePick
  rw [PySem.W.krv_bounds]
  show _ = ((sliceRange ((xs.size : Int) - 1) (-1) (-1)).filterMap (xs[·]?)).toArray
  rw [PySem.W.krv_sliceRange, List.filterMap_map]
  congr 2
  funext m
  show xs[(((xs.size : Nat) : Int) - 1 + (m : Int) * (-1)).toNat]? = xs[xs.size - 1 - m]?
  congr 1
  omega
theorem getItem_tuple_rev {t sl : Addr} {items : Array Value} {vs : Value} {Q : Value → Shared → Prop} (ht : IsTup s.heap t items) (hs : s.heap.IsSliceOf sl .none .none vs) (ps : IsPart vs (some (-1)))
    (h : Q (.ref s.heap.objs.size) { s with heap := s.heap.push { cls := .type "tuple", data := .seq items.toList.reverse.toArray } }) (hz : items.size ≤ sizeLine) : wpAny (model prog w) A (getItem (.ref t) (.ref sl)) Q E s := by
  have ok2 : sizeOk (.seq items.toList.reverse.toArray) := by
    show items.toList.reverse.toArray.size ≤ sizeLine
    rw [List.size_toArray, List.length_reverse, Array.length_toList]
    exact hz
  obtain ⟨os, hos, hcs, hds⟩ := id hs
  have hT : s.TypeIs (.ref sl) "slice" := ⟨os, hos, hcs⟩
  unfold getItem
  try with_reducible refine wpAny_holding ?_
  first | refine wpAny_bind (wpAny_pure ?_) | skip
  refine wpAny_bind (wpAny_sequenceKey ht.typeIs (by decide) ?_)
  refine wpAny_bind (wpAny_callSpecial?_slot (name := Str.ofString "__getitem__") ht.typeIs PyProof.Rows.slot_tuple_getitem (wpAny_call_entry PyProof.Rows.slot_tuple_getitem ht.typeIs entry_tuple_getitem ?_ (args_tuple_getitem _ _)))
  show wpAny _ _ (Builtin.Tuple.tupleItemsOf (.ref t) >>= _) _ _ s
  refine wpAny_bind (tupleItemsOf_ ht ?_)
  refine wpAny_bind (wpAny_typeOf hT ?_)
  rw [if_pos (by decide)]
  refine wpAny_bind (sliceApplied_rev hs ps ?_)
  have no : ¬ ((((items.size : Nat) : Int) - 1 == 0 && (-1 : Int) == 1 && items.size == items.size) = true) := by simp
  show wpAny _ _ (if (((items.size : Nat) : Int) - 1 == 0 && (-1 : Int) == 1 && items.size == items.size) = true then _ else _) _ _ s
  rw [if_neg no, rev_pick]
  first
    | exact wpAny_bind (m := Builtin.Tuple.tupleExact _) (wpAny_newObj_type (wpAny_pure ⟨_, rfl, wpAny_pure h⟩) ok2)
    | exact wpAny_bind (m := Builtin.Tuple.tupleExact _) (wpAny_newObj_type (wpAny_bind (wpAny_pure (wpAny_pure ⟨_, rfl, wpAny_pure h⟩))) ok2)
    | exact wpAny_bind (wpAny_bind (m := Builtin.Tuple.tupleExact _) (wpAny_newObj_type (wpAny_pure (wpAny_pure ⟨_, rfl, wpAny_pure h⟩)) ok2))
    | exact wpAny_bind (wpAny_bind (m := Builtin.Tuple.tupleExact _) (wpAny_newObj_type (wpAny_pure ⟨_, rfl, wpAny_pure h⟩) ok2))
end
def fRev : D → Option D
  | .list ds => some (.list ds.reverse)
  | .tuple ds => some (.tuple ds.reverse)
  | _ => none
def mRev (m : M) : M := fun ρ h => (m ρ h).bind fun w h1 => match rd w h1 with
  | some d => (match fRev d with
    | some c => .ok (.d c) h1
    | none => .stuck)
  | none => .stuck
theorem DpAll.rev {K : PySem.W.Frag} {F : Hp} : ∀ {ds : List D} {vs : List V}, DpAll K F vs ds → DpAll K F vs.reverse ds.reverse
  | [], _, h => by cases h; exact .nil
  | d :: ds, _, h => by
    cases h with
    | cons h1 h2 =>
      rw [List.reverse_cons, List.reverse_cons]
      exact DpAll.append (DpAll.rev h2) (.cons h1 .nil)
section
variable {X : Cx} {Wx : WX} {e : Expr} {m : M}
theorem je_rev {k : Nat} {p1 p2 p3 pos : Pos} (he : JE X Wx e m) : JE X Wx (.Subscript e (.Slice none none (some (.UnaryOp .USub (.Constant (.int 1) k p1) p2)) p3) pos) (mRev m) := by
  refine ⟨fun pins s σ H Q I h => ?_⟩
  obtain ⟨L, ρ, hh, hr, er, sx⟩ := h
  refine Subscript_ (thn (he.run pins s σ H (fun v H1 => ∃ L1 w h1, HRel X.K X.mg L1 H1 h1 ∧ WRel X.K L1 v w ∧ ∃ d c, rd w h1 = some d ∧ fRev d = some c ∧ PSat X.K X.mg L1 h1 c Q) I ⟨L, ρ, hh, hr, er, ?_⟩) fun v s1 ⟨x, H1, I1, r1, q1⟩ => ?_)
  · refine Sat.bind sx fun v H1 L1 w h1 le1 hr1 r1 s2 => ?_
    split at s2
    · rename_i d ed
      split at s2
      · rename_i c ec
        exact ⟨L1, w, h1, hr1, r1, d, c, ed, ec, fun v' H' L' le' hr' rc => s2 v' H' L' le' hr' (.d rc)⟩
      · exact s2.elim
    · exact s2.elim
  obtain ⟨L1, w1, h1, hr1, rw1, d, c, ed, ec, q⟩ := q1
  have rd1 := rd_rel hr1 rw1 ed
  have hst : PO X (some (.UnaryOp .USub (.Constant (.int 1) k p1) p2)) (tPart (tUn (rU fun i => .int (-i)) (tC (.int 1)))) := po_some (pe_un un_neg pe_int)
  refine wpAny_Slice (thn (po_none.run pins s1 σ H1 (fun o H2 => o = none ∧ H2 = H1) I1 ⟨rfl, rfl⟩) fun vl s2 ⟨l, H2, I2, pl, el, e2⟩ => ?_)
  subst el e2
  refine thn (po_none.run pins s2 σ H2 (fun o H3 => o = none ∧ H3 = H2) I2 ⟨rfl, rfl⟩) fun vu s3 ⟨u, H3, I3, pu, eu, e3⟩ => ?_
  subst eu e3
  refine thn (hst.run pins s3 σ H3 (fun o H4 => o = some (-1) ∧ H4 = H3) I3 ⟨1, rfl, -1, rfl, rfl, rfl⟩) fun vs s4 ⟨o, H4, I4, ps, eo, e4⟩ => ?_
  subst eo e4
  have I5 : Inv X pins σ H4 { s4 with heap := s4.heap.push { cls := .type "slice", data := .fields #[vl, vu, vs] } } := I4.kept (t' := s4.toks) fun b ob q => Heap.get?_push_of_some _ q
  unfold fRev at ec
  split at ec
  · cases ec
    obtain ⟨a, xs, rfl, hx, d1⟩ := rd1.list hr1
    cases r1
    obtain ⟨its, r, ht, hz⟩ := I5.list hx
    show wpAny (model X.prog X.w) X.A (subscriptTail e (.Slice none none (some (.UnaryOp .USub (.Constant (.int 1) k p1) p2)) p3) (.ref a) (.ref s4.heap.objs.size)) (EP X pins σ Q) X.xe { s4 with heap := s4.heap.push { cls := .type "slice", data := .fields #[vl, vu, vs] } }
    refine tail_any (ops := [.ref a, .ref s4.heap.objs.size]) ht.isList.typeIs (PySem.slot_list_getitem.lookup) ?_ (by with_unfolding_all rfl)
    have hlen := r.length
    refine wpAny_getItem_list_slice ht.isList (Heap.IsSliceOf.new _ vl vu vs) pl pu ps (by decide) ?_ (by rw [List.size_toArray]; omega)
    rw [PySem.W.krv_pick]
    refine ⟨.ref _, _, I5.laid (t' := s4.toks) (o := .lst xs.reverse) (fun b ob q => Heap.get?_push_of_some _ q) (Nat.le_refl _) ?_, rfl, q.lst hr1 (DpAll.rev d1) (I5.hok.fresh (Nat.le_refl _))⟩
    exact ⟨by rw [List.length_reverse]; exact hz, _, 0, r.reverse, Heap.get?_push_size _ rfl⟩
  · cases ec
    obtain ⟨a, xs, rfl, hx, d1⟩ := rd1.tuple hr1
    cases r1
    obtain ⟨its, r, ht, hz⟩ := I5.tuple hx
    cases pl
    cases pu
    show wpAny (model X.prog X.w) X.A (subscriptTail e (.Slice none none (some (.UnaryOp .USub (.Constant (.int 1) k p1) p2)) p3) (.ref a) (.ref s4.heap.objs.size)) (EP X pins σ Q) X.xe { s4 with heap := s4.heap.push { cls := .type "slice", data := .fields #[.none, .none, vs] } }
    refine tail_any (ops := [.ref a, .ref s4.heap.objs.size]) ht.typeIs (PyProof.Rows.slot_tuple_getitem.lookup) ?_ (by with_unfolding_all rfl)
    have hlen := r.length
    refine getItem_tuple_rev ht (Heap.IsSliceOf.new _ .none .none vs) ps ?_ (by rw [List.size_toArray]; omega)
    exact ⟨.ref _, _, inv_tup (t' := s4.toks) (its := its.reverse) I5 r.reverse (by rw [List.length_reverse]; exact hz), rfl, q.tup hr1 (DpAll.rev d1) (I5.hok.fresh (Nat.le_refl _)) _ rfl⟩
  · cases ec
end
/-- nothing is promised of it -/
def mStuck : FSpec := fun _ _ => .stuck
theorem fst_stuck {P : Program} {w : World} {K : PySem.W.Frag} {mg : Str → Option Value} {base : Heap} {x qual : Str} {st : Stmt} {f : Addr} {fd : FuncData} {ps : List Str} {k n : Nat} (F : Fun K x qual st f fd) (mgf : mg x = some (.ref f)) (b : Binds K fd ps []) (hn : ps.length = n) :
    FSt P w K mg base k x n mStuck :=
  ⟨f, fd, ps, mgf, F.kp, b, ⟨fun vs H Q E h => h.1.trans hn.symm, fun A outer s H args us vs Q E hr he hb hv hs => by
    obtain ⟨_, L, h, ws, _, _, z⟩ := hs
    exact z.elim⟩⟩
end Dw
/-! Dw: lambdas that are handed to a def -/
namespace Dw
variable [LamTab]
open PySem PySem.Spec PyProof.Rows L2

/-! ### hidden addresses -/
def hid (S : List Addr) (H : Hp) : Hp := fun a => if a ∈ S then none else H a
def put0 (S : List Addr) (H2 H' : Hp) : Hp := fun a => if a ∈ S then H2 a else H' a
section
variable {S : List Addr} {H H1 H2 H' : Hp} {a : Addr} {h h' : Heap} {P : Program} {w : World} {fs : List Addr}
theorem hid_in (z : a ∈ S) : hid S H a = none := if_pos z
theorem hid_out (z : a ∉ S) : hid S H a = H a := if_neg z
theorem put0_in (z : a ∈ S) : put0 S H2 H' a = H2 a := if_pos z
theorem put0_out (z : a ∉ S) : put0 S H2 H' a = H' a := if_neg z
theorem hid_some {o : HO} (e : hid S H a = some o) : a ∉ S ∧ H a = some o := by
  by_cases z : a ∈ S
  · rw [hid_in z] at e; cases e
  · rw [hid_out z] at e; exact ⟨z, e⟩
/-- cells stand there, unwritten -/
def Cel (S : List Addr) (H : Hp) : Prop := ∀ a ∈ S, ∃ o, H a = some (CellO o)
theorem cell_at (x : HOk P w H h) {o : Obj} (e : H a = some (CellO o)) : h.get? a = some o := (show h.get? a = some o ∧ _ from x a _ e).1
theorem Cel.ne (c : Cel S H) {o : HO} (e : H a = some o) (n : ∀ ob, o ≠ CellO ob) : a ∉ S := fun z => by
  obtain ⟨ob, eo⟩ := c a z
  rw [e] at eo
  exact n ob (Option.some.inj eo)
theorem own_ne {y : Addr} (ob : Obj) : HO.own y ≠ CellO ob := fun z => by unfold CellO at z; cases z
theorem tup_ne {xs : List V} (ob : Obj) : HO.tup xs ≠ CellO ob := fun z => by unfold CellO at z; cases z
theorem tbl_ne {xs : Array Value} (ob : Obj) : HO.tbl xs ≠ CellO ob := fun z => by unfold CellO at z; cases z
theorem ext_ne {φ : Heap → Prop} (ob : Obj) : HO.ext φ ≠ CellO ob := fun z => by unfold CellO at z; cases z
theorem hok_hid (x : HOk P w H h) (c : Cel S H) : HOk P w (hid S H) h := fun b o e => by
  obtain ⟨n, e⟩ := hid_some e
  refine (x b o e).stay (fun d u _ q => q) (fun d q => ?_) fun d xs q => ?_
  · rw [hid_out (c.ne q own_ne)]; exact q
  · rw [hid_out (c.ne q tup_ne)]; exact q
theorem hok_show (x : HOk P w H' h') (hn : ∀ b ∈ S, H' b = none) (hs : ∀ b ∈ S, ∃ o, H2 b = some (CellO o) ∧ h'.get? b = some o) : HOk P w (put0 S H2 H') h' := fun b o e => by
  by_cases z : b ∈ S
  · rw [put0_in z] at e
    obtain ⟨ob, e1, e2⟩ := hs b z
    rw [e1] at e
    cases e
    exact ⟨e2, trivial, ⟨ob, e2⟩, fun _ _ _ _ => trivial⟩
  · rw [put0_out z] at e
    have out : ∀ {d : Addr} {u : HO}, H' d = some u → d ∉ S := fun {d u} q y => by rw [hn d y] at q; cases q
    refine (x b o e).stay (fun d u _ q => q) (fun d q => ?_) fun d xs q => ?_
    · rw [put0_out (out q)]; exact q
    · rw [put0_out (out q)]; exact q
/-- behind a call that did not see the cells -/
theorem un_show (c : Cel S H2) (x : HOk P w H2 h) (nf : ∀ b ∈ S, b ∉ fs) (u : Un fs [] (hid S H2) H' h h') :
    (∀ b ∈ S, H' b = none) ∧ (∀ b ∈ S, ∃ o, H2 b = some (CellO o) ∧ h'.get? b = some o) ∧ Un fs [] H2 (put0 S H2 H') h h' := by
  have hn : ∀ b ∈ S, H' b = none := fun b z => by
    obtain ⟨o, e⟩ := c b z
    exact u.free b o (cell_at x e) (hid_in z) (by simp)
  have hs : ∀ b ∈ S, ∃ o, H2 b = some (CellO o) ∧ h'.get? b = some o := fun b z => by
    obtain ⟨o, e⟩ := c b z
    exact ⟨o, e, u.keep b o (cell_at x e) (hid_in z) (nf b z) (by simp)⟩
  have out : ∀ {b : Addr}, H2 b = none → b ∉ S := fun {b} e z => by
    obtain ⟨o, e'⟩ := c b z
    rw [e] at e'
    cases e'
  refine ⟨hn, hs, fun b o e n m hx => ?_, fun b o e n m hx => ?_, fun b o e n hx => ?_, fun b o e hx => u.there b o e hx, fun b xs e => ?_, fun b o q e => ?_, fun b ps e => ?_⟩
  · exact u.keep b o e (by rw [hid_out (out n)]; exact n) m hx
  · exact u.slot b o e (by rw [hid_out (out n)]; exact n) m hx
  · rw [put0_out (out n)]
    exact u.free b o e (by rw [hid_out (out n)]; exact n) hx
  · have z := c.ne e tup_ne
    rw [put0_out z]
    exact u.tups b xs (by rw [hid_out z]; exact e)
  · by_cases z : b ∈ S
    · rw [put0_in z]; exact e
    · rw [put0_out z]
      exact u.frzs b o q (by rw [hid_out z]; exact e)
  · have z := c.ne e tbl_ne
    rw [put0_out z]
    exact u.tbls b ps (by rw [hid_out z]; exact e)
/-- behind a call that saw the cells, which ahead were not seen -/
theorem un_hide (c : Cel S H2) (x : HOk P w H2 h) (x' : HOk P w H' h') (u : Un fs [] H2 H' h h') : Cel S H' ∧ Un fs [] (hid S H2) (hid S H') h h' := by
  have c' : Cel S H' := fun b z => by
    obtain ⟨o, e⟩ := c b z
    exact ⟨o, u.frzs b _ _ e⟩
  have same : ∀ b ∈ S, ∀ o, h.get? b = some o → h'.get? b = some o := fun b z o e => by
    obtain ⟨ob, eo⟩ := c b z
    have e1 := cell_at x eo
    rw [e] at e1
    cases e1
    exact cell_at x' (u.frzs b _ _ eo)
  refine ⟨c', fun b o e n m hx => ?_, fun b o e n m hx => ?_, fun b o e n hx => ?_, fun b o e hx => u.there b o e hx, fun b xs e => ?_, fun b o q e => ?_, fun b ps e => ?_⟩
  · by_cases z : b ∈ S
    · exact same b z o e
    · rw [hid_out z] at n
      exact u.keep b o e n m hx
  · by_cases z : b ∈ S
    · exact ⟨o.slots, same b z o e⟩
    · rw [hid_out z] at n
      exact u.slot b o e n m hx
  · by_cases z : b ∈ S
    · exact hid_in z
    · rw [hid_out z] at n ⊢
      exact u.free b o e n hx
  · obtain ⟨z, e⟩ := hid_some e
    rw [hid_out z]
    exact u.tups b xs e
  · obtain ⟨z, e⟩ := hid_some e
    rw [hid_out z]
    exact u.frzs b o q e
  · obtain ⟨z, e⟩ := hid_some e
    rw [hid_out z]
    exact u.tbls b ps e
end

/-! ### values without lambdas -/
/-- the written tuples stay known -/
def TupC (C C' : List (Addr × HO)) : Prop := ∀ a xs, (a, HO.tup xs) ∈ C → (a, HO.tup xs) ∈ C'
mutual
theorem WRel.reC {K : PySem.W.Frag} {L : Ly} {C' : List (Addr × HO)} (t : TupC L.C C') : ∀ (w : W) (v : V), WRel K L v w → w.noclo = true → WRel K { L with C := C' } v w
  | .d x, _, h, _ => by
    cases h with
    | d h => exact .d h
  | .ref i, _, h, _ => by
    cases h with
    | ref h => exact .ref h
  | .tup ws, _, h, n => by
    cases h with
    | tup h1 h2 => exact .tup (h1.imp id fun z => t _ _ z) (WRels.reC t ws _ h2 n)
  | .clo k ws, _, h, n => by cases n
theorem WRels.reC {K : PySem.W.Frag} {L : Ly} {C' : List (Addr × HO)} (t : TupC L.C C') : ∀ (ws : List W) (vs : List V), WRels K L vs ws → W.nocloAll ws = true → WRels K { L with C := C' } vs ws
  | [], _, h, _ => by cases h; exact .nil
  | w :: ws, _, h, n => by
    have n : (W.noclo w && W.nocloAll ws) = true := n
    rw [Bool.and_eq_true] at n
    cases h with
    | cons h1 h2 => exact .cons (WRel.reC t w _ h1 n.1) (WRels.reC t ws _ h2 n.2)
end
section
variable {K : PySem.W.Frag} {mg : Str → Option Value} {L L' : Ly} {H H' H2 : Hp} {h h' : MH} {a : Addr} {S : List Addr} {C' : List (Addr × HO)}
theorem FRel.reC (t : TupC L.C C') {vs : List (Str × V)} {fs : List (Str × W)} (r : FRel K L vs fs) (b : (fs.all fun p => p.2.noclo) = true) : FRel K { L with C := C' } vs fs := by
  unfold FRel at r ⊢
  induction r with
  | nil => exact .nil
  | cons h t' ih =>
    rw [List.all_cons, Bool.and_eq_true] at b
    exact .cons ⟨h.1, WRel.reC t _ _ h.2 b.1⟩ (ih b.2)
theorem ORel.reC (t : TupC L.C C') {o : MO} (e : H' a = H a) (r : ORel K mg L H a o) : ORel K mg { L with C := C' } H' a o := by
  cases r with
  | lst h1 h2 => exact .lst (e.trans h1) h2
  | dk h1 h2 => exact .dk (e.trans h1) h2
  | dt h1 h2 => exact .dt (e.trans h1) h2
  | ins h0 h1 h2 h3 => exact .ins h0 (e.trans h1) (h2.reC t h3) h3
theorem tab_off {P : Addr} {q : Str} (t : LamX.TabS H P q) (k : ∀ b o, H b = some o → (∀ ob, o ≠ CellO ob) → H' b = some o) : LamX.TabS H' P q := by
  obtain ⟨ps, e, ok, n⟩ := t
  refine ⟨ps, k _ _ e tbl_ne, ok, fun pos cv ec => ?_⟩
  obtain ⟨c, e1, e2⟩ := n pos cv ec
  exact ⟨c, e1, k _ _ e2 ext_ne⟩
theorem tup_hide (hr : HRel K mg L H h) (c : Cel S H) : TupC L.C (L.C.filter fun p => decide (p.1 ∉ S)) := fun b xs m => by
  refine List.mem_filter.mpr ⟨m, decide_eq_true fun z => ?_⟩
  obtain ⟨o, e⟩ := c b z
  have q := (hr.cpin _ m).1
  rw [e] at q
  exact tup_ne _ (Option.some.inj q).symm
theorem cpin_cell (hr : HRel K mg L H h) {o : Obj} (m : (a, CellO o) ∈ L.C) : H a = some (CellO o) ∧ L.F a = none ∧ a ∉ L.mu ∧ ∀ q ∈ L.P, q.1 ≠ a := by
  obtain ⟨h1, h2⟩ := hr.cpin _ m
  rcases h2 with ⟨φ, h2⟩ | h2
  · exact absurd h2.symm (ext_ne o)
  · exact ⟨h1, h2⟩
/-- the cells are hidden -/
theorem HRel.hide (hr : HRel K mg L H h) (hS : ∀ a ∈ S, ∃ o, (a, CellO o) ∈ L.C) : HRel K mg { L with C := L.C.filter fun p => decide (p.1 ∉ S) } (hid S H) h := by
  have oF : ∀ {b : Addr} {o : HO}, L.F b = some o → b ∉ S := fun {b o} e z => by
    obtain ⟨ob, m⟩ := hS b z
    rw [(cpin_cell hr m).2.1] at e
    cases e
  have oM : ∀ {b : Addr}, b ∈ L.mu → b ∉ S := fun {b} e z => by
    obtain ⟨ob, m⟩ := hS b z
    exact (cpin_cell hr m).2.2.1 e
  have c : Cel S H := fun b z => by
    obtain ⟨ob, m⟩ := hS b z
    exact ⟨ob, (cpin_cell hr m).1⟩
  refine ⟨fun b o e => ?_, fun p hp => ?_, hr.pnd, hr.len, hr.nd, hr.fr, fun p hp => ?_, fun t ht => ⟨tab_off (hr.tab t ht).1 fun b o e n => ?_, (hr.tab t ht).2⟩, fun i b o e e2 => ?_, fun p hp => hr.cnt p (List.mem_filter.mp hp).1, hr.fx⟩
  · rw [hid_out (oF e)]
    exact hr.sub b o e
  · obtain ⟨h1, h2, h3⟩ := hr.pin p hp
    have z : p.1 ∉ S := fun z => by
      obtain ⟨ob, m⟩ := hS _ z
      exact (cpin_cell hr m).2.2.2 p hp rfl
    exact ⟨by rw [hid_out z]; exact h1, h2, h3⟩
  · obtain ⟨m, z⟩ := List.mem_filter.mp hp
    have z : p.1 ∉ S := of_decide_eq_true z
    obtain ⟨h1, h2⟩ := hr.cpin p m
    exact ⟨by rw [hid_out z]; exact h1, h2⟩
  · rw [hid_out (c.ne e n)]
    exact e
  · exact (hr.obj i b o e e2).reC (tup_hide hr c) (hid_out (oM (List.mem_of_getElem? e)))
/-- and shown again -/
theorem HRel.show_ (hr : HRel K mg L H2 h) (hr' : HRel K mg L' H' h') (eC : ∀ p ∈ L.C, p.1 ∉ S → p ∈ L'.C) (hS : ∀ a ∈ S, ∃ o, (a, CellO o) ∈ L.C) (hn : ∀ a ∈ S, H' a = none) :
    HRel K mg { L' with C := L'.C ++ L.C } (put0 S H2 H') h' := by
  have out : ∀ {d : Addr} {u : HO}, H' d = some u → d ∉ S := fun {d u} q y => by rw [hn d y] at q; cases q
  refine ⟨fun b o e => ?_, fun p hp => ?_, hr'.pnd, hr'.len, hr'.nd, hr'.fr, fun p hp => ?_, fun t ht => ⟨tab_off (hr'.tab t ht).1 fun b o e n => ?_, (hr'.tab t ht).2⟩, fun i b o e e2 => ?_, fun p hp => (List.mem_append.mp hp).elim (hr'.cnt p) (hr.cnt p), hr'.fx⟩
  · have q := hr'.sub b o e
    rw [put0_out (out q)]
    exact q
  · obtain ⟨h1, h2, h3⟩ := hr'.pin p hp
    exact ⟨by rw [put0_out (out h1)]; exact h1, h2, h3⟩
  · have old : ∀ p ∈ L'.C, put0 S H2 H' p.1 = some p.2 ∧ ((∃ φ, p.2 = .ext φ) ∨ (L'.F p.1 = none ∧ p.1 ∉ L'.mu ∧ ∀ q ∈ L'.P, q.1 ≠ p.1)) := fun p hp => by
      obtain ⟨h1, h2⟩ := hr'.cpin p hp
      exact ⟨by rw [put0_out (out h1)]; exact h1, h2⟩
    rcases List.mem_append.mp hp with hp | hp
    · exact old p hp
    by_cases z : p.1 ∈ S
    · obtain ⟨h1, h2⟩ := hr.cpin p hp
      refine ⟨by rw [put0_in z]; exact h1, .inr ⟨?_, fun m => ?_, fun q hq y => ?_⟩⟩
      · show L'.F p.1 = none
        cases q : L'.F p.1 with
        | none => rfl
        | some u =>
          have := hr'.sub _ _ q
          rw [hn _ z] at this
          cases this
      · obtain ⟨u, e⟩ := hr'.memH (show p.1 ∈ L'.mu from m)
        rw [hn _ z] at e
        cases e
      · obtain ⟨e, _⟩ := hr'.pin q hq
        rw [y, hn _ z] at e
        cases e
    · exact old p (eC p hp z)
  · rw [put0_out (out e)]
    exact e
  · obtain ⟨u, q⟩ := hr'.memH (List.mem_of_getElem? e)
    exact (hr'.obj i b o e e2).reC (fun _ _ z => List.mem_append_left _ z) (put0_out (out q))
/-- lambdas are new -/
theorem HRel.add (hr : HRel K mg L H h) (hS : ∀ a ∈ S, H a = none) (c : Cel S H2) (hN : ∀ p ∈ C', put0 S H2 H p.1 = some p.2 ∧ ((∃ φ, p.2 = .ext φ) ∨ p.1 ∈ S)) : HRel K mg { L with C := L.C ++ C' } (put0 S H2 H) h := by
  have out : ∀ {d : Addr} {u : HO}, H d = some u → d ∉ S := fun {d u} q y => by rw [hS d y] at q; cases q
  refine ⟨fun b o e => ?_, fun p hp => ?_, hr.pnd, hr.len, hr.nd, hr.fr, fun p hp => ?_, fun t ht => ⟨tab_off (hr.tab t ht).1 fun b o e n => ?_, (hr.tab t ht).2⟩, fun i b o e e2 => ?_, fun p hp ps z => ?_, hr.fx⟩
  · have q := hr.sub b o e
    rw [put0_out (out q)]
    exact q
  · obtain ⟨h1, h2, h3⟩ := hr.pin p hp
    exact ⟨by rw [put0_out (out h1)]; exact h1, h2, h3⟩
  · rcases List.mem_append.mp hp with hp | hp
    · obtain ⟨h1, h2⟩ := hr.cpin p hp
      exact ⟨by rw [put0_out (out h1)]; exact h1, h2⟩
    · obtain ⟨h1, h2⟩ := hN p hp
      refine ⟨h1, h2.imp id fun z => ⟨?_, fun m => ?_, fun q hq y => ?_⟩⟩
      · show L.F p.1 = none
        cases q : L.F p.1 with
        | none => rfl
        | some u =>
          have := hr.sub _ _ q
          rw [hS _ z] at this
          cases this
      · obtain ⟨u, e⟩ := hr.memH (show p.1 ∈ L.mu from m)
        rw [hS _ z] at e
        cases e
      · obtain ⟨e, _⟩ := hr.pin q hq
        rw [y, hS _ z] at e
        cases e
  · rw [put0_out (out e)]
    exact e
  · obtain ⟨u, q⟩ := hr.memH (List.mem_of_getElem? e)
    exact (hr.obj i b o e e2).reC (fun _ _ z => List.mem_append_left _ z) (put0_out (out q))
  · rcases List.mem_append.mp hp with hp | hp
    · exact hr.cnt p hp ps z
    · rcases (hN p hp).2 with ⟨φ, y⟩ | y
      · rw [z] at y
        cases y
      · obtain ⟨ob, eo⟩ := c _ y
        have q := (hN p hp).1
        rw [put0_in y, eo, z] at q
        exact tbl_ne _ (Option.some.inj q).symm
/-- and forgotten -/
theorem HRel.drop (hr : HRel K mg L H h) (hS : ∀ a ∈ S, ∃ o, (a, CellO o) ∈ L.C) : HRel K mg { L with C := L.C.filter fun p => decide (p.1 ∉ S) } (hid S H) h := hr.hide hS
end
end Dw
/-! Dw: what a lambda promises; its call; its making -/
namespace Dw
variable [LamTab]
open PySem PySem.Spec PyProof.Rows L2

section
variable {K : PySem.W.Frag} {L : Ly}
theorem ERel.app {σ1 σ2 : L2.St} {ρ1 ρ2 : ME} (a : ERel K L σ1 ρ1) (b : ERel K L σ2 ρ2) : ERel K L (σ1 ++ σ2) (ρ1 ++ ρ2) := by
  refine ⟨by rw [List.length_append, List.length_append, a.len, b.len], fun i w e => ?_⟩
  by_cases hi : i < ρ1.length
  · rw [List.getElem?_append_left hi] at e
    rw [List.getElem?_append_left (by rw [a.len]; exact hi)]
    exact a.v i w e
  · rw [List.getElem?_append_right (by omega)] at e
    rw [List.getElem?_append_right (by rw [a.len]; omega), a.len]
    exact b.v _ w e
theorem ERel.nones (n : Nat) : ERel K L (List.replicate n none) (List.replicate n none) :=
  ⟨by simp, fun i w e => by rw [List.getElem?_replicate] at e; split at e <;> cases e⟩
theorem ERel.ofs : ∀ {vs : List V} {ws : List W}, WRels K L vs ws → ERel K L (vs.map some) (ws.map some)
  | _, [], h => by cases h; exact ⟨rfl, fun i w e => by simp at e⟩
  | _, w :: ws, h => by
    cases h with
    | cons h1 h2 =>
      have ih := ERel.ofs h2
      refine ⟨by simpa using ih.len, fun i x e => ?_⟩
      cases i with
      | zero => simp at e; subst e; exact ⟨_, rfl, h1⟩
      | succ i =>
        obtain ⟨v, a, b⟩ := ih.v i x (by simpa using e)
        exact ⟨v, by simpa using a, b⟩
end
/-- the promise of lambda number k -/
structure CloOk (P : Program) (w : World) (K : PySem.W.Frag) (mg : Str → Option Value) (base : Heap) (lvl k : Nat) (m : List W → FSpec) : Prop where
  run : ∀ (c : LamCode), LamTab.code k = some c → ∀ (A : Around) (outer : List Env) (s : Shared) (H : Hp) (us : List Value) (vs xs : List V) (Q : VK) (f cd : Addr) (cl : List (Str × Addr)), Room lvl A → Env0 P w K mg base A outer s H →
    H f = some (FnL f c cl cd) → H cd = some (LamX.CodeO cd c.qual) → NdefX.CellsAt cl c.fr (xs.map some) s.heap H → Vals vs us → vs.length = c.ps.length →
    (∃ L h ws caps, HRel K mg L H h ∧ WRels K L vs ws ∧ WRels K L xs caps ∧ Sat K mg (WRel K) L (noExc (m caps ws h)) Q E00) →
    codeAny (model P w) A (.call (.ref f) ⟨us, []⟩) (CR (L2.CX P w) outer P w H s Q E00) s
theorem CloOk.mono {P : Program} {w : World} {K : PySem.W.Frag} {mg : Str → Option Value} {base : Heap} {l j k : Nat} {m : List W → FSpec} (o : CloOk P w K mg base l k m) (h : l ≤ j) : CloOk P w K mg base j k m :=
  ⟨fun c hc A outer s H us vs xs Q f cd cl hr => o.run c hc A outer s H us vs xs Q f cd cl (hr.mono h)⟩
theorem CloOk.none {P : Program} {w : World} {K : PySem.W.Frag} {mg : Str → Option Value} {base : Heap} {l k : Nat} {m : List W → FSpec} (h : LamTab.code k = none) : CloOk P w K mg base l k m :=
  ⟨fun c hc => by rw [h] at hc; cases hc⟩
def mLam (n : Nat) (mb : M) (caps : List W) : FSpec := fun ws h => mb (ws.map some ++ (caps.map some ++ List.replicate (n - ws.length - caps.length) none)) h
abbrev lamF (c : LamCode) (cl : List (Str × Addr)) (cd : Addr) : NdefX.NF := ⟨"<lambda>", c.qual, c.params, [], c.scope, cl, cd⟩
theorem noExc_eq {α : Type} {r : Res α} {a : α} {h : MH} (e : noExc r = .ok a h) : r = .ok a h := by
  cases r with
  | ok b h' => exact e
  | exc c h' => cases e
  | stuck => cases e
theorem sat_noExc {K : PySem.W.Frag} {mg : Str → Option Value} {α β : Type} {R : Ly → β → α → Prop} {L : Ly} {r : Res α} {Q : β → Hp → Prop} {E E' : XK} (s : Sat K mg R L (noExc r) Q E) : Sat K mg R L r Q E' := by
  cases r with
  | ok a h => exact s
  | exc c h => exact s.elim
  | stuck => exact s
/-- THE RULE for a lambda -/
theorem clo_of {P : Program} {w : World} {K : PySem.W.Frag} {mg : Str → Option Value} {base : Heap} {lvl k : Nat} {c : LamCode} {N : List Str} {mb : M} (hc : LamTab.code k = some c) (S : NdefX.NScope N c.ps c.fr c.scope)
    (hb : ∀ (cl : List (Str × Addr)) (pm cdv ctv : Value) (us : List Value), us.length = c.ps.length → bindArgs (PySem.W.kla_fn "<lambda>" c.qual c.params c.body c.scope cl pm cdv ctv) ⟨us, []⟩ = pure (c.ps.zip us))
    (hbody : ∀ (A : Around) (outer : List Env) (s : Shared) (H : Hp) (f cd : Addr) (cl : List (Str × Addr)) (E : XK), Room lvl (A.deeper (NdefX.envF (lamF c cl cd) f s.heap.objs.size)) →
      JE (NdefX.ncx (L2.CX P w) P w K mg base N (lamF c cl cd) f A outer s H E) (fun _ _ _ _ => False) c.body mb) : CloOk P w K mg base (lvl + 1) k (mLam N.length mb) := by
  refine ⟨fun c' hc' A outer s H us vs xs Q f cd cl hr e0 hf hcd C r hl q => ?_⟩
  rw [hc] at hc'
  cases hc'
  obtain ⟨L, h, ws, caps, hrl, rw', rc, s1⟩ := q
  have lim : s.heap.NoLimit := e0.mod.nolimit.keeps fun b o e => (e0.bs b o e).1
  obtain ⟨⟨od, sl, pm, ctv, ho⟩, _, _⟩ := e0.hok f _ hf
  refine PySem.W.kla_callFunE hr.depth ho rfl S.co S.gen rfl (NdefX.codeO_at e0.hok hcd) ?_
  rw [hb cl pm (.ref cd) ctv us (by rw [← r.length]; exact hl)]
  refine wpAny_pure (wpAny_newFunctionEnv S.nocell (fun ⟨n, _⟩ hy => S.par n (List.of_mem_zip hy).1) (fun h₁ hns hsb => ⟨lim.fresh _ hsb, ?_⟩) S.kind)
  show codeAny _ _ (.expr c.body (NdefX.envF (lamF c cl cd) f s.heap.objs.size)) _ _
  have kp : ∀ b o, s.heap.get? b = some o → h₁.get? b = some o := fun b o e => hsb.extBut b o (Nat.ne_of_lt (Heap.lt_size e)) (Heap.get?_push_of_some _ e)
  have I : Inv (NdefX.ncx (L2.CX P w) P w K mg base N (lamF c cl cd) f A outer s H E00) [] (NdefX.startF N vs (xs.map some)) H { s with heap := h₁, toks := s.toks + (c.ps.zip us).length } :=
    NdefX.inv_startN (F := lamF c cl cd) S hr.hd e0 hl r C hns kp
  have er : ERel K L (NdefX.startF N vs (xs.map some)) (ws.map some ++ (caps.map some ++ List.replicate (N.length - ws.length - caps.length) none)) := by
    have l1 := rw'.length
    have l2 := rc.length
    unfold NdefX.startF
    rw [List.length_map, l1, l2]
    exact (ERel.ofs rw').app ((ERel.ofs rc).app (ERel.nones _))
  refine PySem.W.kla_codeExpr (wpAny_mono ((hbody A outer s H f cd cl E00 (hr.deeper _)).run [] _ _ H Q I ⟨L, _, h, hrl, er, ?_⟩) (fun v s' hq => ?_) fun e s' hq => hq)
  · have s2 := sat_noExc (E' := fun _ _ _ => False) s1
    exact s2
  · obtain ⟨v', H', J', rv, q⟩ := hq
    exact ⟨v', H', J'.os, J'.bare, J'.base, J'.hok, rv, q⟩

/-! ### its call -/
/-- no exception, no lambda in what is handed back -/
def noClo (r : Res W) : Res W := match r with
  | .ok w h => if w.noclo then .ok w h else .stuck
  | _ => .stuck
def mCallV (T : Nat → List W → FSpec) (i : Nat) (ms : MA) : M := fun ρ h => match ρ[i]? with
  | some (some (.clo k caps)) => (ms ρ h).bind fun ws h1 => if W.nocloAll ws && W.nocloAll caps then noClo (T k caps ws h1) else .stuck
  | _ => .stuck
theorem cx_no' {P : Program} {w : World} {outer : List Env} {H : Hp} {s : Shared} {e : Value} {s' : Shared} (h : L2.CX P w outer H s E00 e s') : False := by
  obtain ⟨_, _, _, _, _, _, _, _, _, _, _, _, z⟩ := h
  exact z.elim
/-- the captured cells -/
def clS (cl : List (Str × Addr)) (fr : List Str) : List Addr := fr.filterMap fun y => cl.lookup y
theorem cells_in {cl : List (Str × Addr)} {fr : List Str} {xs : List V} {C : List (Addr × HO)} (c : CellsIn C cl fr xs) : ∀ a ∈ clS cl fr, ∃ o, (a, CellO o) ∈ C := fun a ha => by
  obtain ⟨y, hy, e⟩ := List.mem_filterMap.mp ha
  obtain ⟨i, hi⟩ := List.mem_iff_getElem?.mp hy
  obtain ⟨c', o, u, v, e1, m', _⟩ := c.has i y hi
  rw [e] at e1
  cases e1
  exact ⟨o, m'⟩
theorem cells_vs {K : PySem.W.Frag} {mg : Str → Option Value} {L : Ly} {H : Hp} {h : MH} {P : Program} {w : World} {hp : Heap} {cl : List (Str × Addr)} {fr : List Str} {xs : List V} (hr : HRel K mg L H h) (hk : HOk P w H hp) (C : CellsIn L.C cl fr xs) :
    NdefX.CellsAt cl fr (xs.map some) hp (hid (clS cl fr) H) := by
  have mem : ∀ {y : Str} {c : Addr}, cl.lookup y = some c → c ∈ clS cl fr := fun {y c} e => List.mem_filterMap.mpr ⟨y, C.all y c e, e⟩
  refine ⟨by rw [List.length_map]; exact C.len, fun y c e => ⟨hid_in (mem e), ?_⟩, C.inj, fun i y e => ?_⟩
  · obtain ⟨i, hi⟩ := List.mem_iff_getElem?.mp (C.all y c e)
    obtain ⟨c', o, u, v, e1, m, d, _, _⟩ := C.has i y hi
    rw [e] at e1
    cases e1
    exact ⟨_, o, cell_at hk (cpin_cell hr m).1, d⟩
  · obtain ⟨c, o, u, v, e1, m, d, ev, rv⟩ := C.has i y e
    refine ⟨c, e1, fun v' e' => ⟨u, ?_, o, cell_at hk (cpin_cell hr m).1, d⟩⟩
    rw [List.getElem?_map, ev] at e'
    cases e'
    exact rv
section
variable {X : Cx} {Wx : WX} {e : Expr} {es : List Expr} {ms : MA} {T : Nat → List W → FSpec} {i j lvl : Nat} {x : Str} {p pos : Pos}
theorem je_callV (hT : ∀ k, CloOk X.prog X.w X.K X.mg X.base lvl k (T k)) (hr : Room j X.A) (hk : lvl ≤ j) (n : Nat) (hps : ∀ k c, LamTab.code k = some c → c.ps.length = n) (hN : X.N[i]? = some x) (hv : Vis X.env.scope x) (ha : JA X Wx (e :: es) ms)
    (hlen : ∀ ρ h ws h', ms ρ h = .ok ws h' → ws.length = n)
    (hd : (x == ("__debug__" : Str)) = false := by decide) (hcd : (x == ("__classdict__" : Str)) = false := by decide)
    (he : starEach (e :: es) X.env = (false, eval e X.env) :: starEach es X.env := by rfl) (hpl : (backTo pos (starEach es X.env)).any (·.1) = false := by rfl) :
    JE X Wx (.Call (.Name x p) (e :: es) [] pos) (mCallV T i ms) := by
  refine ⟨fun pins s σ H Q I h => ?_⟩
  obtain ⟨L, ρ, mh, hrl, er, s0⟩ := h
  unfold mCallV at s0
  split at s0
  · rename_i k caps ei
    obtain ⟨v0, es0, r0⟩ := er.v i _ ei
    cases r0 with
    | clo hc m1 m2 m3 m4 =>
      rename_i f cd c cl xs
      have hf : H f = some (FnL f c cl cd) := (hrl.cpin _ m1).1
      refine wpAny_Call_Name_kw (thn ((pe_var (pos := p) hN hv hd hcd).run pins s σ H (fun v H1 => v = .ref f ∧ H1 = H) I ⟨.ref f, es0, rfl, rfl⟩) fun u s1 ⟨v, H1, I1, r1, q1⟩ => ?_)
      obtain ⟨ev, eH⟩ := q1
      subst ev
      rw [eH] at I1
      obtain rfl : u = Value.ref f := r1
      have fnAt : ∀ {s' : Shared} {H' : Hp}, Inv X pins σ H' s' → H' f = some (FnL f c cl cd) → PySem.W.FnAt f s'.heap := fun I' e' => by
        obtain ⟨⟨od, sl, pm, ctv, ho⟩, _, _⟩ := I'.hok f _ e'
        exact ⟨_, od, _, sl, ho⟩
      cases q : ms ρ mh with
      | stuck => rw [q] at s0; exact s0.elim
      | exc cc h1 =>
        rw [q] at s0
        refine PySem.W.callWith_F (first := []) (fnAt I1 hf) (thn (ha.run pos pins s1 σ H (fun _ _ => False) I1 ⟨L, ρ, mh, hrl, er, ?_⟩) fun us s2 ⟨vs, H2, I2, r, z⟩ => z.elim) he hpl
        rw [q]
        exact s0
      | ok ws h2 =>
        rw [q] at s0
        refine PySem.W.callWith_F (first := []) (fnAt I1 hf) (thn (ha.run pos pins s1 σ H (fun vs H2 => ∃ L2, L.le L2 ∧ HRel X.K X.mg L2 H2 h2 ∧ WRels X.K L2 vs ws) I1 ⟨L, ρ, mh, hrl, er, ?_⟩) fun us s2 ⟨vs, H2, I2, r, L2, le2, hr2, rs⟩ => ?_) he hpl
        · rw [q]
          exact fun vs H2 L2 le2 hr2 rs => ⟨L2, le2, hr2, rs⟩
        have m1 : (f, FnL f c cl cd) ∈ L2.C := le2.c _ m1
        have m2 : (cd, LamX.CodeO cd c.qual) ∈ L2.C := le2.c _ m2
        have m3 : CellsIn L2.C cl c.fr xs := m3.mono le2.c
        have hf2 := (hr2.cpin _ m1).1
        have hd2 := (hr2.cpin _ m2).1
        refine ⟨fnAt I2 hf2, ?_⟩
        show wpAny _ _ (call (.ref f) us) _ _ _
        have s0 : Sat X.K X.mg (WRel X.K) L (if (W.nocloAll ws && W.nocloAll caps) = true then noClo (T k caps ws h2) else .stuck) Q fun c d H' => Wx c d σ H' := s0
        split at s0
        · rename_i nc
          rw [Bool.and_eq_true] at nc
          have hS := cells_in m3
          have c2 : Cel (clS cl c.fr) H2 := fun b z => by
            obtain ⟨o, m⟩ := hS b z
            exact ⟨o, (cpin_cell hr2 m).1⟩
          have hr3 := hr2.hide hS
          have e2 := I2.env0
          have none_ : ∀ {b : Addr}, H2 b = none → hid (clS cl c.fr) H2 b = none := fun {b} e => by
            unfold hid
            split
            · rfl
            · exact e
          have e3 : Env0 X.prog X.w X.K X.mg X.base X.A X.stack s2 (hid (clS cl c.fr) H2) :=
            ⟨e2.frames, e2.mod, fun b o e => ⟨(e2.bs b o e).1, none_ (e2.bs b o e).2⟩, e2.bsz, e2.funs, fun b hb => none_ (e2.frf b hb), hok_hid e2.hok c2, e2.bare⟩
          have hl : vs.length = c.ps.length := by rw [rs.length, hlen ρ mh ws h2 q, hps k c hc]
          cases qt : T k caps ws h2 with
          | stuck => rw [qt] at s0; exact (show False from s0).elim
          | exc cc h3 => rw [qt] at s0; exact (show False from s0).elim
          | ok w h3 =>
            rw [qt] at s0
            have s0 : Sat X.K X.mg (WRel X.K) L (if w.noclo = true then .ok w h3 else .stuck) Q fun c d H' => Wx c d σ H' := s0
            split at s0
            · rename_i nw
              refine wpAny_call (codeAny_mono ((hT k).run c hc X.A X.stack s2 (hid (clS cl c.fr) H2) us vs xs
                (fun v H' => ∃ L', ({ L2 with C := L2.C.filter fun p => decide (p.1 ∉ clS cl c.fr) } : Ly).le L' ∧ HRel X.K X.mg L' H' h3 ∧ WRel X.K L' v w) f cd cl (hr.mono hk) e3
                (by rw [hid_out (c2.ne hf2 ext_ne)]; exact hf2) (by rw [hid_out (c2.ne hd2 ext_ne)]; exact hd2) (cells_vs hr2 I2.hok m3) r hl
                ⟨_, h2, ws, caps, hr3, WRels.reC (tup_hide hr2 c2) _ _ rs nc.1, WRels.reC (tup_hide hr2 c2) _ _ (WRels.mono le2 _ _ m4) nc.2, ?_⟩) fun rr s' hq => ?_)
              · rw [qt]
                exact fun v H' L' le' hr' rv => ⟨L', le', hr', rv⟩
              · cases rr with
                | error e => exact (cx_no' hq).elim
                | ok fl =>
                  cases fl with
                  | ret u =>
                    obtain ⟨v, H', os, bare, un, hok, rv, L', le', hr', rw'⟩ := hq
                    have nf : ∀ b ∈ clS cl c.fr, b ∉ frs X.stack := fun b z y => by
                      obtain ⟨o, e⟩ := c2 b z
                      rw [I2.stkFree b y] at e
                      cases e
                    obtain ⟨hn, hs, un'⟩ := un_show c2 I2.hok nf un
                    refine I2.after ⟨v, put0 (clS cl c.fr) H2 H', os, bare, un', hok_show hok hn hs, rv, ?_⟩
                    exact s0 v _ { L' with C := L'.C ++ L2.C } ⟨fun a o z => le'.f a o (le2.f a o z), le2.m.trans le'.m, le'.p.trans le2.p, fun p z => List.mem_append_right _ (le2.c p z)⟩ (hr2.show_ hr' (fun p hp z => le'.c p (List.mem_filter.mpr ⟨hp, decide_eq_true z⟩)) hS hn) (WRel.reC (fun _ _ z => List.mem_append_left _ z) _ _ rw' nw)
                  | next => exact False.elim hq
                  | brk => exact False.elim hq
                  | cont => exact False.elim hq
            · exact s0.elim
        · exact s0.elim
  · exact s0.elim
end
end Dw
/-! Dw: a lambda made and handed over -/
namespace Dw
variable [LamTab]
open PySem PySem.Spec PyProof.Rows L2 LamX

def ExtP (P : Addr) (H H' : Hp) : Prop := ∀ b o, H b = some o → b ≠ P → H' b = some o
section
variable {X : Cx} {pins : List (Addr × Obj)} {σ : L2.St} {H : Hp} {s : Shared}
theorem inv_fnL {c : LamCode} {cl : List (Str × Addr)} {cd : Addr} {pm ctv : Value} {t' : Nat} (I : Inv X pins σ H s) :
    Inv X pins σ (upd H s.heap.objs.size (FnL s.heap.objs.size c cl cd)) { s with heap := s.heap.push (PySem.W.kla_obj "<lambda>" c.qual c.params c.body c.scope cl pm cd ctv), toks := t' } := by
  refine I.laid (a := s.heap.objs.size) (fun b u e => Heap.get?_push_of_some _ e) (Nat.le_refl _) ?_
  have e : (s.heap.push (PySem.W.kla_obj "<lambda>" c.qual c.params c.body c.scope cl pm cd ctv)).get? s.heap.objs.size = some (PySem.W.kla_obj "<lambda>" c.qual c.params c.body c.scope cl pm cd ctv) := Heap.get?_push_size _ rfl
  exact ⟨⟨_, _, pm, ctv, e⟩, ⟨_, e⟩, fun h1 h2 ⟨od, sl, p, t, z⟩ st => ⟨od, sl, p, t, st _ z⟩⟩
theorem lam_make3 {T : List (Addr × Str)} {c P : Addr} {C : LamCode} {pos : Pos} {E : Value → Shared → Prop} {Q : Value → Shared → Prop} (I : Inv X pins σ H s) (TB : TabB X.base X.mg c P) (hcode : X.env.code = .ref c) (hq : C.qual = X.env.qual ++ "<lambda>")
    (hm : (P, C.qual) ∈ T) (hu : ∀ p ∈ T, p.1 = P → p.2 = C.qual) (hT : Tabs T H) (hdef : defaultsOf C.params X.env = ([], [])) (hfree : ∀ y ∈ C.scope.names, y.2 = .free → ∃ c, X.env.cells.lookup y.1 = some c)
    (h : ∀ (f c' : Addr) (H1 : Hp) (s' : Shared), Inv X pins σ H1 s' → ExtP P H H1 → (∀ b, H1 b = none → H b = none) → Tabs T H1 → H1 f = some (FnL f C (cloFrom X.env.cells C.scope.names []) c') → H1 c' = some (CodeO c' C.qual) → Q (.ref f) s') :
    wpAny (model X.prog X.w) X.A (eval (.Lambda C.params C.body C.scope pos) X.env) Q E s := by
  obtain ⟨ps, hP, ht, ha⟩ := hT _ hm
  refine PySem.W.kla_eval hdef ?_
  rw [← hq]
  have bP : s.heap.BuiltinsAt X.mg P := TB.bm.keeps I.bk
  have hP' : s.heap.get? P = some { cls := .none, data := .fields ps } := I.hok P _ hP
  cases hc : codeAmong pos ps.toList with
  | none =>
    refine PySem.W.kla_makeFunction (mg := X.mg) (c := c) (P := P) (ps := ps) (closure_ok hfree) I.ok.glob (I.mod.glob.keeps I.bk) hcode (TB.code.keeps I.bk) hP' ht hc TB.gP bP fun c' ctv h' tk hx hge hlt hrec htb => ?_
    obtain ⟨c2, oc, vs, t, e2, hoc, hd, hv⟩ := hrec
    cases e2
    have nC : H c' = none := I.hok.fresh hge
    have I1 := inv_table (t' := tk) (more := #[rawInt pos.line, rawInt pos.col, .ref c']) (h' := h') I hP (fun b o hb e => hx b o hb e) htb hge ⟨oc, vs, t, hoc, hd, hv⟩
    have hE : ∀ b o, H b = some o → b ≠ P → upd (upd H P (.tbl (ps ++ #[rawInt pos.line, rawInt pos.col, .ref c']))) c' (CodeO c' C.qual) b = some o := fun b o e n => by
      rw [upd_ne (ne_of_none e nC), upd_ne n]
      exact e
    have eL : (ps ++ #[rawInt pos.line, rawInt pos.col, .ref c']).toList = ps.toList ++ [rawInt pos.line, rawInt pos.col, .ref c'] := by simp
    have noP : ∀ {c0 : Addr} {q : Str}, H c0 = some (CodeO c0 q) → c0 ≠ P := fun {c0 q} e z => by
      rw [z, hP] at e
      exact codeO_ne ps (Option.some.inj e).symm
    have T1 : Tabs T (upd (upd H P (.tbl (ps ++ #[rawInt pos.line, rawInt pos.col, .ref c']))) c' (CodeO c' C.qual)) := fun p hp => by
      by_cases hb : p.1 = P
      · rw [hu p hp hb, hb]
        refine ⟨_, by rw [upd_ne (ne_of_none hP nC), upd_same], by rw [eL]; exact PySem.TriplesOk_snoc _ _ _ _ ht, fun p' cv hcv => ?_⟩
        rw [eL] at hcv
        rcases among_app _ ht hcv with z | z
        · obtain ⟨c0, e1, e2⟩ := ha p' cv z
          exact ⟨c0, e1, hE _ _ e2 (noP e2)⟩
        · exact ⟨c', z, upd_same⟩
      · obtain ⟨ps', a1, a2, a3⟩ := hT p hp
        refine ⟨ps', by rw [upd_ne (ne_of_none a1 nC), upd_ne hb]; exact a1, a2, fun p' cv hcv => ?_⟩
        obtain ⟨c0, e1, e2⟩ := a3 p' cv hcv
        exact ⟨c0, e1, hE _ _ e2 (noP e2)⟩
    have nF := I1.hok.fresh (Nat.le_refl _)
    have I2 := inv_fnL (c := C) (cl := cloFrom X.env.cells C.scope.names []) (cd := c') (t' := tk) (pm := (X.mg "__name__").getD .none) (ctv := ctv) I1
    refine h h'.objs.size c' _ _ I2 (fun b o e n => ?_) (fun b e => NdefX.upd_none (NdefX.upd_none (NdefX.upd_none e))) (Tabs.ext T1 fun b o e => ?_) upd_same ?_
    · have e1 := hE b o e n
      exact (upd_ne (ne_of_none e1 nF)).trans e1
    · exact (upd_ne (ne_of_none e nF)).trans e
    · exact (upd_ne (Nat.ne_of_lt hlt)).trans upd_same
  | some cv =>
    obtain ⟨c', e, hco⟩ := ha pos cv hc
    subst e
    refine PySem.W.kla_makeFunctionHit (mg := X.mg) (c := c) (P := P) (ps := ps) (closure_ok hfree) I.ok.glob (I.mod.glob.keeps I.bk) hcode (TB.code.keeps I.bk) hP' ht hc bP fun ctv h' tk hx hsz => ?_
    have I1 : Inv X pins σ H { s with heap := h', toks := tk } := I.kept hx
    have nF : H h'.objs.size = none := I1.hok.fresh (Nat.le_refl _)
    have I2 := inv_fnL (c := C) (cl := cloFrom X.env.cells C.scope.names []) (cd := c') (t' := tk) (pm := (X.mg "__name__").getD .none) (ctv := ctv) I1
    refine h h'.objs.size c' _ _ I2 (fun b o e n => ?_) (fun b e => NdefX.upd_none e) (Tabs.ext hT fun b o e => ?_) upd_same ?_
    · exact (upd_ne (ne_of_none e nF)).trans e
    · exact (upd_ne (ne_of_none e nF)).trans e
    · exact (upd_ne (ne_of_none hco nF)).trans hco
end
def tabT : List (Addr × Str) := LamTab.tabs.map fun t => t.2
theorem HRel.tabsT {K : PySem.W.Frag} {mg : Str → Option Value} {L : Ly} {H : Hp} {h : MH} (hr : HRel K mg L H h) : Tabs tabT H := fun p hp => by
  obtain ⟨t, ht, rfl⟩ := List.mem_map.mp hp
  exact (hr.tab t ht).1
theorem HRel.lam {K : PySem.W.Frag} {mg : Str → Option Value} {L : Ly} {H H1 : Hp} {h : MH} {P : Addr} {q : Str} (hr : HRel K mg L H h) (hP : (P, q) ∈ tabT) (e : ExtP P H H1) (T1 : Tabs tabT H1) : HRel K mg L H1 h := by
  obtain ⟨t, ht, et⟩ := List.mem_map.mp hP
  have eP : t.2.1 = P := by rw [et]
  obtain ⟨tb, t2, t3⟩ := hr.tab t ht
  rw [eP] at tb t2 t3
  refine ⟨fun a o z => e a o (hr.sub a o z) fun y => (by rw [y, t2] at z; cases z), fun p hp => ?_, hr.pnd, hr.len, hr.nd, hr.fr, fun p hp => ?_, fun t' ht' => ⟨T1 t'.2 (List.mem_map.mpr ⟨t', ht', rfl⟩), (hr.tab t' ht').2⟩, fun i a o z z2 => ?_, hr.cnt, hr.fx⟩
  · obtain ⟨h1, h2, h3⟩ := hr.pin p hp
    exact ⟨e _ _ h1 (t3 p hp), h2, h3⟩
  · obtain ⟨h1, h2⟩ := hr.cpin p hp
    refine ⟨e _ _ h1 fun y => ?_, h2⟩
    obtain ⟨ps, e1, _⟩ := tb
    rw [y, e1] at h1
    exact hr.cnt p hp ps (Option.some.inj h1).symm
  · have ro := hr.obj i a o z z2
    obtain ⟨u, eu⟩ := ro.some
    have ne : a ≠ P := fun y => by
      obtain ⟨ps, e1, _⟩ := tb
      exact ro.noTab.1 ps (by rw [y]; exact e1)
    exact ro.mono (Ly.le.refl L).w ((e a u eu ne).trans eu.symm)
end Dw
/-! Dw: a def called with a lambda -/
namespace Dw
variable [LamTab]
open PySem PySem.Spec PyProof.Rows L2 LamX

def SatL (K : PySem.W.Frag) (mg : Str → Option Value) (C : LamCode) (cells : List (Str × Addr)) (L : Ly) (r : Res (List W)) (R : List V → Hp → Prop) (E : XK) : Prop := match r with
  | .ok ws h1 => ∀ vs H1 L1 f cd, L.le L1 → HRel K mg L1 H1 h1 → WRels K L1 vs ws → H1 f = some (FnL f C (cloFrom cells C.scope.names []) cd) → H1 cd = some (CodeO cd C.qual) → R (vs ++ [.ref f]) H1
  | .exc c h1 => ∀ cls dd H1 L1, ExcIs mg c cls → L.le L1 → HRel K mg L1 H1 h1 → E cls dd H1
  | .stuck => False
def tMAL (K : PySem.W.Frag) (mg : Str → Option Value) (Wx : WX) (C : LamCode) (cells : List (Str × Addr)) (ms : MA) : TA := fun σ H R => ∃ L ρ h, HRel K mg L H h ∧ ERel K L σ ρ ∧ SatL K mg C cells L (ms ρ h) R (fun c d H' => Wx c d σ H')
theorem SatL.mono {K : PySem.W.Frag} {mg : Str → Option Value} {C : LamCode} {cells : List (Str × Addr)} {L L' : Ly} {r : Res (List W)} {R : List V → Hp → Prop} {E : XK} (l : L.le L') (s : SatL K mg C cells L r R E) : SatL K mg C cells L' r R E := by
  cases r with
  | ok ws h1 => exact fun vs H1 L1 f cd le => s vs H1 L1 f cd (l.trans le)
  | exc c h1 => exact fun cls dd H1 L1 ei le => s cls dd H1 L1 ei (l.trans le)
  | stuck => exact s
section
variable {X : Cx} {Wx : WX} {C : LamCode} {P c : Addr} {pos : Pos} {e : Expr} {es : List Expr} {m : M} {ms : MA}
theorem jal_nil (TB : TabB X.base X.mg c P) (hcode : X.env.code = .ref c) (hq : C.qual = X.env.qual ++ "<lambda>") (hm : (P, C.qual) ∈ tabT) (hu : ∀ p ∈ tabT, p.1 = P → p.2 = C.qual) (hdef : defaultsOf C.params X.env = ([], []))
    (hfree : ∀ y ∈ C.scope.names, y.2 = .free → X.env.scope.names.lookup y.1 = some .cell ∨ X.env.scope.names.lookup y.1 = some .free)
    (hs : starEach [.Lambda C.params C.body C.scope pos] X.env = (false, eval (.Lambda C.params C.body C.scope pos) X.env) :: starEach [] X.env := by rfl) : PA X [.Lambda C.params C.body C.scope pos] (tMAL X.K X.mg Wx C X.env.cells mNil) := by
  have pl : PE X (.Lambda C.params C.body C.scope pos) (fun σ H Q => Tabs tabT H ∧ ∀ f cd H1, ExtP P H H1 → Tabs tabT H1 → H1 f = some (FnL f C (cloFrom X.env.cells C.scope.names []) cd) → H1 cd = some (CodeO cd C.qual) → Q (.ref f) H1) := by
    refine ⟨fun pins s σ H Q I h => ?_⟩
    refine lam_make3 I TB hcode hq hm hu h.1 hdef (fun y hy e => (hfree y hy e).elim (fun z => I.ok.has _ (.inl z)) fun z => I.ok.has _ (.inr z)) fun f cd H1 s' I1 eP _ T1 e1 e2 => ?_
    exact ⟨.ref f, H1, I1, rfl, h.2 f cd H1 eP T1 e1 e2⟩
  refine paI (pa_cons pl pa_nil hs) fun σ H Q ⟨L, ρ, h, hr, er, s⟩ => ⟨hr.tabsT, fun f cd H1 eP T1 e1 e2 => ?_⟩
  exact s [] H1 L f cd (Ly.le.refl L) (hr.lam hm eP T1) .nil e1 e2
theorem jal_cons (ha : JE X Wx e m) (hr : PA X es (tMAL X.K X.mg Wx C X.env.cells ms)) (hs : starEach (e :: es) X.env = (false, eval e X.env) :: starEach es X.env := by rfl) : PA X (e :: es) (tMAL X.K X.mg Wx C X.env.cells (mCons m ms)) :=
  paI (pa_cons ha hr hs) fun σ H Q ⟨L, ρ, h, hr, er, s⟩ => ⟨L, ρ, h, hr, er, by
    unfold mCons at s
    cases q : m ρ h with
    | stuck => rw [q] at s; exact s.elim
    | exc c h1 => rw [q] at s; exact s
    | ok w h1 =>
      rw [q] at s
      intro v H1 L1 le1 hr1 r1
      refine ⟨L1, ρ, h1, hr1, er.mono le1, ?_⟩
      have s : SatL X.K X.mg C X.env.cells L ((ms ρ h1).bind fun ws h2 => Res.ok (w :: ws) h2) Q fun c d H' => Wx c d σ H' := s
      cases q2 : ms ρ h1 with
      | stuck => rw [q2] at s; exact s.elim
      | exc c h2 => rw [q2] at s; exact fun cls dd H2 L2 ei le2 => s cls dd H2 L2 ei (le1.trans le2)
      | ok ws h2 =>
        rw [q2] at s
        exact fun vs H2 L2 f cd le2 hr2 rs e1 e2 => s (v :: vs) H2 L2 f cd (le1.trans le2) hr2 (.cons (WRel.mono le2 _ _ r1) rs) e1 e2⟩
end
/-- the captured values -/
def capsOf (ρ : ME) : List Nat → Option (List W)
  | [] => some []
  | j :: js => match ρ[j]? with
    | some (some w) => (capsOf ρ js).map (w :: ·)
    | _ => none
def mCallHO (m : FSpec) (k : Nat) (js : List Nat) (ms : MA) : M := fun ρ h => (ms ρ h).bind fun ws h1 => match capsOf ρ js with
  | some caps => if W.nocloAll caps then noClo (m (ws ++ [.clo k caps]) h1) else .stuck
  | none => .stuck
theorem caps_rel {K : PySem.W.Frag} {L : Ly} {σ : L2.St} {ρ : ME} (er : ERel K L σ ρ) : ∀ {js : List Nat} {caps : List W}, capsOf ρ js = some caps → ∃ xs : List V, js.map (NdefX.slotAt σ) = xs.map some ∧ WRels K L xs caps
  | [], caps, e => by cases e; exact ⟨[], rfl, .nil⟩
  | j :: js, caps, e => by
    unfold capsOf at e
    split at e
    · rename_i w ej
      obtain ⟨cs, e1, e2⟩ := Option.map_eq_some_iff.mp e
      subst e2
      obtain ⟨v, a, b⟩ := er.v j w ej
      obtain ⟨xs, h1, h2⟩ := caps_rel er e1
      exact ⟨v :: xs, by rw [List.map_cons, List.map_cons, h1, NdefX.slotAt_of a], .cons b h2⟩
    · cases e
theorem WRels.app {K : PySem.W.Frag} {L : Ly} : ∀ {vs us : List V} {ws xs : List W}, WRels K L vs ws → WRels K L us xs → WRels K L (vs ++ us) (ws ++ xs)
  | _, _, [], _, h, g => by cases h; exact g
  | _, _, _ :: _, _, h, g => by
    cases h with
    | cons h1 h2 => exact .cons h1 (WRels.app h2 g)
open Classical in
noncomputable def cellH (S : List Addr) (h : Heap) : Hp := fun a => if a ∈ S then (match h.get? a with
  | some o => some (CellO o)
  | none => none) else none
section
variable {X : Cx} {Wx : WX} {x : Str} {p pos : Pos} {e : Expr} {es : List Expr} {ms : MA} {m : FSpec} {i j lvl n k : Nat} {C : LamCode} {js : List Nat}
theorem je_callHO (T : FSt X.prog X.w X.K X.mg X.base lvl x (n + 1) m) (hr : Room j X.A) (hk : lvl ≤ j) (hg : Gl X x) (hC : LamTab.code k = some C)
    (hfr : ∀ y ∈ C.fr, (y, NameKind.free) ∈ C.scope.names) (hnf : ∀ y ∈ C.scope.names, y.2 = .free → y.1 ∈ C.fr)
    (hfree : ∀ y ∈ C.scope.names, y.2 = .free → X.env.scope.names.lookup y.1 = some .cell ∨ X.env.scope.names.lookup y.1 = some .free) (hfn : ∀ y, X.fn y = true) (hjs : js.map (fun j => X.N[j]?) = C.fr.map some)
    (ha : PA X (e :: es) (tMAL X.K X.mg Wx C X.env.cells ms)) (hlen : ∀ ρ h ws h', ms ρ h = .ok ws h' → ws.length = n) (hdb : (x == ("__debug__" : Str)) = false := by decide)
    (he : starEach (e :: es) X.env = (false, eval e X.env) :: starEach es X.env := by rfl) (hpl : (backTo pos (starEach es X.env)).any (·.1) = false := by rfl) :
    JE X Wx (.Call (.Name x p) (e :: es) [] pos) (mCallHO m k js ms) := by
  obtain ⟨g, fd, ps, mgf, kp, b, F⟩ := T.ex
  refine ⟨fun pins s σ H Q I h => ?_⟩
  obtain ⟨L, ρ, mh, hrl, er, s0⟩ := h
  unfold mCallHO at s0
  refine wpAny_Call_Name_kw (ld_glob I hg mgf ?_ hdb)
  cases q : ms ρ mh with
  | stuck => rw [q] at s0; exact s0.elim
  | exc cc h1 =>
    rw [q] at s0
    refine PySem.W.callWith_K (h₀ := X.base) I.ok.mod.kin kp (thn (ha.run pos pins s σ H (fun _ _ => False) I ⟨L, ρ, mh, hrl, er, ?_⟩) fun us s1 ⟨vs, H1, I1, r, z⟩ => z.elim) he hpl
    rw [q]
    exact s0
  | ok ws h1 =>
    rw [q] at s0
    have s0 : Sat X.K X.mg (WRel X.K) L (match capsOf ρ js with
      | some caps => if W.nocloAll caps = true then noClo (m (ws ++ [.clo k caps]) h1) else .stuck
      | none => .stuck) Q fun c d H' => Wx c d σ H' := s0
    split at s0
    · rename_i caps ec
      split at s0
      · rename_i ncc
        cases qt : m (ws ++ [.clo k caps]) h1 with
        | stuck => rw [qt] at s0; exact (show False from s0).elim
        | exc cc h3 => rw [qt] at s0; exact (show False from s0).elim
        | ok w h3 =>
          rw [qt] at s0
          have s0 : Sat X.K X.mg (WRel X.K) L (if w.noclo = true then .ok w h3 else .stuck) Q fun c d H' => Wx c d σ H' := s0
          split at s0
          · rename_i nw
            refine PySem.W.callWith_K (h₀ := X.base) I.ok.mod.kin kp (thn (ha.run pos pins s σ H (fun vs0 H1 => ∃ vs L1 f cd, vs0 = vs ++ [.ref f] ∧ L.le L1 ∧ HRel X.K X.mg L1 H1 h1 ∧ WRels X.K L1 vs ws ∧ H1 f = some (FnL f C (cloFrom X.env.cells C.scope.names []) cd) ∧ H1 cd = some (CodeO cd C.qual)) I ⟨L, ρ, mh, hrl, er, ?_⟩)
              fun us s1 ⟨vs0, H1, I1, r, vs, L1, f, cd, ev, le1, hr1, rs, e1, e2⟩ => ⟨I1.kIn, ?_⟩) he hpl
            · rw [q]
              exact fun vs H1 L1 f cd le hr1 rs e1 e2 => ⟨vs, L1, f, cd, rfl, le, hr1, rs, e1, e2⟩
            subst ev
            show wpAny _ _ (call (.ref g) us) _ _ _
            obtain ⟨xs, exs, rxs⟩ := caps_rel er ec
            have hfree' : ∀ y ∈ C.scope.names, y.2 = .free → ∃ c, X.env.cells.lookup y.1 = some c := fun y hy e => (hfree y hy e).elim (fun z => I1.ok.has _ (.inl z)) fun z => I1.ok.has _ (.inr z)
            have CA := NdefX.cells_of I1 (NdefX.Caps.made (js := js) (fr := C.fr) I1.ok hfree hfr hjs)
            rw [exs] at CA
            generalize hcl : cloFrom X.env.cells C.scope.names [] = cl at CA e1
            have inX : ∀ {y : Str} {c : Addr}, cl.lookup y = some c → X.env.cells.lookup y = some c := fun {y c} e => by rw [← hcl] at e; exact NdefX.clo_cm hfree' e
            have inFr : ∀ y c, cl.lookup y = some c → y ∈ C.fr := fun y c e => by
              rw [← hcl] at e
              rcases cloFrom_mem (PySem.mem_of_lookup e) with hm | ⟨z, _⟩
              · cases hm
              · exact hnf (y, .free) z rfl
            have inS : ∀ b ∈ clS cl C.fr, ∃ y, cl.lookup y = some b := fun b hb => by
              obtain ⟨y, _, e⟩ := List.mem_filterMap.mp hb
              exact ⟨y, e⟩
            have nS : ∀ b ∈ clS cl C.fr, H1 b = none := fun b hb => by
              obtain ⟨y, e⟩ := inS b hb
              exact (CA.all y b e).1
            have big : ∀ b ∈ clS cl C.fr, X.s_0.heap.objs.size ≤ b := fun b hb => by
              obtain ⟨y, e⟩ := inS b hb
              exact I1.ok.cab y b (hfn y) (inX e)
            have obS : ∀ b ∈ clS cl C.fr, ∃ o, s1.heap.get? b = some o ∧ cellH (clS cl C.fr) s1.heap b = some (CellO o) := fun b hb => by
              obtain ⟨y, e⟩ := inS b hb
              obtain ⟨_, v, o, ho, _⟩ := CA.all y b e
              refine ⟨o, ho, ?_⟩
              unfold cellH
              rw [if_pos hb, ho]
            have c0 : Cel (clS cl C.fr) (cellH (clS cl C.fr) s1.heap) := fun b hb => by
              obtain ⟨o, _, e⟩ := obS b hb
              exact ⟨o, e⟩
            generalize hH2 : put0 (clS cl C.fr) (cellH (clS cl C.fr) s1.heap) H1 = H2
            have at2 : ∀ {b : Addr}, b ∈ clS cl C.fr → H2 b = cellH (clS cl C.fr) s1.heap b := fun {b} z => by rw [← hH2]; exact put0_in z
            have off2 : ∀ {b : Addr}, b ∉ clS cl C.fr → H2 b = H1 b := fun {b} z => by rw [← hH2]; exact put0_out z
            have out1 : ∀ {b : Addr} {u : HO}, H1 b = some u → b ∉ clS cl C.fr := fun {b u} e z => by rw [nS b z] at e; cases e
            have c2 : Cel (clS cl C.fr) H2 := fun b hb => by
              obtain ⟨o, e⟩ := c0 b hb
              exact ⟨o, (at2 hb).trans e⟩
            have hok2 : HOk X.prog X.w H2 s1.heap := by
              rw [← hH2]
              exact hok_show I1.hok nS fun b hb => by
                obtain ⟨o, h1, h2⟩ := obS b hb
                exact ⟨o, h2, h1⟩
            have eb := I1.env0
            have e3 : Env0 X.prog X.w X.K X.mg X.base X.A X.stack s1 H2 := by
              refine ⟨eb.frames, eb.mod, fun b o e => ⟨(eb.bs b o e).1, ?_⟩, eb.bsz, eb.funs, fun b hb => ?_, hok2, eb.bare⟩
              · rw [off2 fun z => absurd (Nat.lt_of_lt_of_le (Heap.lt_size e) (Nat.le_trans I1.ok.bsz (big b z))) (Nat.lt_irrefl _)]
                exact (eb.bs b o e).2
              · rw [off2 fun z => ?_]
                · exact eb.frf b hb
                · rcases List.mem_cons.mp (I1.stkSub b hb) with y | y
                  · obtain ⟨y', e⟩ := inS b z
                    exact I1.cne y' b (inX e) y
                  · obtain ⟨_, o, ho, _⟩ := I1.ok.funs.mem y
                    exact absurd (Nat.lt_of_lt_of_le (Heap.lt_size ho) (big b z)) (Nat.lt_irrefl _)
            generalize hN : ((f, FnL f C cl cd) :: (cd, CodeO cd C.qual) :: (clS cl C.fr).filterMap fun a => (cellH (clS cl C.fr) s1.heap a).map fun o => (a, o)) = nw2
            have hr2 : HRel X.K X.mg { L1 with C := L1.C ++ nw2 } H2 h1 := by
              rw [← hH2]
              refine hr1.add nS c0 fun pp hp => ?_
              rw [hH2]
              rw [← hN] at hp
              rcases List.mem_cons.mp hp with rfl | hp
              · exact ⟨(off2 (out1 e1)).trans e1, .inl ⟨_, rfl⟩⟩
              · rcases List.mem_cons.mp hp with rfl | hp
                · exact ⟨(off2 (out1 e2)).trans e2, .inl ⟨_, rfl⟩⟩
                · obtain ⟨a, ha, e⟩ := List.mem_filterMap.mp hp
                  obtain ⟨o, e', rfl⟩ := Option.map_eq_some_iff.mp e
                  exact ⟨(at2 ha).trans e', .inr ha⟩
            have lx : L1.lw { L1 with C := L1.C ++ nw2 } := ⟨fun _ _ z => z, List.prefix_refl _, fun p z => List.mem_append_left _ z⟩
            have cellIn : ∀ b ∈ clS cl C.fr, ∀ o, cellH (clS cl C.fr) s1.heap b = some (CellO o) → (b, CellO o) ∈ L1.C ++ nw2 := fun b hb o e => by
              refine List.mem_append_right _ ?_
              rw [← hN]
              refine List.mem_cons_of_mem _ (List.mem_cons_of_mem _ (List.mem_filterMap.mpr ⟨b, hb, ?_⟩))
              rw [e]
              rfl
            have rclo : WRel X.K { L1 with C := L1.C ++ nw2 } (.ref f) (.clo k caps) := by
              refine .clo (cd := cd) (cl := cl) (xs := xs) hC (List.mem_append_right _ (by rw [← hN]; exact List.mem_cons_self ..)) (List.mem_append_right _ (by rw [← hN]; exact List.mem_cons_of_mem _ (List.mem_cons_self ..))) ⟨?_, inFr, CA.inj, fun i y ey => ?_⟩ (WRels.monoW lx _ _ (WRels.mono le1 _ _ rxs))
              · have := CA.len
                rw [List.length_map] at this
                exact this
              · obtain ⟨c, hc, hv⟩ := CA.has i y ey
                have hcS : c ∈ clS cl C.fr := List.mem_filterMap.mpr ⟨y, List.mem_of_getElem? ey, hc⟩
                have hi : i < xs.length := by
                  have := CA.len
                  rw [List.length_map] at this
                  rw [this]
                  exact (List.getElem?_eq_some_iff.mp ey).1
                obtain ⟨u, ru, o, ho, hd⟩ := hv xs[i] (by rw [List.getElem?_map, List.getElem?_eq_getElem hi]; rfl)
                refine ⟨c, o, u, xs[i], hc, cellIn c hcS o ?_, hd, List.getElem?_eq_getElem hi, ru⟩
                unfold cellH
                rw [if_pos hcS, ho]
            have hl : us.length = ps.length := by
              rw [← r.length]
              refine F.len _ H2 (fun _ _ => True) E00 ⟨?_, { L1 with C := L1.C ++ nw2 }, h1, ws ++ [.clo k caps], hr2, (WRels.monoW lx _ _ rs).app (.cons rclo .nil), ?_⟩
              · rw [List.length_append, rs.length, hlen ρ mh ws h1 q]
                rfl
              · rw [qt]
                exact fun _ _ _ _ _ _ => trivial
            have bb := b s1 us I1.kIn (by rw [List.append_nil]; exact hl)
            rw [List.append_nil] at bb
            refine wpAny_call (codeAny_mono (F.run X.A X.stack s1 H2 ⟨us, []⟩ us (vs ++ [.ref f]) (fun v H' => ∃ L', ({ L1 with C := L1.C ++ nw2 } : Ly).le L' ∧ HRel X.K X.mg L' H' h3 ∧ WRel X.K L' v w) E00 (hr.mono hk) e3 bb r
              ⟨by rw [List.length_append, rs.length, hlen ρ mh ws h1 q]; rfl, { L1 with C := L1.C ++ nw2 }, h1, ws ++ [.clo k caps], hr2, (WRels.monoW lx _ _ rs).app (.cons rclo .nil), by rw [qt]; exact fun v H' L' le' hr' rv => ⟨L', le', hr', rv⟩⟩) fun rr s' hq => ?_)
            cases rr with
            | error e => exact (cx_no' hq).elim
            | ok fl =>
              cases fl with
              | ret u =>
                obtain ⟨v, H', os, bare, un, hok, rv, L', le', hr', rw'⟩ := hq
                obtain ⟨c', un'⟩ := un_hide c2 hok2 hok un
                have eH : hid (clS cl C.fr) H2 = H1 := by
                  funext b
                  by_cases z : b ∈ clS cl C.fr
                  · rw [hid_in z, nS b z]
                  · rw [hid_out z, off2 z]
                rw [eH] at un'
                refine I1.after ⟨v, hid (clS cl C.fr) H', os, bare, un', hok_hid hok c', rv, ?_⟩
                have hSL : ∀ b ∈ clS cl C.fr, ∃ o, (b, CellO o) ∈ L'.C := fun b hb => by
                  obtain ⟨o, e⟩ := c0 b hb
                  exact ⟨o, le'.c _ (cellIn b hb o e)⟩
                refine s0 v _ { L' with C := L'.C.filter fun p => decide (p.1 ∉ clS cl C.fr) } ⟨fun a o z => le'.f a o (le1.f a o z), le1.m.trans le'.m, le'.p.trans le1.p, fun pp hp => ?_⟩ (hr'.drop hSL) (WRel.reC (tup_hide hr' fun b hb => ?_) _ _ rw' nw)
                · exact List.mem_filter.mpr ⟨le'.c _ (List.mem_append_left _ (le1.c _ hp)), decide_eq_true (out1 (hr1.cpin pp (le1.c _ hp)).1)⟩
                · obtain ⟨o, m⟩ := hSL b hb
                  exact ⟨o, (cpin_cell hr' m).1⟩
              | next => exact False.elim hq
              | brk => exact False.elim hq
              | cont => exact False.elim hq
          · exact s0.elim
      · exact s0.elim
    · exact s0.elim
end
end Dw
/-! Dw: classes -/
namespace Dw
variable [LamTab]
open PySem PySem.Spec PyProof.Rows L2

structure ClsN (K : PySem.W.Frag) (mg : Str → Option Value) (c : Str) (nm : List Str) : Prop where
  ex : ∃ C, mg c = some (.ref C) ∧ Cls K C ∧ ∀ f ∈ nm, NoAttr K C f
def insOf (c : Str) (w : W) (h : MH) : Option (Nat × List (Str × W)) := match w with
  | .ref i => (match h[i]? with
    | some (.ins c' fs) => if c' = c then some (i, fs) else none
    | _ => none)
  | _ => none
theorem insOf_some {c : Str} {w : W} {h : MH} {i : Nat} {fs : List (Str × W)} (e : insOf c w h = some (i, fs)) : w = .ref i ∧ h[i]? = some (.ins c fs) := by
  unfold insOf at e
  split at e
  · split at e
    · split at e
      · rename_i hc
        cases e
        subst hc
        exact ⟨rfl, by assumption⟩
      · cases e
    · cases e
  · cases e
def mFld (c f : Str) (m : M) : M := fun ρ h => (m ρ h).bind fun w h1 => match insOf c w h1 with
  | some (_, fs) => (match fs.lookup f with
    | some x => .ok x h1
    | none => .stuck)
  | none => .stuck
def putFW (f : Str) (v : W) : List (Str × W) → List (Str × W)
  | [] => [(f, v)]
  | (g, x) :: r => if g = f then (g, v) :: r else (g, x) :: putFW f v r
def mSetF (c f : Str) (mo mv : M) : MS := fun ρ h => (mv ρ h).toS ρ fun w h1 => (mo ρ h1).toS ρ fun x h2 => match insOf c x h2 with
  | some (i, fs) => if w.noclo = true ∧ fs.length < 1000 then .nx ρ (h2.set i (.ins c (putFW f w fs))) else .stuck
  | none => .stuck
section
variable {K : PySem.W.Frag} {mg : Str → Option Value} {L : Ly} {H : Hp} {h : MH} {v : V} {w : W} {c f : Str} {i : Nat} {fs : List (Str × W)} {vs : List (Str × V)}
theorem FRel.look (r : FRel K L vs fs) {x : W} (e : fs.lookup f = some x) : ∃ v, vs.lookup f = some v ∧ WRel K L v x := by
  unfold FRel at r
  induction r with
  | nil => cases e
  | cons h t ih =>
    rename_i p q ps qs
    obtain ⟨p1, p2⟩ := p
    obtain ⟨q1, q2⟩ := q
    obtain ⟨e1, e2⟩ := h
    have e1 : p1 = q1 := e1
    subst e1
    by_cases hf : f = p1
    · subst hf
      simp only [List.lookup, beq_self_eq_true] at e ⊢
      cases e
      exact ⟨p2, rfl, e2⟩
    · have hb : (f == p1) = false := beq_eq_false_iff_ne.mpr hf
      simp only [List.lookup, hb] at e ⊢
      exact ih e
theorem FRel.none_ (r : FRel K L vs fs) (e : fs.lookup f = none) : vs.lookup f = none := by
  unfold FRel at r
  induction r with
  | nil => rfl
  | cons h t ih =>
    rename_i p q ps qs
    obtain ⟨p1, p2⟩ := p
    obtain ⟨q1, q2⟩ := q
    obtain ⟨e1, e2⟩ := h
    have e1 : p1 = q1 := e1
    subst e1
    by_cases hf : f = p1
    · subst hf
      simp only [List.lookup, beq_self_eq_true] at e
      cases e
    · have hb : (f == p1) = false := beq_eq_false_iff_ne.mpr hf
      simp only [List.lookup, hb] at e ⊢
      exact ih e
theorem FRel.put (r : FRel K L vs fs) {x : V} {y : W} (rx : WRel K L x y) : FRel K L (putF f x vs) (putFW f y fs) := by
  unfold FRel at r ⊢
  induction r with
  | nil => exact .cons ⟨rfl, rx⟩ .nil
  | cons h t ih =>
    rename_i p q ps qs
    obtain ⟨p1, p2⟩ := p
    obtain ⟨q1, q2⟩ := q
    obtain ⟨e1, e2⟩ := h
    have e1 : p1 = q1 := e1
    subst e1
    unfold putF putFW
    by_cases hf : p1 = f
    · rw [if_pos hf, if_pos hf]
      exact .cons ⟨rfl, rx⟩ t
    · rw [if_neg hf, if_neg hf]
      exact .cons ⟨rfl, e2⟩ ih
theorem FRel.len (r : FRel K L vs fs) : vs.length = fs.length := by
  unfold FRel at r
  induction r with
  | nil => rfl
  | cons h t ih => simp [ih]
theorem noclo_put {y : W} (ny : y.noclo = true) : ∀ {fs : List (Str × W)}, (fs.all fun p => p.2.noclo) = true → ((putFW f y fs).all fun p => p.2.noclo) = true
  | [], _ => by simp [putFW, ny]
  | (g, x) :: r, h => by
    rw [List.all_cons, Bool.and_eq_true] at h
    unfold putFW
    split
    · rw [List.all_cons, ny, h.2]; rfl
    · rw [List.all_cons, noclo_put ny h.2, h.1]; rfl
theorem ins_at (hr : HRel K mg L H h) (r : WRel K L v w) (e : insOf c w h = some (i, fs)) : ∃ a C dx vs, v = .ref a ∧ L.mu[i]? = some a ∧ mg c = some (.ref C) ∧ H a = some (.ins C dx vs) ∧ FRel K L vs fs ∧ (fs.all fun p => p.2.noclo) = true := by
  obtain ⟨rfl, e2⟩ := insOf_some e
  cases r with
  | ref r =>
    rename_i a
    cases hr.obj i a _ r e2 with
    | ins h0 h1 h2 h3 => exact ⟨a, _, _, _, rfl, r, h0, h1, h2, h3⟩
theorem HRel.more (hr : HRel K mg L H h) {p : Addr} {u : HO} (np : H p = none) : HRel K mg L (upd H p u) h := by
  have ne : ∀ {a : Addr} {o : HO}, H a = some o → a ≠ p := fun {a o} e z => by rw [z, np] at e; cases e
  refine ⟨fun a o e => ?_, fun q hq => ?_, hr.pnd, hr.len, hr.nd, hr.fr, fun q hq => ?_, fun t ht => ⟨tab_new (hr.tab t ht).1 np, (hr.tab t ht).2⟩, fun i a o e e2 => ?_, hr.cnt, hr.fx⟩
  · have := hr.sub a o e
    rw [upd_ne (ne this)]
    exact this
  · obtain ⟨h1, h2, h3⟩ := hr.pin q hq
    exact ⟨by rw [upd_ne (ne h1)]; exact h1, h2, h3⟩
  · obtain ⟨h1, h2⟩ := hr.cpin q hq
    exact ⟨by rw [upd_ne (ne h1)]; exact h1, h2⟩
  · have ro := hr.obj i a o e e2
    obtain ⟨u', eu⟩ := ro.some
    exact ro.mono (Ly.le.refl L).w (upd_ne (ne eu))
end
section
variable {X : Cx} {Wx : WX} {e o value : Expr} {m mo mv : M} {c f : Str} {nm : List Str} {pos pos' : Pos}
theorem je_fld (T : ClsN X.K X.mg c nm) (he : JE X Wx e m) (hf : f ∈ nm := by decide) (hb : attributeBase e f X.env (eval e X.env) = eval e X.env := by rfl) : JE X Wx (.Attribute e f pos) (mFld c f m) := by
  obtain ⟨C, mc, cl, na⟩ := T.ex
  refine peI (pe_fld he hb) fun σ H Q ⟨L, ρ, h, hr, er, s⟩ => ⟨L, ρ, h, hr, er, s.bind fun v H1 L1 w h1 le1 hr1 r1 s1 => ?_⟩
  split at s1
  · rename_i x fs ei
    split at s1
    · rename_i y ey
      obtain ⟨a, C', dx, vs, e1, e2, e3, e4, e5, _⟩ := ins_at hr1 r1 ei
      rw [mc] at e3
      cases e3
      obtain ⟨u, l, ru⟩ := e5.look ey
      exact ⟨a, C, dx, vs, u, e1, e4, cl, na f hf, l, s1 _ _ _ (Ly.le.refl _) hr1 ru⟩
    · exact s1.elim
  · exact s1.elim
theorem js_fld (T : ClsN X.K X.mg c nm) (ho : JE X Wx o mo) (hv : JE X Wx value mv) (hf : f ∈ nm := by decide) (hs : swapsWith value (some (.Attribute o f pos')) pos.line X.env = pure false := by rfl) : JS X Wx (.Assign [.Attribute o f pos'] value pos) (mSetF c f mo mv) := by
  obtain ⟨C, mc, cl, na⟩ := T.ex
  refine psI (ps_fld ho hv hs) fun D σ H ⟨L, ρ, h, hr, er, s⟩ => ⟨L, ρ, h, hr, er, Sat.toS er s fun v H1 L1 w h1 le1 hr1 r1 s1 => ⟨L1, ρ, h1, hr1, er.mono le1, Sat.toS (er.mono le1) s1 fun x H2 L2 y h2 le2 hr2 r2 s2 => ?_⟩⟩
  split at s2
  · rename_i i fs ei
    split at s2
    · rename_i hz
      obtain ⟨a, C', dx, vs, e1, e2, e3, e4, e5, e6⟩ := ins_at hr2 r2 ei
      rw [mc] at e3
      cases e3
      obtain ⟨_, ei2⟩ := insOf_some ei
      refine ⟨a, C, dx, vs, e1, e4, cl, na f hf, by rw [e5.len]; exact hz.2, ?_⟩
      exact s2 σ _ L2 (Ly.le.refl _) (hr2.put e2 (.ins mc upd_same (e5.put (WRel.mono le2 _ _ r1)) (noclo_put hz.1 e6))) ((er.mono le1).mono le2)
    · exact s2.elim
  · exact s2.elim
end
/-! ### making, methods -/
structure MkN (P : Program) (w : World) (K : PySem.W.Frag) (mg : Str → Option Value) (base : Heap) (k : Nat) (c : Str) (n : Nat) (m : FSpec) : Prop where
  ex : ∃ C f fd ps, mg c = some (.ref C) ∧ Mk K C f ∧ Binds K fd ps [] ∧ FnOk P w K mg base (L2.CX P w) k f fd ps (spF K mg n m)
structure MethN (P : Program) (w : World) (K : PySem.W.Frag) (mg : Str → Option Value) (base : Heap) (k : Nat) (c x : Str) (n : Nat) (m : FSpec) : Prop where
  ex : ∃ C f fd ps, mg c = some (.ref C) ∧ Cls K C ∧ Meth K C x f ∧ Binds K fd ps [] ∧ FnOk P w K mg base (L2.CX P w) k f fd ps (spF K mg n m)
def mMake (c : Str) (m : FSpec) (ms : MA) : M := fun ρ h => (ms ρ h).bind fun ws h1 => match m (.ref h1.length :: ws) (h1 ++ [.ins c []]) with
  | .ok (.d .none) h2 => .ok (.ref h1.length) h2
  | _ => .stuck
def mMeth (c x : Str) (m : FSpec) (mo : M) (ms : MA) : M := fun ρ h => (mo ρ h).bind fun o h1 => match insOf c o h1 with
  | some (_, fs) => if fs.lookup x = none then (ms ρ h1).bind fun ws h2 => noExc (m (o :: ws) h2) else .stuck
  | none => .stuck
theorem pass00 {X : Cx} : Passes (L2.CX X.prog X.w) X E00 := fun _ _ _ _ _ _ _ z => (cx_no' z).elim
section
variable {X : Cx} {Wx : WX} {e o : Expr} {es : List Expr} {mo : M} {ms : MA} {m : FSpec} {c x : Str} {p pos apos : Pos} {j k n : Nat}
theorem je_make (T : MkN X.prog X.w X.K X.mg X.base k c (n + 1) m) (hr : Room j X.A) (hk : k + 1 ≤ j) (hg : Gl X c) (ha : JA X Wx (e :: es) ms) (hlen : ∀ ρ h ws h', ms ρ h = .ok ws h' → ws.length = n) (hdb : (c == ("__debug__" : Str)) = false := by decide)
    (he : starEach (e :: es) X.env = (false, eval e X.env) :: starEach es X.env := by rfl) (hpl : (backTo pos (starEach es X.env)).any (·.1) = false := by rfl) : JE X Wx (.Call (.Name c p) (e :: es) [] pos) (mMake c m ms) := by
  obtain ⟨C, f, fd, ps, mc, M, b, F⟩ := T.ex
  refine peI (pe_make (E := E00) M F (hr.mono hk) hg mc b .nil pass00 ha hdb he hpl) fun σ H Q ⟨L, ρ, h, hrl, er, s⟩ => ⟨L, ρ, h, hrl, er, ?_⟩
  unfold mMake at s
  cases q : ms ρ h with
  | stuck => rw [q] at s; exact s.elim
  | exc cc h1 => rw [q] at s; exact s
  | ok ws h1 =>
    rw [q] at s
    intro vs H1 L1 le1 hr1 r1 a dx na nd ne
    rw [List.append_nil]
    have s : Sat X.K X.mg (WRel X.K) L (match m (.ref h1.length :: ws) (h1 ++ [.ins c []]) with
      | .ok (.d .none) h2 => .ok (.ref h1.length) h2
      | _ => .stuck) Q fun c d H' => Wx c d σ H' := s
    have na' : upd H1 dx (.own a) a = none := by rw [upd_ne ne.symm]; exact na
    obtain ⟨le2, hr2⟩ := (hr1.more (u := .own a) nd).new (u := .ins C dx []) (o := .ins c []) na' (.ins mc upd_same .nil rfl)
    have mu : (L1.new a).mu[h1.length]? = some a := by
      show (L1.mu ++ [a])[h1.length]? = _
      rw [← hr1.len, List.getElem?_append_right (Nat.le_refl _)]
      simp
    refine ⟨by rw [List.length_cons, r1.length, hlen ρ h ws h1 q], L1.new a, _, .ref h1.length :: ws, hr2, .cons (.ref mu) (WRels.mono le2 _ _ r1), ?_⟩
    split at s
    · rename_i h2 qm
      rw [qm]
      intro v H' L' le' hr' rv
      refine ⟨?_, s _ _ L' (le1.trans (le2.trans le')) hr' (.ref (le'.at mu))⟩
      cases rv with
      | d rv => cases rv; rfl
    · exact s.elim
theorem meth_read {Wx : WX} {ta : TE} {σ : L2.St} {H : Hp} {Q : VK} {C : Addr} (mc : X.mg c = some (.ref C)) (hlen : ∀ ρ h ws h', ms ρ h = .ok ws h' → ws.length = n)
    (t : tM X.K X.mg Wx (mMeth c x m mo ms) σ H Q) : tMeth C x (spF X.K X.mg (n + 1) m) [] E00 (tM X.K X.mg Wx mo) (tMA X.K X.mg Wx ms) σ H Q := by
  obtain ⟨L, ρ, h, hr, er, s⟩ := t
  refine ⟨L, ρ, h, hr, er, s.bind fun v H1 L1 o h1 le1 hr1 r1 s1 => ?_⟩
  split at s1
  · rename_i i fs ei
    split at s1
    · rename_i el
      obtain ⟨a, C', dx, vs, e1, e2, e3, e4, e5, _⟩ := ins_at hr1 r1 ei
      rw [mc] at e3
      cases e3
      refine ⟨a, dx, vs, e1, e4, e5.none_ el, L1, ρ, h1, hr1, er.mono le1, ?_⟩
      cases q : ms ρ h1 with
      | stuck => rw [q] at s1; exact s1.elim
      | exc cc h2 => rw [q] at s1; exact s1
      | ok ws h2 =>
        rw [q] at s1
        intro us H2 L2 le2 hr2 r2
        rw [List.append_nil]
        refine ⟨by rw [List.length_cons, r2.length, hlen ρ h1 ws h2 q], L2, h2, o :: ws, hr2, .cons (WRel.mono le2 _ _ r1) r2, ?_⟩
        have s1 : Sat X.K X.mg (WRel X.K) L1 (noExc (m (o :: ws) h2)) Q fun c d H' => Wx c d σ H' := s1
        exact sat_noExc (Sat.mono le2 (noExc_sat (E' := E00) s1))
    · exact s1.elim
  · exact s1.elim
theorem je_meth (T : MethN X.prog X.w X.K X.mg X.base k c x (n + 1) m) (hr : Room j X.A) (hk : k ≤ j) (ho : JE X Wx o mo) (ha : JA X Wx (e :: es) ms) (hlen : ∀ ρ h ws h', ms ρ h = .ok ws h' → ws.length = n) {pl : Sem Bool}
    (hst : starEach (e :: es) X.env = (false, eval e X.env) :: starEach es X.env := by rfl) (hpl : (backTo pos (starEach es X.env)).any (·.1) = false := by rfl)
    (ht : eval (.Call (.Attribute o x apos) (e :: es) [] pos) X.env = (do
      let ov ← eval o X.env
      standAt apos.atName
      let (f, first) ← holding [ov] (getMethod ov x pl)
      callWith pos f first (backTo pos (starEach (e :: es) X.env)) (backToKw pos (keywordEach [] X.env))) := by rfl) : JE X Wx (.Call (.Attribute o x apos) (e :: es) [] pos) (mMeth c x m mo ms) := by
  obtain ⟨C, f, fd, ps, mc, cl, M, b, F⟩ := T.ex
  exact peI (pe_meth (E := E00) ho cl M F (hr.mono hk) b .nil pass00 ha hst hpl ht) fun σ H Q t => meth_read (ta := tM X.K X.mg Wx mo) mc hlen t
theorem je_meth0 (T : MethN X.prog X.w X.K X.mg X.base k c x 1 m) (hr : Room j X.A) (hk : k ≤ j) (ho : JE X Wx o mo) {pl : Sem Bool}
    (ht : eval (.Call (.Attribute o x apos) [] [] pos) X.env = (do
      let ov ← eval o X.env
      standAt apos.atName
      let (f, first) ← holding [ov] (getMethod ov x pl)
      callWith pos f first (backTo pos (starEach [] X.env)) (backToKw pos (keywordEach [] X.env))) := by rfl) : JE X Wx (.Call (.Attribute o x apos) [] [] pos) (mMeth c x m mo mNil) := by
  obtain ⟨C, f, fd, ps, mc, cl, M, b, F⟩ := T.ex
  refine peI (pe_meth0 (E := E00) ho cl M F (hr.mono hk) b .nil pass00 ht) fun σ H Q t => ?_
  have r := meth_read (n := 0) (ta := tM X.K X.mg Wx mo) mc len_nil t
  obtain ⟨L, ρ, h, hrl, er, s⟩ := r
  refine ⟨L, ρ, h, hrl, er, ?_⟩
  cases q : mo ρ h with
  | stuck => rw [q] at s; exact s
  | exc cc h1 => rw [q] at s; exact s
  | ok w h1 =>
    rw [q] at s
    intro v H1 L1 le1 hr1 r1
    obtain ⟨a, dx, fs, e1, e2, e3, L2, ρ2, h2, hr2, er2, s2⟩ := s v H1 L1 le1 hr1 r1
    exact ⟨a, dx, fs, e1, e2, e3, s2 [] H1 L2 (Ly.le.refl _) hr2 .nil⟩
end
end Dw
/-! Dw: raise, try -/
namespace Dw
variable [LamTab]
open PySem PySem.Spec PyProof.Rows L2

def subC (c n : Str) : Bool := c == n || n == ("DrumError" : Str)
abbrev bmVE : List Value := [.type "ValueError", .type "Exception", .type "BaseException", .type "object"]
/-- the program's own exceptions -/
structure ExcTab (K : PySem.W.Frag) (mg : Str → Option Value) (cs : List Str) : Prop where
  ex : ∀ c ∈ cs, ∃ C, mg c = some (.ref C) ∧ PySem.W.excIn K C bmVE "ValueError.__new__" = true ∧ PySem.W.keepIn K (.ref C) = true ∧ PySem.W.subIn K (.ref C) (.type "BaseException") = some true ∧ PySem.W.typeIn K (.ref C) = some (.type "type")
  mt : ∀ c ∈ cs, ∀ n ∈ cs, ∃ C N, mg c = some (.ref C) ∧ mg n = some (.ref N) ∧ PySem.W.exmOne K (.ref C) (.ref N) = some (subC c n)
def mRaise (c : Str) : MS := fun ρ h => .exc c ρ h
def noExcS : RS → RS
  | .exc _ _ _ => .stuck
  | r => r
def hnd (cs : List Str) : List (Str × MS) → Str → ME → MH → RS
  | [], c, ρ, h => .exc c ρ h
  | (n, m) :: l, c, ρ, h => if subC c n = true then noExcS (m ρ h) else hnd cs l c ρ h
def mTry (cs : List Str) (mb : MS) (l : List (Str × MS)) : MS := fun ρ h => match mb ρ h with
  | .exc c ρ1 h1 => if c ∈ cs then hnd cs l c ρ1 h1 else .stuck
  | r => r
section
variable {X : Cx} {Wx : WX} {cs : List Str} {c : Str} {p pos pos' : Pos}
theorem pmk_own0 {x : Str} {C : Addr} {bmB : List Value} {B newId initId : String} (F : ExcBaseFacts B newId initId bmB) (q : PySem.W.excIn X.K C bmB newId = true) (gC : X.mg x = some (.ref C)) (kC : PySem.W.keepIn X.K (.ref C) = true) (r : Raises X (.ref C)) (hg : Gl X x)
    (hdb : (x == ("__debug__" : Str)) = false := by decide) : PMk X (.Call (.Name x p) [] [] pos) (fun _ H Q => Q (.ref C) none H) := by
  intro pins s σ H Q I h
  refine wpAny_Call_Name_kw (ld_glob I hg gC ?_ hdb)
  refine PySem.W.callWith_K0 (first := []) I.kIn kC ?_
  show wpAny _ _ (call (.ref C) []) _ _ _
  obtain ⟨bm, N, nm, qn, bs, hdct, sn, sub, ab, col, dd, k0, k1, k2, k3, k5, mN, hC, hN, hni, T⟩ := exc_obj I.kIn q
  refine wpAny_call_exc_subT F T hC hN hni (fun h' e hm => ?_) (by show 0 ≤ sizeLine; exact Nat.zero_le _)
  exact mk_of I hm r h (I.hok.gone hm.new)
theorem js_raise (T : ExcTab X.K X.mg cs) (hc : X.calm = true) (tk : Takes X Wx) (hg : Gl X c) (hi : c ∈ cs := by decide) (hdb : (c == ("__debug__" : Str)) = false := by decide) : JS X Wx (.Raise (some (.Call (.Name c p) [] [] pos)) none pos') (mRaise c) := by
  obtain ⟨C, mc, e1, e2, e3, e4⟩ := T.ex c hi
  exact psI (ps_raise hc tk (pmk_own0 PySem.F.excBase_ValueError e1 mc e2 (raises_own e3 e4) hg hdb)) fun D σ H ⟨L, ρ, h, hr, er, s⟩ => s (.ref C) none σ H L ⟨C, mc, rfl⟩ (Ly.le.refl _) hr er
inductive HdsJ (X : Cx) (cs : List Str) : List ExceptHandler → List (Str × MS) → Prop
  | nil : HdsJ X cs [] []
  | cons {x : Str} {m : MS} {b₀ : Stmt} {suite : List Stmt} {np pos' : Pos} {hds : List ExceptHandler} {l : List (Str × MS)} (hi : x ∈ cs) (hg : Gl X x) (hdb : (x == ("__debug__" : Str)) = false)
      (hsu : ∀ (a : Addr) (oe : Obj) (pn : List (Addr × Obj)), JSs (X.suite a ((a, oe) :: pn)) (fun _ _ _ _ => False) (b₀ :: suite) m) (r : HdsJ X cs hds l) : HdsJ X cs (.ExceptHandler (some (.Name x np)) none (b₀ :: suite) pos' :: hds) ((x, m) :: l)
theorem hds_ok (T : ExcTab X.K X.mg cs) {hds : List ExceptHandler} {l : List (Str × MS)} (h : HdsJ X cs hds l) :
    ∃ l' : List (Value × (Addr → Value → Option Addr → TS)), HdsOk X hds l' ∧ ∀ (D : Ends) (c : Str) (L : Ly) (ρ : ME) (mh : MH), c ∈ cs → SatS X.K X.mg Wx L (hnd cs l c ρ mh) D →
      ∀ cls dd σ H L', ExcIs X.mg c cls → L.le L' → HRel X.K X.mg L' H mh → ERel X.K L' σ ρ → wMany X.K Wx D l' cls dd σ H := by
  induction h with
  | nil => exact ⟨[], .nil, fun D c L ρ mh hc s cls dd σ H L' ei le hr er => s cls dd σ H L' ei le hr er⟩
  | @cons x m b₀ suite np pos' hds l hi hg hdb hsu r ih =>
    obtain ⟨l', h1, h2⟩ := ih
    obtain ⟨N, mN, _⟩ := T.ex x hi
    refine ⟨(.ref N, fun _ _ _ => tS X.K X.mg (fun _ _ _ _ => False) m) :: l', .cons ⟨hg, hdb, .inl mN⟩ (fun a oe cls d pn _ _ => hsu a oe pn) h1, fun D c L ρ mh hc s cls dd σ H L' ei le hr er => ?_⟩
    obtain ⟨C, N', mC, mN', em⟩ := T.mt c hc x hi
    rw [mN] at mN'
    cases mN'
    obtain ⟨C', mC', rfl⟩ := id ei
    rw [mC] at mC'
    cases mC'
    refine ⟨_, em, fun hb a _ => ?_, fun hb => ?_⟩
    · unfold hnd at s
      rw [if_pos hb] at s
      refine ⟨L', ρ, mh, hr, er, ?_⟩
      have s := SatS.mono le s
      cases q : m ρ mh with
      | exc _ _ _ => rw [q] at s; exact s.elim
      | nx _ _ => rw [q] at s; exact s
      | rt _ _ => rw [q] at s; exact s
      | bk _ _ => rw [q] at s; exact s
      | ct _ _ => rw [q] at s; exact s
      | stuck => rw [q] at s; exact s.elim
    · unfold hnd at s
      rw [if_neg (by rw [hb]; decide)] at s
      exact h2 D c L ρ mh hc s _ dd σ H L' ei le hr er
theorem js_try {body : List Stmt} {h₀ : ExceptHandler} {hds : List ExceptHandler} {mb : MS} {l : List (Str × MS)} (T : ExcTab X.K X.mg cs) (hs : X.stack = X.env :: X.outer) (hf : X.env.frame = some X.env.locals) (tk : Takes X Wx)
    (hb : ∀ (W : WX) (pn : List (Addr × Obj)) (xe : Value → Shared → Prop), Takes (X.tr pn xe) W → PassesOwn (model X.prog X.w) X.A X.env xe → JSs (X.tr pn xe) W body mb) (hh : HdsJ X cs (h₀ :: hds) l) :
    JS X Wx (.Try body (h₀ :: hds) [] [] pos) (mTry cs mb l) := by
  obtain ⟨l', h1, h2⟩ := hds_ok (Wx := Wx) T hh
  refine psI (ps_try_many hs hf tk (tb := fun W => tS X.K X.mg W mb) hb h1) fun D σ H ⟨L, ρ, h, hr, er, s⟩ => ⟨L, ρ, h, hr, er, ?_⟩
  unfold mTry at s
  cases q : mb ρ h with
  | exc c ρ1 h1 =>
    rw [q] at s
    have s : SatS X.K X.mg Wx L (if c ∈ cs then hnd cs l c ρ1 h1 else .stuck) D := s
    split at s
    · rename_i hc
      exact fun cls dd σ' H' L' ei le hr' er' => h2 D c L ρ1 h1 hc s cls dd σ' H' L' ei le hr' er'
    · exact s.elim
  | nx _ _ => rw [q] at s; exact s
  | rt _ _ => rw [q] at s; exact s
  | bk _ _ => rw [q] at s; exact s
  | ct _ _ => rw [q] at s; exact s
  | stuck => rw [q] at s; exact s
end
end Dw
/-! Dw: in, of dicts; dict(pairs); len(set(..)); more of sorted -/
namespace Dw
variable [LamTab]
open PySem PySem.Spec PyProof.Rows L2

/-! ### in, not in -/
def inW (f : D → D → Option D) (b : Bool → Bool) (y x : W) (h : MH) : Res W := match x with
  | .ref i => (match h[i]? with
    | some (.dk kvs) => (match (rd y h).bind keyD with
      | some k => .ok (.d (.bool (b (valD kvs k).isSome))) h
      | none => .stuck)
    | _ => op2 f y x h)
  | _ => op2 f y x h
def mIn (f : D → D → Option D) (b : Bool → Bool) (ma mb : M) : M := fun ρ h => (ma ρ h).bind fun y h1 => (mb ρ h1).bind fun x h2 => inW f b y x h2
theorem inW_no {f : D → D → Option D} {b : Bool → Bool} {y x : W} {h : MH} (n : isDk x h = false) : inW f b y x h = op2 f y x h := by
  unfold isDk at n
  unfold inW
  split
  · rename_i i
    split
    · rename_i kvs e
      simp only [e] at n
      cases n
    · rfl
  · rfl
section
variable {X : Cx} {Wx : WX} {a b : Expr} {ma mb : M} {f : D → D → Option D} {bf : Bool → Bool} {pos : Pos} {op : CmpOp}
theorem two_read2 {K : PySem.W.Frag} {mg : Str → Option Value} {f : W → W → MH → Res W} {σ : L2.St} {H : Hp} {Q : VK} {t1 t2 : V → V → Hp → Prop} (c : W → W → MH → Bool)
    (g1 : ∀ L H h x y v u, HRel K mg L H h → WRel K L v x → WRel K L u y → c x y h = true → Sat K mg (WRel K) L (f x y h) Q (fun c d H' => Wx c d σ H') → t1 v u H)
    (g2 : ∀ L H h x y v u, HRel K mg L H h → WRel K L v x → WRel K L u y → c x y h = false → Sat K mg (WRel K) L (f x y h) Q (fun c d H' => Wx c d σ H') → t2 v u H)
    (t : tM K mg Wx (fun ρ h => (ma ρ h).bind fun x h1 => (mb ρ h1).bind fun y h2 => f x y h2) σ H Q) :
    (tM K mg Wx ma σ H fun v H1 => tM K mg Wx mb σ H1 fun u H2 => t1 v u H2) ∨ (tM K mg Wx ma σ H fun v H1 => tM K mg Wx mb σ H1 fun u H2 => t2 v u H2) := by
  obtain ⟨L, ρ, h, hr, er, s⟩ := t
  have s : Sat K mg (WRel K) L ((ma ρ h).bind fun x h1 => (mb ρ h1).bind fun y h2 => f x y h2) Q (fun c d H' => Wx c d σ H') := s
  cases qa : ma ρ h with
  | stuck => rw [qa] at s; exact s.elim
  | exc c h1 =>
    rw [qa] at s
    exact .inl ⟨L, ρ, h, hr, er, by rw [qa]; exact s⟩
  | ok x h1 =>
    rw [qa] at s
    have s : Sat K mg (WRel K) L ((mb ρ h1).bind fun y h2 => f x y h2) Q (fun c d H' => Wx c d σ H') := s
    cases qb : mb ρ h1 with
    | stuck => rw [qb] at s; exact s.elim
    | exc c h2 =>
      rw [qb] at s
      refine .inl ⟨L, ρ, h, hr, er, ?_⟩
      rw [qa]
      intro v H1 L1 le1 hr1 r1
      refine ⟨L1, ρ, h1, hr1, er.mono le1, ?_⟩
      rw [qb]
      exact fun cls dd H2 L2 ei le2 => s cls dd H2 L2 ei (le1.trans le2)
    | ok y h2 =>
      rw [qb] at s
      cases hc : c x y h2 with
      | true =>
        refine .inl ⟨L, ρ, h, hr, er, ?_⟩
        rw [qa]
        intro v H1 L1 le1 hr1 r1
        refine ⟨L1, ρ, h1, hr1, er.mono le1, ?_⟩
        rw [qb]
        intro u H2 L2 le2 hr2 r2
        exact g1 L2 H2 h2 x y v u hr2 (WRel.mono le2 _ _ r1) r2 hc (Sat.mono (le1.trans le2) s)
      | false =>
        refine .inr ⟨L, ρ, h, hr, er, ?_⟩
        rw [qa]
        intro v H1 L1 le1 hr1 r1
        refine ⟨L1, ρ, h1, hr1, er.mono le1, ?_⟩
        rw [qb]
        intro u H2 L2 le2 hr2 r2
        exact g2 L2 H2 h2 x y v u hr2 (WRel.mono le2 _ _ r1) r2 hc (Sat.mono (le1.trans le2) s)
/-- what is wanted of a dict and a key -/
theorem in_dict {L : Ly} {H : Hp} {h : MH} {x y : W} {v u : V} {Q : VK} {E : XK} (hr : HRel X.K X.mg L H h) (ry : WRel X.K L u y) (rx : WRel X.K L v x) (hc : isDk x h = true) (s : Sat X.K X.mg (WRel X.K) L (inW f bf y x h) Q E) :
    ∃ a o, v = .ref a ∧ DGet H a u o ∧ Q (.bl (bf o.isSome)) H := by
  unfold isDk at hc
  split at hc
  · rename_i i
    split at hc
    · rename_i kvs ei
      unfold inW at s
      simp only [ei] at s
      split at s
      · rename_i k ek
        cases rx with
        | ref rx =>
          cases hr.obj i _ _ rx ei with
          | dk o1 o2 =>
            rename_i vs
            obtain ⟨dy, ey1, ey2⟩ := Option.bind_eq_some_iff.mp ek
            have kv := keyD_v (rd_rel hr ry ey1) ey2
            have z := o2.val k
            refine ⟨_, valV vs k, rfl, by rw [kv]; exact DGet.k o1, ?_⟩
            have e : (valV vs k).isSome = (valD kvs k).isSome := by
              cases q : valD kvs k with
              | none => rw [q] at z; rw [z]; rfl
              | some d => rw [q] at z; obtain ⟨v', z1, _⟩ := z; rw [z1]; rfl
            rw [e]
            exact s.ok hr (.d (.bl _))
      · exact s.elim
    · cases hc
  · cases hc
theorem in_read {ty td : TE} {σ : L2.St} {H : Hp} {Q : VK} (t : tM X.K X.mg Wx (mIn f bf ma mb) σ H Q) :
    (tM X.K X.mg Wx ma σ H fun y H1 => tM X.K X.mg Wx mb σ H1 fun x H2 => ∃ a o, x = .ref a ∧ DGet H2 a y o ∧ Q (.bl (bf o.isSome)) H2) ∨ tOp (rP2 X.K X.mg f) (tM X.K X.mg Wx ma) (tM X.K X.mg Wx mb) σ H Q :=
  two_read2 (Wx := Wx) (f := inW f bf) (fun _ x h => isDk x h) (t1 := fun y x H2 => ∃ a o, x = .ref a ∧ DGet H2 a y o ∧ Q (.bl (bf o.isSome)) H2) (t2 := fun y x H2 => rP2 X.K X.mg f y x H2 Q)
    (fun L H h y x u v hr ry rx hc s => in_dict hr ry rx hc s)
    (fun L H h y x u v hr ry rx hc s => by
      rw [inW_no hc] at s
      exact op2_sat hr ry rx s) t
theorem je_in (hu : X.A.units + 1 < cLine) (ho : CmpR X .In fIn) (hm : behindInMarks .In b = false) (ha : JE X Wx a ma) (hb : JE X Wx b mb) : JE X Wx (.Compare a [.In] [b] pos) (mIn fIn id ma mb) :=
  peI (PE.or (pe_cmp (pc_din hu ha hb) hm) (pe_cmpR ho ha hb hm)) fun σ H Q t => in_read (ty := tM X.K X.mg Wx ma) (td := tM X.K X.mg Wx mb) t
theorem je_notIn (hu : X.A.units + 1 < cLine) (ho : CmpR X .NotIn fNotIn) (hm : behindInMarks .NotIn b = false) (ha : JE X Wx a ma) (hb : JE X Wx b mb) : JE X Wx (.Compare a [.NotIn] [b] pos) (mIn fNotIn (fun k => !k) ma mb) :=
  peI (PE.or (pe_cmp (pc_dnotin hu ha hb) hm) (pe_cmpR ho ha hb hm)) fun σ H Q t => in_read (ty := tM X.K X.mg Wx ma) (td := tM X.K X.mg Wx mb) t
theorem PT.or {e : Expr} {t t' : TT} (h : PT X e t) (h' : PT X e t') : PT X e (fun σ H Q => t σ H Q ∨ t' σ H Q) :=
  ⟨fun pins s σ H Q I q => q.elim (h.run pins s σ H Q I) (h'.run pins s σ H Q I)⟩
/-- what is a truth, as a test -/
theorem test_of {m : M} (hb : ∀ ρ h w h', m ρ h = .ok w h' → ∃ k, w = .d (.bool k)) {σ : L2.St} {H : Hp} {Q : Bool → Hp → Prop} (t : tMT X.K X.mg Wx (mTest m) σ H Q) : tM X.K X.mg Wx m σ H fun x H1 => ∃ k, x = .bl k ∧ Q k H1 := by
  obtain ⟨L, ρ, h, hr, er, s⟩ := t
  refine ⟨L, ρ, h, hr, er, ?_⟩
  unfold mTest at s
  cases q : m ρ h with
  | stuck => rw [q] at s; exact s
  | exc c h1 => rw [q] at s; exact s
  | ok w h1 =>
    rw [q] at s
    obtain ⟨k, rfl⟩ := hb ρ h w h1 q
    intro v H1 L1 le1 hr1 r1
    cases r1 with
    | d r1 =>
      cases r1
      exact ⟨k, rfl, s k H1 L1 le1 hr1 rfl⟩
theorem in_bool (hb : IsB f) (ρ : ME) (h : MH) (w : W) (h' : MH) (e : mIn f bf ma mb ρ h = .ok w h') : ∃ k, w = .d (.bool k) := by
  unfold mIn at e
  cases qa : ma ρ h with
  | stuck => rw [qa] at e; cases e
  | exc c h1 => rw [qa] at e; cases e
  | ok x h1 =>
    rw [qa] at e
    have e : ((mb ρ h1).bind fun y h2 => inW f bf x y h2) = .ok w h' := e
    cases qb : mb ρ h1 with
    | stuck => rw [qb] at e; cases e
    | exc c h2 => rw [qb] at e; cases e
    | ok y h2 =>
      rw [qb] at e
      have e : inW f bf x y h2 = .ok w h' := e
      have go : op2 f x y h2 = .ok w h' → ∃ k, w = .d (.bool k) := fun e => by
        unfold op2 at e
        split at e
        · split at e
          · rename_i c ec
            cases e
            obtain ⟨k, rfl⟩ := hb _ _ _ ec
            exact ⟨k, rfl⟩
          · cases e
        · cases e
      unfold inW at e
      split at e
      · split at e
        · split at e
          · cases e
            exact ⟨_, rfl⟩
          · cases e
        · exact go e
      · exact go e
theorem jt_in (hu : X.A.units + 1 < cLine) (ho : CmpR X .In fIn) (hm : behindInMarks .In b = false) (ha : JE X Wx a ma) (hb : JE X Wx b mb) : JT X Wx (.Compare a [.In] [b] pos) (mTest (mIn fIn id ma mb)) :=
  ptI (PT.or (pt_cmp (pc_din hu ha hb) hm) (pt_cmpR ho ha hb hm)) fun σ H Q t => in_read (ty := tM X.K X.mg Wx ma) (td := tM X.K X.mg Wx mb) (test_of (in_bool b_in) t)
theorem jt_notIn (hu : X.A.units + 1 < cLine) (ho : CmpR X .NotIn fNotIn) (hm : behindInMarks .NotIn b = false) (ha : JE X Wx a ma) (hb : JE X Wx b mb) : JT X Wx (.Compare a [.NotIn] [b] pos) (mTest (mIn fNotIn (fun k => !k) ma mb)) :=
  ptI (PT.or (pt_cmp (pc_dnotin hu ha hb) hm) (pt_cmpR ho ha hb hm)) fun σ H Q t => in_read (ty := tM X.K X.mg Wx ma) (td := tM X.K X.mg Wx mb) (test_of (in_bool b_notIn) t)
end
/-! ### dict(pairs) -/
def pairD : D → Option (Key × D)
  | .tuple [k, v] => (keyD k).map fun k => (k, v)
  | _ => none
def pairsD : List D → Option (List (Key × D))
  | [] => some []
  | d :: ds => match pairD d, pairsD ds with
    | some p, some ps => some (p :: ps)
    | _, _ => none
def mkD (ps : List (Key × D)) : List (Key × D) := ps.foldl (fun acc kv => putD acc kv.1 kv.2) []
def oDict (ws : List W) (h : MH) : Res W := match ws with
  | [w] => (match seqDs' w h with
    | some ds => if ds.length ≤ 1000000 then (match pairsD ds with
      | some ps => .ok (.ref h.length) (h ++ [.dk (mkD ps)])
      | none => .stuck) else .stuck
    | none => .stuck)
  | _ => .stuck
where seqDs' (w : W) (h : MH) : Option (List D) := match rd w h with
  | some (.list ds) => some ds
  | some (.tuple ds) => some ds
  | _ => none

def tupsOk (K : PySem.W.Frag) : Bool := K.all fun p => decide (p.2.cls ≠ .type "tuple") || p.2.dict.isNone
omit [LamTab] in
theorem tups_of {K : PySem.W.Frag} (h : tupsOk K = true) {a : Addr} {o : Obj} (e : K.lookup a = some o) (c : o.cls = .type "tuple") : o.dict = none := by
  have look : ∀ {l : List (Addr × Obj)}, l.lookup a = some o → (a, o) ∈ l := by
    intro l
    induction l with
    | nil => intro e; cases e
    | cons p l ih =>
      intro e
      obtain ⟨b, u⟩ := p
      simp only [List.lookup] at e
      split at e
      · rename_i hb
        cases e
        rw [show a = b from by simpa using hb]
        exact List.mem_cons_self ..
      · exact List.mem_cons_of_mem _ (ih e)
  have m : (a, o) ∈ K := look e
  have z := List.all_eq_true.mp h _ m
  simp only [Bool.or_eq_true, decide_eq_true_eq, Option.isNone_iff_eq_none] at z
  exact z.resolve_left fun n => n c
section
variable {X : Cx} {pins : List (Addr × Obj)} {σ : L2.St} {H : Hp} {s : Shared} {L : Ly} {h : MH}
theorem key_v {K : PySem.W.Frag} {F : Hp} {v : V} {d : D} {k : Key} (r : Dp K F v d) (e : keyD d = some k) : v = kV k := by
  cases r <;> simp only [keyD] at e <;> first | (cases e; rfl) | cases e
theorem pairs_rel {K : PySem.W.Frag} {mg : Str → Option Value} (hr : HRel K mg L H h) : ∀ {ds : List D} {ps : List (Key × D)} {vs : List V}, pairsD ds = some ps → DpAll K L.F vs ds →
    ∃ (as : List Addr) (kvs : List (Key × V)), vs = as.map V.ref ∧ KRel K L.F kvs ps ∧ Paired (fun a kv => SqT K H a [kV kv.1, kv.2]) as kvs
  | [], ps, _, e, r => by
    cases e
    cases r
    exact ⟨[], [], rfl, .nil, .nil⟩
  | d :: ds, ps, _, e, r => by
    unfold pairsD at e
    split at e
    · rename_i p ps' e1 e2
      cases e
      cases r with
      | cons r1 r2 =>
        obtain ⟨as, kvs, h1, h2, h3⟩ := pairs_rel hr e2 r2
        unfold pairD at e1
        split at e1
        · rename_i k v
          obtain ⟨key, ek, rfl⟩ := Option.map_eq_some_iff.mp e1
          cases r1 with
          | tup q1 q2 =>
            cases q2 with
            | cons q2 q3 =>
              cases q3 with
              | cons q3 q4 =>
                cases q4
                have kk := key_v q2 ek
                subst kk
                rename_i a v'
                exact ⟨_ :: as, (key, _) :: kvs, by rw [h1]; rfl, .cons ⟨rfl, q3⟩ h2, .cons (SqT.sub hr.sub q1) h3⟩
        · cases e1
    · cases e
theorem raw_pairs (I : Inv X pins σ H s) : ∀ {as : List Addr} {kvs : List (Key × V)}, Paired (fun a kv => SqT X.K H a [kV kv.1, kv.2]) as kvs →
    ∃ (ps : List (Value × Value)) (prs : List (Key × Value)), KV kvs prs ∧ prs.length = as.length ∧ ps.length = as.length ∧
      ∀ (j : Nat) (k v : Value), ps[j]? = some (k, v) → ∃ (b : Addr) (key : Key), as[j]? = some b ∧ prs[j]? = some (key, v) ∧ s.heap.IsTuple b #[k, v] ∧ (mixKind X.prog X.w).is key k = true
  | _, _, .nil => ⟨[], [], .nil, rfl, rfl, fun j k v e => by simp at e⟩
  | _, _, .cons (a := a) (b := kv) h t => by
    obtain ⟨ps, prs, h1, h2, h3, h4⟩ := raw_pairs I t
    obtain ⟨its, rv, ht, _⟩ := I.tuple h
    obtain ⟨u, y, ei, r1, r2⟩ := vals2 rv
    subst ei
    refine ⟨(u, y) :: ps, (kv.1, y) :: prs, .cons ⟨rfl, r2⟩ h1, by simp [h2], by simp [h3], fun j k v e => ?_⟩
    cases j with
    | zero =>
      simp at e
      obtain ⟨rfl, rfl⟩ := e
      exact ⟨a, kv.1, rfl, rfl, ht, kV_is r1⟩
    | succ j =>
      obtain ⟨b, key, a1, a2, a3, a4⟩ := h4 j k v (by simpa using e)
      exact ⟨b, key, by simpa using a1, by simpa using a2, a3, a4⟩
theorem merge_rel {K : PySem.W.Frag} {F : Hp} : ∀ {kvs : List (Key × V)} {ps : List (Key × D)} {acc : List (Key × V)} {acc' : List (Key × D)}, KRel K F kvs ps → KRel K F acc acc' →
    KRel K F (kvs.foldl (fun acc kv => putK acc kv.1 kv.2) acc) (ps.foldl (fun acc kv => putD acc kv.1 kv.2) acc')
  | [], _, _, _, h, g => by cases h; exact g
  | kv :: kvs, _, _, _, h, g => by
    cases h with
    | cons h1 h2 =>
      rename_i q qs
      obtain ⟨k, v⟩ := kv
      obtain ⟨k', d⟩ := q
      obtain ⟨e, r⟩ := h1
      have e : k = k' := e
      subst e
      exact merge_rel (kvs := kvs) (ps := qs) h2 (KRel.put g k r)
theorem dict_end (I : Inv X pins σ H s) {kvs : List (Key × V)} {prs : List (Key × Value)} {ps : List (Key × D)} {Q : VK} (hr : HRel X.K X.mg L H h) (rel : KV kvs prs) (kr : KRel X.K L.F kvs ps) (hl : kvs.length ≤ sizeLine)
    {h' : Heap} {tk : Nat} (hd' : h'.DictOf (mixKind X.prog X.w) s.heap.objs.size (merged [] prs)) (k : ∀ b o, s.heap.get? b = some o → h'.get? b = some o)
    (q : ∀ v H' L', L.le L' → HRel X.K X.mg L' H' (h ++ [.dk (mkD ps)]) → WRel X.K L' v (.ref h.length) → Q v H') : EP X pins σ Q (.ref s.heap.objs.size) { s with heap := h', toks := tk } := by
  have hm : (s.heap.objs.size == sysModules) = false := beq_eq_false_iff_ne.mpr (Nat.ne_of_gt I.big)
  have hlen : (mergeK [] kvs).length ≤ sizeLine := Nat.le_trans (length_mergeK kvs []) (by rw [List.length_nil, Nat.zero_add]; exact hl)
  have nf := I.hok.fresh (Nat.le_refl s.heap.objs.size)
  obtain ⟨le, hr'⟩ := hr.new (u := .dK (mergeK [] kvs)) (o := .dk (mkD ps)) nf (.dk upd_same (merge_rel kr .nil))
  refine ⟨.ref s.heap.objs.size, upd H s.heap.objs.size (.dK (mergeK [] kvs)), I.laid (t' := tk) k (Nat.le_refl _) (show ObjOk X.prog X.w _ _ _ (.dK (mergeK [] kvs)) from ⟨hlen, hm, merged [] prs, KV.merge rel .nil, hd'⟩), rfl, q _ _ _ le hr' (.ref ?_)⟩
  show (L.mu ++ [s.heap.objs.size])[h.length]? = _
  rw [← hr.len, List.getElem?_append_right (Nat.le_refl _)]
  simp
theorem cw_dict (hc : X.calm = true) (kt : tupsOk X.K = true) : CalW X (.type "dict") oDict := by
  intro pins s σ H xs us Q I r q
  obtain ⟨L, h, ws, hr, rw', s1⟩ := q
  unfold oDict at s1
  split at s1
  · rename_i w
    split at s1
    · rename_i ds es
      split at s1
      · rename_i hz
        split at s1
        · rename_i ps ep
          cases rw' with
          | cons r1 r2 =>
            cases r2
            have s2 : ∀ v H' L', L.le L' → HRel X.K X.mg L' H' (h ++ [.dk (mkD ps)]) → WRel X.K L' v (.ref h.length) → Q v H' := s1
            obtain ⟨u, rfl, ru⟩ := vals1 r
            have hzl : ds.length ≤ sizeLine := by rw [sizeLine_eq]; omega
            unfold oDict.seqDs' at es
            split at es
            · rename_i ds' er
              cases es
              obtain ⟨a, vs, rfl, q1, d1⟩ := (rd_rel hr r1 er).list hr
              cases ru
              obtain ⟨as, kvs, ev, kr, pr⟩ := pairs_rel hr ep d1
              subst ev
              obtain ⟨ps0, prs, rel, l1, l2, hp⟩ := raw_pairs I pr
              obtain ⟨its, rv, pl, _⟩ := I.list q1
              have ei := refs_at rv
              subst ei
              have la : as.length = ds.length := by have := DpAll.length d1; rwa [List.length_map] at this
              have lk : kvs.length = as.length := (Paired.length pr).symm
              obtain ⟨o, n, ho, hcl, hd, hdat⟩ := pl
              refine _root_.PySem.call_dict_pairs (knd := mixKind X.prog X.w) (kvs := prs) (PairArg.list a (as.map Value.ref).toArray (fun j => as.getD j 0) ps0) (I.ok.hd hc) ⟨⟨o, n, ho, hcl, hd, hdat⟩, ⟨by simp [l2], fun j k v e => ?_⟩⟩ ⟨by rw [l1, l2], fun i k v e => ?_⟩ (by rw [l2, la]; exact hzl) fun h' tk hd' k => ?_
              · obtain ⟨b, key, a1, a2, a3, a4⟩ := hp j k v e
                refine ⟨by simp [a1, List.getD_eq_getElem?_getD], .inl ?_⟩
                show s.heap.IsTuple (as.getD j 0) #[k, v]
                rw [List.getD_eq_getElem?_getD, a1]
                exact a3
              · obtain ⟨b, key, a1, a2, a3, a4⟩ := hp i k v e
                exact ⟨key, a2, a4⟩
              · exact dict_end I hr rel kr (by rw [lk, la]; exact hzl) hd' (fun b o e => k b o (by simp) e) s2
            · rename_i ds' er
              cases es
              have rd' := rd_rel hr r1 er
              cases rd' with
              | pure rp =>
                cases rp with
                | tup q1 d1 =>
                  rename_i a vs
                  cases ru
                  obtain ⟨as, kvs, ev, kr, pr⟩ := pairs_rel hr ep d1
                  subst ev
                  obtain ⟨ps0, prs, rel, l1, l2, hp⟩ := raw_pairs I pr
                  have la : as.length = ds.length := by have := DpAll.length d1; rwa [List.length_map] at this
                  have lk : kvs.length = as.length := (Paired.length pr).symm
                  have ex : ∃ its : Array Value, Vals (as.map V.ref) its.toList ∧ PlainSeq "tuple" s.heap a its := by
                    rcases q1 with (q1 | ⟨ob, q1⟩) | ⟨o, its, n, k1, k2, k3, k4, k5⟩
                    · exact absurd rfl ((hr.fx _ _ q1).1 _)
                    · have hd := (hr.fx _ _ q1).2 _ _ rfl
                      obtain ⟨e1, _, its, rv, o', e2, c, n, d⟩ := I.hok a _ (hr.sub _ _ q1)
                      rw [e1] at e2
                      cases e2
                      exact ⟨its.toArray, by simpa using rv, ob, n, e1, c, hd, d⟩
                    · exact ⟨its, k5, o, n, I.kIn a o k1, k2, tups_of kt k1 k2, k3⟩
                  obtain ⟨its, rv, pl⟩ := ex
                  have ei := refs_at rv
                  have hsz : its.size = as.length := by rw [← Array.length_toList, ei, List.length_map]
                  refine _root_.PySem.call_dict_pairs (knd := mixKind X.prog X.w) (kvs := prs) (PairArg.tuple a its (fun j => as.getD j 0) ps0) (I.ok.hd hc) ⟨pl, ⟨by rw [hsz, l2], fun j k v e => ?_⟩⟩ ⟨by rw [l1, l2], fun i k v e => ?_⟩ (by rw [l2, la]; exact hzl) fun h' tk hd' k => ?_
                  · obtain ⟨b, key, a1, a2, a3, a4⟩ := hp j k v e
                    refine ⟨by show its[j]? = some (Value.ref (as.getD j 0)); rw [← Array.getElem?_toList, ei, List.getElem?_map, a1, List.getD_eq_getElem?_getD, a1]; rfl, .inl ?_⟩
                    show s.heap.IsTuple (as.getD j 0) #[k, v]
                    rw [List.getD_eq_getElem?_getD, a1]
                    exact a3
                  · obtain ⟨b, key, a1, a2, a3, a4⟩ := hp i k v e
                    exact ⟨key, a2, a4⟩
                  · exact dict_end I hr rel kr (by rw [lk, la]; exact hzl) hd' (fun b o e => k b o (by simp) e) s2
            · cases es
        · exact s1.elim
      · exact s1.elim
    · exact s1.elim
  · exact s1.elim
end
end Dw
/-! Dw: sorted(d) of text keys; len(set(..)); written dicts -/
namespace Dw
variable [LamTab]
open PySem PySem.Spec PyProof.Rows L2

omit [LamTab] in
theorem ltCps_iff : ∀ (a b : List Nat), ltCps a b = true ↔ a < b
  | [], [] => by simp [ltCps]
  | [], _ :: _ => by simp [ltCps]
  | _ :: _, [] => by simp [ltCps]
  | a :: r, b :: t => by
    simp only [ltCps, Bool.or_eq_true, Bool.and_eq_true, decide_eq_true_eq, beq_iff_eq, List.cons_lt_cons_iff, ltCps_iff r t]
abbrev sle (a b : Str) : Prop := a.cps.toList ≤ b.cps.toList
omit [LamTab] in
theorem rising_pw : ∀ (xs : List Str) (p : Str), risingS p xs = true → (p :: xs).Pairwise sle
  | [], p, _ => List.pairwise_singleton _ _
  | x :: xs, p, h => by
    simp only [risingS, Bool.and_eq_true, Bool.not_eq_true'] at h
    have ih := rising_pw xs x h.2
    have px : sle p x := by
      have : ¬ x.cps.toList < p.cps.toList := fun z => by
        rw [(ltCps_iff _ _).mpr z] at h
        exact absurd h.1 (by decide)
      exact List.not_lt.mp this
    refine List.pairwise_cons.mpr ⟨fun y hy => ?_, ih⟩
    rcases List.mem_cons.mp hy with rfl | hy
    · exact px
    · exact List.le_trans px ((List.pairwise_cons.mp ih).1 y hy)
omit [LamTab] in
theorem str_ext {a b : Str} (h : a.cps.toList = b.cps.toList) : a = b := by
  obtain ⟨⟨a⟩⟩ := a
  obtain ⟨⟨b⟩⟩ := b
  simp at h
  rw [h]
omit [LamTab] in
theorem sortS_pw (ns : List Str) : (sortS ns).Pairwise sle := by
  unfold sortS
  refine (List.pairwise_mergeSort (le := leS) (fun a b c h1 h2 => ?_) (fun a b => ?_) ns).imp fun h => of_decide_eq_true h
  · exact decide_eq_true (List.le_trans (of_decide_eq_true h1) (of_decide_eq_true h2))
  · rcases List.le_total a.cps.toList b.cps.toList with h | h
    · rw [show leS a b = true from decide_eq_true h]; rfl
    · rw [show leS b a = true from decide_eq_true h]; simp
omit [LamTab] in
theorem sorted_oneS {ns ys : List Str} (p : ys.Perm ns) (s : sortedS ys = true) : ys = sortS ns := by
  have s1 : ys.Pairwise sle := by
    cases ys with
    | nil => exact .nil
    | cons y ys => exact rising_pw ys y s
  exact (p.trans (List.mergeSort_perm _ _).symm).eq_of_pairwise (le := sle) (fun a b _ _ h1 h2 => str_ext (List.le_antisymm h1 h2)) s1 (sortS_pw ns)
/-- sorted(x) of a dict, of what is read -/
def oSorted2 : List W → MH → Res W
  | [w], h => (match dkOf w h with
    | some kvs => (match keysI kvs with
      | some ns => if ns.length < 64 then .ok (.d (.list ((sortI ns).map .int))) h else .stuck
      | none => (match keysS kvs with
        | some ss => if ss.length < 64 then .ok (.d (.list ((sortS ss).map .str))) h else .stuck
        | none => .stuck))
    | none => opn fSorted [w] h)
  | _, _ => .stuck
section
variable {X : Cx} {k : Nat}
theorem cw_sorted2 (hc : X.calm = true) (ro : Room k X.A) : CalW X (.builtin "sorted") oSorted2 := by
  intro pins s σ H xs us Q I r q
  obtain ⟨L, h, ws, hr, rw', s1⟩ := q
  unfold oSorted2 at s1
  split at s1
  · rename_i w
    split at s1
    · rename_i kvs ek
      split at s1
      · rename_i ns en
        refine cw_sorted hc ro pins s σ H xs us Q I r ⟨L, h, [w], hr, rw', ?_⟩
        unfold oSorted
        simp only [ek, en]
        exact s1
      · split at s1
        · rename_i ss en
          split at s1
          · rename_i hz
            cases rw' with
            | cons r1 r2 =>
              cases r2
              unfold dkOf at ek
              split at ek
              · rename_i i
                split at ek
                · rename_i kvs' ei
                  cases ek
                  cases r1 with
                  | ref r1 =>
                    cases hr.obj i _ _ r1 ei with
                    | dk o1 o2 =>
                      refine call_sortedD hc pins s σ H _ us Q I r ⟨_, _, ss, rfl, .inl o1, keysS_map o2 en, hz, fun ys p hp hs np => ?_⟩
                      rw [sorted_oneS hp hs]
                      obtain ⟨le, hr'⟩ := hr.frz (o := .lst ((sortS ss).map V.str)) np
                      exact s1 _ _ _ le hr' (.d (.lst (SqL.of (show upd L.F p (.lst ((sortS ss).map V.str)) p = _ from upd_same)) (dpa_strsOf _)))
                · cases ek
              · cases ek
          · exact s1.elim
        · exact s1.elim
    · rename_i en
      refine cw_sorted hc ro pins s σ H xs us Q I r ⟨L, h, [w], hr, rw', ?_⟩
      unfold oSorted
      simp only [en]
      exact s1
  · exact s1.elim
end
/-! ### len(set(xs)) -/
def setLen (ns : List Int) : Nat := (PyProof.Rows.firstMet (fun i => ns.getD i 0) ns.length).length
def intsD : List D → Option (List Int)
  | [] => some []
  | .int i :: r => (intsD r).map (i :: ·)
  | _ :: _ => none
def mLenSet (m : M) : M := fun ρ h => (m ρ h).bind fun w h1 => match rd w h1 with
  | some (.list ds) => (match intsD ds with
    | some ns => if ns.length ≤ 4000 then .ok (.d (.int (setLen ns))) h1 else .stuck
    | none => .stuck)
  | _ => .stuck
theorem intsD_v {K : PySem.W.Frag} {F : Hp} : ∀ {ds : List D} {vs : List V} {ns : List Int}, DpAll K F vs ds → intsD ds = some ns → vs = ns.map V.int
  | [], _, _, h, e => by cases h; cases e; rfl
  | .int i :: ds, _, ns, h, e => by
    cases h with
    | cons h1 h2 =>
      simp only [intsD, Option.map_eq_some_iff] at e
      obtain ⟨r, e1, rfl⟩ := e
      cases h1
      rw [intsD_v h2 e1]
      rfl
  | .none :: _, _, _, _, e => by simp [intsD] at e
  | .bool _ :: _, _, _, _, e => by simp [intsD] at e
  | .str _ :: _, _, _, _, e => by simp [intsD] at e
  | .list _ :: _, _, _, _, e => by simp [intsD] at e
  | .tuple _ :: _, _, _, _, e => by simp [intsD] at e
  | .dict _ :: _, _, _, _, e => by simp [intsD] at e
section
variable {X : Cx} {Wx : WX} {a : Expr} {m : M} {p p2 q pos : Pos}
def tLenS (K : PySem.W.Frag) (ta : TE) : TE := fun σ H Q => ta σ H fun x H1 => ∃ (l : Addr) (ns : List Int), x = .ref l ∧ SqL K H1 l (ns.map V.int) ∧ ns.length ≤ 4000 ∧ Q (.int (setLen ns : Nat)) H1
theorem pe_lenS {ta : TE} (hg : Gl X "len") (hm : X.mg "len" = none) (hg2 : Gl X "set") (hm2 : X.mg "set" = none) (ha : PE X a ta) (hc : X.calm = true := by rfl)
    (na : starEach [a] X.env = (false, eval a X.env) :: starEach [] X.env := by rfl) : PE X (.Call (.Name "len" p) [.Call (.Name "set" p2) [a] [] q] [] pos) (tLenS X.K ta) := by
  refine ⟨fun pins s σ H Q I h => Call_ (ld_blt I hg hm PySem.boot_len (PyProof.Rows.callWith_builtin1 (PyProof.Rows.args_cons ?_ rfl) rfl rfl))⟩
  refine Call_ (ld_blt I hg2 hm2 PyProof.Rows.boot_set (PyProof.Rows.callWith_type1 (PyProof.Rows.args_cons (thn (ha.run pins s σ H _ I h) fun v s1 ⟨x, H1, I1, rx, l, ns, ex, hq, hl, q1⟩ => PyProof.Rows.args_nil ?_) na) na rfl))
  subst ex
  cases rx
  obtain ⟨its, rv, pl, hz⟩ := I1.list hq
  have hlen : its.toArray.size = ns.length := by rw [List.size_toArray, ← rv.length, List.length_map]
  refine call_set_list (I1.ok.hd hc) pl.isList (by simpa using RZ.intsAre_vals rv) (by rw [hlen]; unfold scanBound; omega) fun h' tk hS hk => PyProof.Rows.args_nil ?_
  rw [hlen] at hS
  have hn0 : (PyProof.Rows.firstMet (fun i => ns.getD i 0) ns.length).length ≤ ns.length := PyProof.Rows.firstMet_length_le _ _
  obtain ⟨o, es, ep, t, ho, hex, hd, _, _, _, hf, hn⟩ := hS
  have I2 : Inv X pins σ H1 { s1 with heap := h', toks := tk } := I1.kept fun b o e => hk b o (Heap.lt_size e) e
  exact call_len_set ho hex hd hf (by rw [hn]; omega) ⟨.int (setLen ns : Nat), H1, I2.tok _, ⟨_, by rw [hn]; rfl⟩, q1⟩
theorem je_lenSet (hg : Gl X "len") (hm : X.mg "len" = none) (hg2 : Gl X "set") (hm2 : X.mg "set" = none) (ha : JE X Wx a m) (hc : X.calm = true := by rfl)
    (na : starEach [a] X.env = (false, eval a X.env) :: starEach [] X.env := by rfl) : JE X Wx (.Call (.Name "len" p) [.Call (.Name "set" p2) [a] [] q] [] pos) (mLenSet m) :=
  peI (pe_lenS hg hm hg2 hm2 ha hc na) fun σ H Q ⟨L, ρ, h, hr, er, s⟩ => ⟨L, ρ, h, hr, er, s.bind fun v H1 L1 w h1 le1 hr1 r1 s1 => by
    split at s1
    · rename_i ds er1
      split at s1
      · rename_i ns en
        split at s1
        · rename_i hz
          obtain ⟨l, vs, rfl, q1, d1⟩ := (rd_rel hr1 r1 er1).list hr1
          have ev := intsD_v d1 en
          subst ev
          exact ⟨l, ns, rfl, q1, hz, s1.ok hr1 (.d (.int _))⟩
        · exact s1.elim
      · exact s1.elim
    · exact s1.elim⟩
end
/-! ### written dicts with text keys and whole numbers -/
structure KD (K : PySem.W.Frag) (w : World) (mg : Str → Option Value) (x : Str) (kvs : List (Str × Option Int)) : Prop where
  ex : ∃ d es n, mg x = some (.ref d) ∧ KDict K w d es n ∧ ∀ z r, kvs.lookup z = some r → match r with
    | some i => ∃ t, PySem.W.nsIn K d z = some (some (.int i t))
    | none => PySem.W.nsIn K d z = some none
def kLook (kvs : List (Str × Option Int)) (w : W) : Option (Option Int) := match w with
  | .d (.str z) => kvs.lookup z
  | _ => none
def mInK (kvs : List (Str × Option Int)) (m : M) : M := fun ρ h => (m ρ h).bind fun w h1 => match kLook kvs w with
  | some r => .ok (.d (.bool r.isSome)) h1
  | none => .stuck
def mIxK (kvs : List (Str × Option Int)) (m : M) : M := fun ρ h => (m ρ h).bind fun w h1 => match kLook kvs w with
  | some (some i) => .ok (.d (.int i)) h1
  | _ => .stuck
theorem kLook_str {kvs : List (Str × Option Int)} {w : W} {r : Option Int} (e : kLook kvs w = some r) : ∃ z, w = .d (.str z) ∧ kvs.lookup z = some r := by
  unfold kLook at e
  split at e
  · exact ⟨_, rfl, e⟩
  · cases e
theorem str_of {K : PySem.W.Frag} {L : Ly} {v : V} {z : Str} (r : WRel K L v (.d (.str z))) : v = .str z := by
  cases r with
  | d r => cases r; rfl
section
variable {X : Cx} {Wx : WX} {a b : Expr} {m : M} {x : Str} {kvs : List (Str × Option Int)} {p pos : Pos}
theorem inK_read (T : KD X.K X.w X.mg x kvs) {d : Addr} {es : Array DictEntry} {n : Nat} (md : X.mg x = some (.ref d)) (D0 : KDict X.K X.w d es n) (hk : ∀ z r, kvs.lookup z = some r → match r with
    | some i => ∃ t, PySem.W.nsIn X.K d z = some (some (.int i t))
    | none => PySem.W.nsIn X.K d z = some none) {σ : L2.St} {H : Hp} {Q : VK} (t : tM X.K X.mg Wx (mInK kvs m) σ H Q) :
    tOp (fun x y H Q => ∃ (z : Str) (r : Option Value), x = .str z ∧ y = .ref d ∧ PySem.W.nsIn X.K d z = some r ∧ Q (.bl r.isSome) H) (tM X.K X.mg Wx m) (tC (.ref d)) σ H Q := by
  obtain ⟨L, ρ, h, hr, er, s⟩ := t
  refine ⟨L, ρ, h, hr, er, s.bind fun v H1 L1 w h1 le1 hr1 r1 s1 => ?_⟩
  split at s1
  · rename_i r ek
    obtain ⟨z, rfl, ez⟩ := kLook_str ek
    have e1 := str_of r1
    subst e1
    have hz := hk z r ez
    cases r with
    | none => exact ⟨z, none, rfl, rfl, hz, s1.ok hr1 (.d (.bl _))⟩
    | some i =>
      obtain ⟨t, hz⟩ := hz
      exact ⟨z, some (.int i t), rfl, rfl, hz, s1.ok hr1 (.d (.bl _))⟩
  · exact s1.elim
theorem je_inK (T : KD X.K X.w X.mg x kvs) (hg : Gl X x) (hm : behindInMarks .In (.Name x p) = false) (ha : JE X Wx a m) (hd : (x == ("__debug__" : Str)) = false := by decide) : JE X Wx (.Compare a [.In] [.Name x p] pos) (mInK kvs m) := by
  obtain ⟨d, es, n, md, D0, hk⟩ := T.ex
  exact peI (pe_cmpR (op_in_kd D0) ha (pe_glob (v := V.ref d) hg md rfl hd) hm) fun σ H Q t => inK_read T md D0 hk t
theorem jt_inK (T : KD X.K X.w X.mg x kvs) (hg : Gl X x) (hm : behindInMarks .In (.Name x p) = false) (ha : JE X Wx a m) (hd : (x == ("__debug__" : Str)) = false := by decide) : JT X Wx (.Compare a [.In] [.Name x p] pos) (mTest (mInK kvs m)) := by
  obtain ⟨d, es, n, md, D0, hk⟩ := T.ex
  refine ptI (pt_cmpR (op_in_kd D0) ha (pe_glob (v := V.ref d) hg md rfl hd) hm) fun σ H Q t => inK_read T md D0 hk (test_of (fun ρ h w h' e => ?_) t)
  unfold mInK at e
  cases q : m ρ h with
  | stuck => rw [q] at e; cases e
  | exc c h1 => rw [q] at e; cases e
  | ok u h1 =>
    rw [q] at e
    have e : (match kLook kvs u with
      | some r => Res.ok (W.d (.bool r.isSome)) h1
      | none => .stuck) = .ok w h' := e
    split at e
    · cases e; exact ⟨_, rfl⟩
    · cases e
theorem je_ixK (T : KD X.K X.w X.mg x kvs) (hg : Gl X x) (ha : JE X Wx a m) (hp : PlainIx a) (hd : (x == ("__debug__" : Str)) = false := by decide) : JE X Wx (.Subscript (.Name x p) a pos) (mIxK kvs m) := by
  obtain ⟨d, es, n, md, D0, hk⟩ := T.ex
  refine peI (pe_ix ix_kdict (pe_glob (v := V.ref d) hg md rfl hd) ha hp) fun σ H Q ⟨L, ρ, h, hr, er, s⟩ => ⟨L, ρ, h, hr, er, s.bind fun v H1 L1 w h1 le1 hr1 r1 s1 => ?_⟩
  split at s1
  · rename_i i ek
    obtain ⟨z, rfl, ez⟩ := kLook_str ek
    have e1 := str_of r1
    subst e1
    obtain ⟨t, hz⟩ := hk z _ ez
    exact ⟨d, z, .int i, rfl, rfl, ⟨es, n, _, D0.at_, D0.lit, hz, ⟨t, rfl⟩⟩, s1.ok hr1 (.d (.int _))⟩
  · exact s1.elim
end
end Dw
/-! Dw: pop, insert, list(range(..)), t[i] of a tuple with things that change, d.get -/
namespace Dw
variable [LamTab]
open PySem PySem.Spec PyProof.Rows L2

/-! ### xs.pop(), xs.pop(i), xs.insert(i, x) -/
def oPop (x : W) (ws : List W) (h : MH) : Res W := match x, ws with
  | .ref j, [] => (match h[j]? with
    | some (.lst ds) => (match ds[ds.length - 1]? with
      | some d => .ok (.d d) (h.set j (.lst ds.dropLast))
      | none => .stuck)
    | _ => .stuck)
  | .ref j, [.d (.int i)] => (match h[j]? with
    | some (.lst ds) => if -(2 ^ 63) ≤ i ∧ i < 2 ^ 63 then (match seqIndex? i ds.length with
      | some k => (match ds[k]? with
        | some d => .ok (.d d) (h.set j (.lst (ds.eraseIdx k)))
        | none => .stuck)
      | none => .stuck) else .stuck
    | _ => .stuck)
  | _, _ => .stuck
def oInsert (x : W) (ws : List W) (h : MH) : Res W := match x, ws with
  | .ref j, [.d (.int i), .d d] => (match h[j]? with
    | some (.lst ds) => if ds.length < sizeLine ∧ 0 ≤ i ∧ i < 2 ^ 63 then .ok (.d .none) (h.set j (.lst (ds.take i.toNat ++ [d] ++ ds.drop i.toNat))) else .stuck
    | _ => .stuck)
  | _, _ => .stuck
section
variable {K : PySem.W.Frag} {mg : Str → Option Value} {L : Ly} {H : Hp} {h : MH} {v : V} {x : W} {vs : List V} {ws : List W} {Q : VK} {E : XK}
theorem DpAll.eraseIdx {F : Hp} : ∀ {ds : List D} {vs : List V} (k : Nat), DpAll K F vs ds → DpAll K F (vs.eraseIdx k) (ds.eraseIdx k)
  | [], _, _, h => by cases h; exact .nil
  | _ :: ds, _, 0, h => by
    cases h with
    | cons h1 h2 => exact h2
  | _ :: ds, _, k + 1, h => by
    cases h with
    | cons h1 h2 => exact .cons h1 (DpAll.eraseIdx k h2)
theorem DpAll.dropLast {F : Hp} : ∀ {ds : List D} {vs : List V}, DpAll K F vs ds → DpAll K F vs.dropLast ds.dropLast
  | [], _, h => by cases h; exact .nil
  | [_], _, h => by
    cases h with
    | cons h1 h2 => cases h2; exact .nil
  | _ :: d :: ds, _, h => by
    cases h with
    | cons h1 h2 =>
      cases h2 with
      | cons h2 h3 => exact .cons h1 (DpAll.dropLast (.cons h2 h3))
theorem ref_at (hr : HRel K mg L H h) {j : Nat} (r : WRel K L v (.ref j)) {ds : List D} (ej : h[j]? = some (.lst ds)) : ∃ a vs, v = .ref a ∧ L.mu[j]? = some a ∧ H a = some (.lst vs) ∧ DpAll K L.F vs ds := by
  cases r with
  | ref r =>
    cases hr.obj j _ _ r ej with
    | lst o1 o2 => exact ⟨_, _, rfl, r, o1, o2⟩
theorem pop_ho (hr : HRel K mg L H h) (r : WRel K L v x) (rs : WRels K L vs ws) (s : Sat K mg (WRel K) L (oPop x ws h) Q E) : rPop v vs H Q ∨ rPopAt v vs H Q := by
  unfold oPop at s
  split at s
  · split at s
    · rename_i ds ej
      split at s
      · rename_i d ed
        obtain ⟨a, us, rfl, m, o1, o2⟩ := ref_at hr r ej
        cases rs
        have hl := DpAll.length o2
        obtain ⟨y, ey, ry⟩ := DpAll.at o2 ed
        exact .inl ⟨a, us, y, rfl, rfl, o1, by rw [hl]; exact ey, s _ _ L (Ly.le.refl _) (hr.put m (.lst upd_same (DpAll.dropLast o2))) (.d ry)⟩
      · exact s.elim
    · exact s.elim
  · split at s
    · rename_i ds ej
      split at s
      · rename_i hi
        split at s
        · rename_i k ek
          split at s
          · rename_i d ed
            obtain ⟨a, us, rfl, m, o1, o2⟩ := ref_at hr r ej
            cases rs with
            | cons r1 rs =>
              cases rs
              have hl := DpAll.length o2
              obtain ⟨y, ey, ry⟩ := DpAll.at o2 ed
              exact .inr ⟨a, us, _, k, y, rfl, by rw [int_of r1], o1, hi.1, hi.2, by rw [hl]; exact ek, ey, s _ _ L (Ly.le.refl _) (hr.put m (.lst upd_same (DpAll.eraseIdx k o2))) (.d ry)⟩
          · exact s.elim
        · exact s.elim
      · exact s.elim
    · exact s.elim
  · exact s.elim
def rInsert : V → List V → Hp → VK → Prop := fun x vs H Q => ∃ (l : Addr) (xs : List V) (i : Int) (y : V), x = .ref l ∧ vs = [.int i, y] ∧ H l = some (.lst xs) ∧ xs.length < sizeLine ∧ 0 ≤ i ∧ i < 2 ^ 63 ∧
  Q .non (upd H l (.lst (xs.take i.toNat ++ [y] ++ xs.drop i.toNat)))
theorem insert_ho (hr : HRel K mg L H h) (r : WRel K L v x) (rs : WRels K L vs ws) (s : Sat K mg (WRel K) L (oInsert x ws h) Q E) : rInsert v vs H Q := by
  unfold oInsert at s
  split at s
  · split at s
    · rename_i ds ej
      split at s
      · rename_i hi
        obtain ⟨a, us, rfl, m, o1, o2⟩ := ref_at hr r ej
        cases rs with
        | cons r1 rs =>
          cases rs with
          | cons r2 rs =>
            cases rs
            have hl := DpAll.length o2
            cases r2 with
            | d r2 =>
              exact ⟨a, us, _, _, rfl, by rw [int_of r1], o1, by rw [hl]; exact hi.1, hi.2.1, hi.2.2, s _ _ L (Ly.le.refl _) (hr.put m (.lst upd_same (DpAll.append (DpAll.append (DpAll.take _ o2) (.cons r2 .nil)) (DpAll.drop _ o2)))) (.d .non)⟩
      · exact s.elim
    · exact s.elim
  · exact s.elim
end
section
variable {X : Cx} {Wx : WX} {o e : Expr} {es : List Expr} {pos apos : Pos} {m : M} {ms : MA}
theorem mt_pop2 : MtR X "list.pop" (fun x vs H Q => rPop x vs H Q ∨ rPopAt x vs H Q) := fun pins s σ H x vs v us Q I rx rv q =>
  q.elim (mt_pop pins s σ H x vs v us Q I rx rv) (mt_popAt pins s σ H x vs v us Q I rx rv)
/-- a method of a list without arguments -/
theorem je_met0 {name : Str} {id : String} {r : V → List V → Hp → VK → Prop} {c : W → MH → Bool} {op : W → List W → MH → Res W} (slot : Slot "list" name id) (hty : typeOf (.builtin id) = pure (.type "method_descriptor")) (hm : MtR X id r)
    (hc : ∀ L H h v x, HRel X.K X.mg L H h → WRel X.K L v x → c x h = true → tyV X.K "list" v H)
    (hop : ∀ L H h v x vs ws Q E, HRel X.K X.mg L H h → WRel X.K L v x → WRels X.K L vs ws → Sat X.K X.mg (WRel X.K) L (op x ws h) Q E → r v vs H Q)
    (ho : JE X Wx o m) (hbase : attributeBase o name X.env (eval o X.env) = eval o X.env := by rfl) (hline : (apos.endLine == pos.line) = true := by rfl) : JE X Wx (.Call (.Attribute o name apos) [] [] pos) (mMet c op m mNil) :=
  peI (pe_bm0 PySem.F.plainAttrs_list slot hty hm ho hbase hline) fun σ H Q t => by
    obtain ⟨L, ρ, h, hr, er, s⟩ := t
    refine ⟨L, ρ, h, hr, er, s.bind fun v H1 L1 x h1 le1 hr1 r1 s1 => ?_⟩
    split at s1
    · rename_i hl
      exact ⟨hc L1 H1 h1 v x hr1 r1 hl, hop L1 H1 h1 v x [] [] Q _ hr1 r1 .nil s1⟩
    · exact s1.elim
/-- list(range(a)) -/
def mLstRg1 (m : M) : M := fun ρ h => (m ρ h).bind fun w h1 => match w with
  | .d (.int n) => if 0 ≤ n ∧ n ≤ 100000 then .ok (.d (.list ((List.range n.toNat).map fun (i : Nat) => .int (i : Int)))) h1 else .stuck
  | _ => .stuck
theorem dpa_rgV {K : PySem.W.Frag} {F : Hp} (n : Int) : DpAll K F (rgV 0 n) ((List.range n.toNat).map fun (i : Nat) => .int (i : Int)) := by
  have e : rgV 0 n = ((List.range n.toNat).map fun (i : Nat) => ((i : Nat) : Int)).map V.int := by
    unfold rgV
    rw [List.map_map]
    simp
  have e2 : ((List.range n.toNat).map fun (i : Nat) => PyData.int (i : Int)) = ((List.range n.toNat).map fun (i : Nat) => ((i : Nat) : Int)).map .int := by rw [List.map_map]; rfl
  rw [e, e2]
  exact dpa_intsOf _
theorem je_lstRg1 {p p2 pos2 : Pos} (hg : Gl X "list") (hm : X.mg "list" = none) (hg2 : Gl X "range") (hm2 : X.mg "range" = none) (he : JE X Wx e m) (hc : X.calm = true := by rfl)
    (na : starEach [.Call (.Name "range" p2) [e] [] pos2] X.env = (false, eval (.Call (.Name "range" p2) [e] [] pos2) X.env) :: starEach [] X.env := by rfl) (na2 : starEach [e] X.env = (false, eval e X.env) :: starEach [] X.env := by rfl) :
    JE X Wx (.Call (.Name "list" p) [.Call (.Name "range" p2) [e] [] pos2] [] pos) (mLstRg1 m) :=
  peI (pe_listRg hc hg hm (prg_1 hg2 hm2 he na2) na) fun σ H Q ⟨L, ρ, h, hr, er, s⟩ => ⟨L, ρ, h, hr, er, s.bind fun v H1 L1 w h1 le1 hr1 r1 s1 => by
    split at s1
    · rename_i n
      split at s1
      · rename_i hn
        refine ⟨n, int_of r1, RgOk.of_le (Int.le_refl 0) (by omega) (by omega) hn.1, fun q nq => ?_⟩
        obtain ⟨le, hr'⟩ := hr1.frz (o := .lst (rgV 0 n)) nq
        exact s1 _ _ _ le hr' (.d (.lst (SqL.of (show upd L1.F q (.lst (rgV 0 n)) q = _ from upd_same)) (dpa_rgV n)))
      · exact s1.elim
    · exact s1.elim⟩
/-- t[i] of a tuple with parts that may change -/
def mIxT (ma : M) (i : Int) : M := fun ρ h => (ma ρ h).bind fun x h1 => match x with
  | .tup ws => (match L2.atI ws i with
    | some w => .ok w h1
    | none => .stuck)
  | _ => .stuck
theorem WRels.at {K : PySem.W.Frag} {L : Ly} : ∀ {vs : List V} {ws : List W} {i : Nat} {w : W}, WRels K L vs ws → ws[i]? = some w → ∃ v, vs[i]? = some v ∧ WRel K L v w
  | _, [], i, w, _, e => by simp at e
  | _, _ :: _, 0, w, h, e => by
    cases h with
    | cons h1 h2 => simp at e; subst e; exact ⟨_, rfl, h1⟩
  | _, _ :: _, i + 1, w, h, e => by
    cases h with
    | cons h1 h2 =>
      obtain ⟨v, a, b⟩ := WRels.at h2 (i := i) (by simpa using e)
      exact ⟨v, by simpa using a, b⟩
theorem WRels.atI {K : PySem.W.Frag} {L : Ly} {vs : List V} {ws : List W} {i : Int} {w : W} (h : WRels K L vs ws) (e : L2.atI ws i = some w) : ∃ v, L2.atI vs i = some v ∧ WRel K L v w := by
  have hl := h.length
  unfold L2.atI at e ⊢
  rw [hl]
  obtain ⟨j, ej, ew⟩ := Option.bind_eq_some_iff.mp e
  obtain ⟨v, ev, rv⟩ := WRels.at h ew
  exact ⟨v, Option.bind_eq_some_iff.mpr ⟨j, ej, ev⟩, rv⟩
theorem je_ixT {i : Int} {j} {p : Pos} (he : JE X Wx e m) : JE X Wx (.Subscript e (.Constant (.int i) j p) pos) (mIxT m i) :=
  peI (pe_ix ix_tup he pe_int (fun _ _ => rfl)) fun σ H Q ⟨L, ρ, h, hr, er, s⟩ => ⟨L, ρ, h, hr, er, s.bind fun v H1 L1 x h1 le1 hr1 r1 s1 => by
    split at s1
    · split at s1
      · rename_i w ew
        cases r1 with
        | tup q1 q2 =>
          obtain ⟨v, ev, rv⟩ := q2.atI ew
          exact ⟨_, _, i, v, rfl, rfl, hr1.sqt q1, ev, s1.ok hr1 rv⟩
      · exact s1.elim
    · exact s1.elim⟩
/-- d.get(k, x) -/
def mGet (mo mk mx : M) : M := fun ρ h => (mo ρ h).bind fun x h1 => if isDk x h1 = true then (mk ρ h1).bind fun y h2 => (mx ρ h2).bind fun z h3 => match dkOf x h3 with
  | some kvs => (match (rd y h3).bind keyD with
    | some k => .ok (match valD kvs k with
      | some d => .d d
      | none => z) h3
    | none => .stuck)
  | none => .stuck else .stuck
theorem je_get {f : Expr} {mk mx : M} (hu : X.A.units + 1 < cLine) (ho : JE X Wx o m) (he : JE X Wx e mk) (hf : JE X Wx f mx) (h2 : M2 X o "get" apos e f pos := by exact ⟨rfl, rfl, rfl, rfl⟩) : JE X Wx (.Call (.Attribute o "get" apos) [e, f] [] pos) (mGet m mk mx) :=
  peI (pe_dget2 hu ho he hf h2) fun σ H Q ⟨L, ρ, h, hr, er, s⟩ => ⟨L, ρ, h, hr, er, s.bind fun v H1 L1 x h1 le1 hr1 r1 s1 => by
    split at s1
    · rename_i hd
      unfold isDk at hd
      split at hd
      · rename_i i
        split at hd
        · rename_i kvs ei
          cases r1 with
          | ref r1 =>
            rename_i a
            cases hr1.obj i a _ r1 ei with
            | dk o1 o2 =>
              refine ⟨a, rfl, .inl ⟨_, .inl o1⟩, L1, ρ, h1, hr1, er.mono le1, s1.bind fun u H2 L2 y h2 le2 hr2 r2 s2 => ⟨L2, ρ, h2, hr2, er.mono (le1.trans le2), s2.bind fun t H3 L3 z h3 le3 hr3 r3 s3 => ?_⟩⟩
              split at s3
              · rename_i kvs' ek
                split at s3
                · rename_i k ekk
                  unfold dkOf at ek
                  simp only at ek
                  split at ek
                  · rename_i kvs2 ei'
                    cases ek
                    cases hr3.obj i a _ ((le2.trans le3).at r1) ei' with
                    | dk q1 q2 =>
                      rename_i vs
                      obtain ⟨dy, ey1, ey2⟩ := Option.bind_eq_some_iff.mp ekk
                      have kv := keyD_v (rd_rel hr3 (WRel.mono le3 _ _ r2) ey1) ey2
                      subst kv
                      have z := q2.val k
                      refine ⟨valV vs k, DGet.k q1, ?_⟩
                      cases qv : valD kvs' k with
                      | none =>
                        rw [qv] at z
                        rw [z]
                        simp only [qv] at s3
                        exact s3.ok hr3 r3
                      | some d =>
                        rw [qv] at z
                        obtain ⟨v', z1, z2⟩ := z
                        rw [z1]
                        simp only [qv] at s3
                        exact s3.ok hr3 (.d z2)
                  · cases ek
                · exact s3.elim
              · exact s3.elim
        · cases hd
      · cases hd
    · exact s1.elim⟩
end
end Dw
/-! Dw: defs with lambdas in them; facts of written dicts -/
namespace Dw
/-- a text without lambdas -/
instance (priority := low) lamNone : LamTab := ⟨fun _ => none, []⟩
variable [LamTab]
open PySem PySem.Spec PyProof.Rows L2
/-- a def whose code object is known -/
structure FunC (K : PySem.W.Frag) (x qual : Str) (st : Stmt) (f : Addr) (fd : FuncData) (c : Addr) : Prop where
  exC : ∃ (oc : Value) (od : Option Addr) (kV doc pm : Value) (an : Option Addr) (ct : Value) (osl : Array (Option Value)),
    fd = PySem.W.fnOf x qual (defArgs st) (defBody st) (defScope st) .none kV doc pm an (.ref c) ct ∧ K.lookup f = some ⟨oc, od, .func fd, osl⟩ ∧ PySem.W.codeIn K (.ref c) qual = true
  fn : Fun K x qual st f fd
omit [LamTab] in
theorem rel_str {x : Str} {t : Tok} : RelV (.str x) (Value.str x t) := ⟨_, rfl⟩
omit [LamTab] in
theorem cx_no0 {P : Program} {w : World} {H : Hp} {s : Shared} {e : Value} {s' : Shared} (h : L2.CX P w [] H s (fun _ _ _ => False) e s') : False := by
  obtain ⟨_, _, _, _, _, _, _, _, _, _, _, _, z⟩ := h
  exact z.elim
section
variable {P : Program} {w : World} {K : PySem.W.Frag} {mg : Str → Option Value} {base : Heap}
omit [LamTab] in
theorem funC_mk {x qual : Str} {st : Stmt} {f c : Addr} {oc : Value} {od an : Option Addr} {osl : Array (Option Value)} {kV doc pm ct : Value} (l : K.lookup f = some ⟨oc, od, .func (PySem.W.fnOf x qual (defArgs st) (defBody st) (defScope st) .none kV doc pm an (.ref c) ct), osl⟩)
    (h : PySem.W.codeIn K (.ref c) qual = true) (k : PySem.W.keepIn K (.ref f) = true) : FunC K x qual st f (PySem.W.fnOf x qual (defArgs st) (defBody st) (defScope st) .none kV doc pm an (.ref c) ct) c :=
  ⟨⟨oc, od, kV, doc, pm, an, ct, osl, rfl, l, h⟩, fun_mk l h k⟩
theorem fnok_ofC {x qual : Str} {st : Stmt} {f c : Addr} {fd : FuncData} {N ps : List Str} {k n : Nat} {mb : MS} (F : FunC K x qual st f fd c) (S : FnScope N ps (defScope st)) (hn : ps.length = n)
    (hbody : ∀ (A : Around) (outer : List Env) (s : Shared) (H : Hp) (E : XK), Room k (A.deeper (envOfC qual (defScope st) s.heap.objs.size f (.ref c))) →
      JSs (cxOf (L2.CX P w) P w K mg base N qual (defScope st) f (.ref c) A outer s H E) (fun cls d _ H' => E cls d H') (defBody st) mb) : FnOk P w K mg base (L2.CX P w) (k + 1) f fd ps (spF K mg n (mFn N.length mb)) := by
  obtain ⟨oc, od, kV, doc, pm, an, ct, osl, rfl, lk, hcd⟩ := F.exC
  refine fn_of lk hcd S (fun vs H Q E h => h.1.trans hn.symm) fun A outer s H vs Q E hr h => ⟨_, hbody A outer s H E hr, ?_⟩
  obtain ⟨hl, L, h, ws, hrl, rw', s⟩ := h
  have hpl : vs.length ≤ N.length := by
    have := congrArg List.length S.pre
    rw [List.length_take] at this
    omega
  refine ⟨L, _, h, hrl, start_rel N.length rw' hpl, ?_⟩
  unfold mFn at s
  cases q : mb (ws.map some ++ List.replicate (N.length - ws.length) none) h with
  | nx ρ h' => rw [q] at s; exact fun σ' H' L' le hr' er => ret_sat hrl s le hr' (.d .non)
  | rt w h' => rw [q] at s; exact fun v H' L' le hr' rv => ret_sat hrl s le hr' rv
  | exc c h' => rw [q] at s; exact fun cls dd σ' H' L' ei le hr' er => exc_sat hrl s le hr' ei
  | bk ρ h' => rw [q] at s; exact s.elim
  | ct ρ h' => rw [q] at s; exact s.elim
  | stuck => rw [q] at s; exact s.elim
/-- THE RULE for a def with a lambda in it -/
theorem fst_ofC {x qual : Str} {st : Stmt} {f c : Addr} {fd : FuncData} {N ps : List Str} {k n : Nat} {mb : MS} (F : FunC K x qual st f fd c) (mgf : mg x = some (.ref f)) (b : Binds K fd ps []) (S : FnScope N ps (defScope st)) (hn : ps.length = n)
    (hbody : ∀ (A : Around) (outer : List Env) (s : Shared) (H : Hp) (E : XK), Room k (A.deeper (envOfC qual (defScope st) s.heap.objs.size f (.ref c))) →
      JSs (cxOf (L2.CX P w) P w K mg base N qual (defScope st) f (.ref c) A outer s H E) (fun cls d _ H' => E cls d H') (defBody st) mb) : FSt P w K mg base (k + 1) x n (mFn N.length mb) :=
  ⟨f, fd, ps, mgf, F.fn.kp, b, fnok_ofC F S hn hbody⟩
end
def freeB (a b : List (Str × NameKind)) : Bool := a.all fun y => !decide (y.2 = .free) || decide (b.lookup y.1 = some .cell) || decide (b.lookup y.1 = some .free)
omit [LamTab] in
theorem free_by {a b : List (Str × NameKind)} (h : freeB a b = true) : ∀ y ∈ a, y.2 = .free → b.lookup y.1 = some .cell ∨ b.lookup y.1 = some .free := fun y hy e => by
  have := List.all_eq_true.mp h y hy
  simp only [e, decide_true, Bool.not_true, Bool.false_or, Bool.or_eq_true, decide_eq_true_eq] at this
  exact this
section
variable {K : PySem.W.Frag} {d : Addr}
abbrev KdAt (K : PySem.W.Frag) (d : Addr) (z : Str) (r : Option Int) : Prop := match r with
  | some i => ∃ t, PySem.W.nsIn K d z = some (some (.int i t))
  | none => PySem.W.nsIn K d z = some none
inductive KdAll (K : PySem.W.Frag) (d : Addr) : List (Str × Option Int) → Prop
  | nil : KdAll K d []
  | cons {z : Str} {r : Option Int} {l : List (Str × Option Int)} (h : KdAt K d z r) (t : KdAll K d l) : KdAll K d ((z, r) :: l)
omit [LamTab] in
theorem kd_nil : KdAll K d [] := .nil
omit [LamTab] in
theorem kd_cons {z : Str} {r : Option Int} {l : List (Str × Option Int)} (h : KdAt K d z r) (t : KdAll K d l) : KdAll K d ((z, r) :: l) := .cons h t
omit [LamTab] in
theorem kd_of {kvs : List (Str × Option Int)} (h : KdAll K d kvs) : ∀ z r, kvs.lookup z = some r → match r with
    | some i => ∃ t, PySem.W.nsIn K d z = some (some (.int i t))
    | none => PySem.W.nsIn K d z = some none := by
  induction h with
  | nil => intro z r e; cases e
  | @cons z' r' l h t ih =>
    intro z r e
    by_cases hz : z = z'
    · subst hz
      simp only [List.lookup, beq_self_eq_true] at e
      cases e
      exact h
    · simp only [List.lookup, beq_eq_false_iff_ne.mpr hz] at e
      exact ih z r e
end
end Dw
/-! Dw: new lists that will change -/
namespace Dw
variable [LamTab]
open PySem PySem.Spec PyProof.Rows L2
def mLstRg1R (m : M) : M := fun ρ h => (m ρ h).bind fun w h1 => match w with
  | .d (.int n) => if 0 ≤ n ∧ n ≤ 100000 then .ok (.ref h1.length) (h1 ++ [.lst ((List.range n.toNat).map fun (i : Nat) => .int (i : Int))]) else .stuck
  | _ => .stuck
section
variable {X : Cx} {Wx : WX} {e : Expr} {m : M} {pos : Pos}
theorem je_lstRg1R {p p2 pos2 : Pos} (hg : Gl X "list") (hm : X.mg "list" = none) (hg2 : Gl X "range") (hm2 : X.mg "range" = none) (he : JE X Wx e m) (hc : X.calm = true := by rfl)
    (na : starEach [.Call (.Name "range" p2) [e] [] pos2] X.env = (false, eval (.Call (.Name "range" p2) [e] [] pos2) X.env) :: starEach [] X.env := by rfl) (na2 : starEach [e] X.env = (false, eval e X.env) :: starEach [] X.env := by rfl) :
    JE X Wx (.Call (.Name "list" p) [.Call (.Name "range" p2) [e] [] pos2] [] pos) (mLstRg1R m) :=
  peI (pe_listRg hc hg hm (prg_1 hg2 hm2 he na2) na) fun σ H Q ⟨L, ρ, h, hr, er, s⟩ => ⟨L, ρ, h, hr, er, s.bind fun v H1 L1 w h1 le1 hr1 r1 s1 => by
    split at s1
    · rename_i n
      split at s1
      · rename_i hn
        refine ⟨n, int_of r1, RgOk.of_le (Int.le_refl 0) (by omega) (by omega) hn.1, fun q nq => ?_⟩
        obtain ⟨le, hr'⟩ := hr1.new (u := .lst (rgV 0 n)) (o := .lst ((List.range n.toNat).map fun (i : Nat) => .int (i : Int))) nq (.lst upd_same (dpa_rgV n))
        refine s1 _ _ _ le hr' (.ref ?_)
        show (L1.mu ++ [q])[h1.length]? = some q
        rw [← hr1.len]
        simp
      · exact s1.elim
    · exact s1.elim⟩
/-- list(x), which will change -/
def oListR (ws : List W) (h : MH) : Res W := match ws with
  | [w] => (match rd w h with
    | some (.list ds) => .ok (.ref h.length) (h ++ [.lst ds])
    | some (.tuple ds) => .ok (.ref h.length) (h ++ [.lst ds])
    | _ => .stuck)
  | _ => .stuck
theorem cw_listR : CalW X (.type "list") oListR := by
  intro pins s σ H xs us Q I r q
  obtain ⟨L, h, ws, hr, rw', s1⟩ := q
  unfold oListR at s1
  split at s1
  · rename_i w
    cases rw' with
    | cons r1 r2 =>
      cases r2
      split at s1
      · rename_i ds er
        obtain ⟨a, vs, rfl, q1, d1⟩ := (rd_rel hr r1 er).list hr
        refine L2.call_list_of pins s σ H _ us Q I r ⟨_, vs, rfl, .inl q1, fun l nl => ?_⟩
        obtain ⟨le, hr'⟩ := hr.new (u := .lst vs) (o := .lst ds) nl (.lst upd_same d1)
        refine s1 _ _ _ le hr' (.ref ?_)
        show (L.mu ++ [l])[h.length]? = some l
        rw [← hr.len]
        simp
      · rename_i ds er
        obtain ⟨a, vs, rfl, q1, d1⟩ := (rd_rel hr r1 er).tuple hr
        refine L2.call_list_of pins s σ H _ us Q I r ⟨_, vs, rfl, .inr q1, fun l nl => ?_⟩
        obtain ⟨le, hr'⟩ := hr.new (u := .lst vs) (o := .lst ds) nl (.lst upd_same d1)
        refine s1 _ _ _ le hr' (.ref ?_)
        show (L.mu ++ [l])[h.length]? = some l
        rw [← hr.len]
        simp
      · exact s1.elim
  · exact s1.elim
end
/-! ### [..], which will change -/
section
variable {K : PySem.W.Frag} {mg : Str → Option Value} {L : Ly} {H : Hp} {h : MH} {D : Addr} {o : HO} {P0 : List (Addr × HO)}
theorem HRel.pinNew {o' : MO} (r : HRel K mg { L with P := (D, o) :: P0 } H h) (ho : ORel K mg { F := L.F, mu := L.mu ++ [D], P := P0, C := L.C } H D o') : HRel K mg { F := L.F, mu := L.mu ++ [D], P := P0, C := L.C } H (h ++ [o']) := by
  obtain ⟨p1, p2, p3⟩ := r.pin (D, o) (List.mem_cons_self ..)
  have p2 : L.F D = none := p2
  have p3 : D ∉ L.mu := p3
  have rl : L.mu.length = h.length := r.len
  refine ⟨r.sub, fun p hp => ?_, (List.nodup_cons.mp (show (D :: P0.map (·.1)).Nodup from r.pnd)).2, ?_, ?_, fun a ha => ?_, fun p hp => ?_, fun t ht => ⟨(r.tab t ht).1, (r.tab t ht).2.1, fun q hq => (r.tab t ht).2.2 q (List.mem_cons_of_mem _ hq)⟩, fun i a u e e2 => ?_, r.cnt, r.fx⟩
  · obtain ⟨h1, h2, h3⟩ := r.pin p (List.mem_cons_of_mem _ hp)
    have h3 : p.1 ∉ L.mu := h3
    have nd : (D :: P0.map (·.1)).Nodup := r.pnd
    refine ⟨h1, h2, fun z => ?_⟩
    rcases List.mem_append.mp z with z | z
    · exact h3 z
    · exact (List.nodup_cons.mp nd).1 (List.mem_map.mpr ⟨p, hp, List.mem_singleton.mp z⟩)
  · show (L.mu ++ [D]).length = _
    rw [List.length_append, List.length_append, rl]
    rfl
  · show (L.mu ++ [D]).Nodup
    rw [List.nodup_append]
    refine ⟨r.nd, by simp, fun a ha b hb => ?_⟩
    rw [List.mem_singleton.mp hb]
    exact fun z => p3 (z ▸ ha)
  · rcases List.mem_append.mp ha with z | z
    · exact r.fr a z
    · rw [List.mem_singleton.mp z]
      exact p2
  · obtain ⟨h1, h2⟩ := r.cpin p hp
    refine ⟨h1, h2.imp id fun ⟨h2, h3, h4⟩ => ⟨h2, fun z => ?_, fun q hq => h4 q (List.mem_cons_of_mem _ hq)⟩⟩
    have h3 : p.1 ∉ L.mu := h3
    rcases List.mem_append.mp z with z | z
    · exact h3 z
    · exact h4 (D, o) (List.mem_cons_self ..) (List.mem_singleton.mp z).symm
  · have e : (L.mu ++ [D])[i]? = some a := e
    by_cases hi : i < L.mu.length
    · rw [List.getElem?_append_left hi] at e
      rw [List.getElem?_append_left (by rw [← rl]; exact hi)] at e2
      exact (r.obj i a u e e2).mono (L := { L with P := (D, o) :: P0 }) (L' := { F := L.F, mu := L.mu ++ [D], P := P0, C := L.C }) ⟨fun _ _ z => z, List.prefix_append _ _, fun _ z => z⟩ rfl
    · have hi2 : i = L.mu.length := by
        have := (List.getElem?_eq_some_iff.mp e).1
        rw [List.length_append] at this
        simp at this
        omega
      subst hi2
      rw [List.getElem?_append_right (Nat.le_refl _)] at e
      simp at e
      subst e
      rw [rl, List.getElem?_append_right (Nat.le_refl _)] at e2
      simp at e2
      subst e2
      exact ho
end
noncomputable def mLcR (mi : MI) (vs : List Nat) (g : GF) (t : MT) (elt : M) : M := fun ρ h => (mi ρ h).bind fun it h1 => (lcRun g t elt it.keep (wipeM ρ vs) it.ws [] h1).bind fun ds h2 => .ok (.ref h2.length) (h2 ++ [MO.lst ds])
theorem lc_readR {K : PySem.W.Frag} {mg : Str → Option Value} {Wx : WX} {mi : MI} {vs : List Nat} {g : GF} {t : MT} {elt : M} {σ : L2.St} {H : Hp} {Q : VK} (q : tM K mg Wx (mLcR mi vs g t elt) σ H Q) :
    tLc (tI K mg Wx mi) (tG K mg vs g) (tMT K mg W0 t) (tM K mg W0 elt) vs σ H Q := by
  obtain ⟨L, ρ, h, hr, er, s⟩ := q
  refine ⟨L, ρ, h, hr, er, s.bind fun J H1 L1 it h1 le1 hr1 r1 s1 => ?_⟩
  intro D nD
  have er1 := er.mono le1
  refine ⟨fun i m H => m = it.ws.length - i ∧ i ≤ it.ws.length ∧ ∃ L h acc us, L1.lw L ∧ L.P = (D, .lst us) :: L1.P ∧ HRel K mg L H h ∧ DpAll K L.F us acc ∧
    Sat K mg (WRel K) L1 ((lcRun g t elt it.keep (wipeM ρ vs) (it.ws.drop i) acc h).bind fun ds h2 => .ok (.ref h2.length) (h2 ++ [MO.lst ds])) Q (fun c d H' => Wx c d σ H'),
    ⟨_, rfl, Nat.zero_le _, { L1 with P := (D, .lst []) :: L1.P }, h1, [], [], ⟨fun _ _ z => z, List.prefix_refl _, fun _ z => z⟩, rfl, hr1.pinPush nD, .nil, s1⟩, ?_⟩
  rintro i m H ⟨rfl, hi, L, h, acc, us, lw, eP, hr, ha, s⟩
  by_cases hlt : i < it.ws.length
  · rw [List.drop_eq_getElem_cons hlt] at s
    unfold lcRun at s
    split at s
    · rename_i hk
      obtain ⟨i1, _⟩ := r1 L H h lw.f lw.m hr hk i
      obtain ⟨go, yl⟩ := i1 _ (List.getElem?_eq_getElem hlt)
      split at s
      · exact (show False from s).elim
      · rename_i ρ2 eg
        refine .inr ⟨go, fun H' => ∃ L h acc us, L1.lw L ∧ L.P = (D, .lst us) :: L1.P ∧ HRel K mg L H' h ∧ DpAll K L.F us acc ∧
          Sat K mg (WRel K) L1 ((lcRun g t elt it.keep (wipeM ρ vs) (it.ws.drop (i + 1)) acc h).bind fun ds h2 => .ok (.ref h2.length) (h2 ++ [MO.lst ds])) Q (fun c d H' => Wx c d σ H'),
          fun H' q => ⟨_, by omega, rfl, hlt, q⟩, fun x H' y => ?_⟩
        obtain ⟨L2, le2, hr2, rx⟩ := yl x H' y
        refine ⟨L2, wipeM ρ vs, h, _, hr2, ((er1.monoW lw).mono le2).wipe vs, rx, ρ2, eg, fun σ2 er2 ag => ⟨by rw [ag.wipe, wipe_wipe], ?_⟩⟩
        refine ⟨L2, ρ2, h, hr2, er2, ?_⟩
        cases qt : t ρ2 h with
        | exc c h2 => simp only [qt] at s; exact (show False from s).elim
        | stuck => simp only [qt] at s; exact (show False from s).elim
        | ok b h2 =>
          simp only [qt] at s
          intro b' H3 L3 le3 hr3 eb
          obtain rfl : b' = b := eb
          have lw3 : L1.lw L3 := lw.trans (le2.w.trans le3.w)
          have eP3 : L3.P = (D, .lst us) :: L1.P := le3.p.trans (le2.p.trans eP)
          cases b' with
          | false =>
            simp only [Bool.false_eq_true, if_false] at s ⊢
            exact ⟨L3, h2, acc, us, lw3, eP3, hr3, DpAll.sub (fun a o z => le3.f a o (le2.f a o z)) _ _ ha, s⟩
          | true =>
            simp only [if_true] at s ⊢
            refine ⟨L3, ρ2, h2, hr3, er2.mono le3, ?_⟩
            cases qe : elt ρ2 h2 with
            | exc c h3 => simp only [qe] at s; exact (show False from s).elim
            | stuck => simp only [qe] at s; exact (show False from s).elim
            | ok w h3 =>
              cases w with
              | ref _ => simp only [qe] at s; exact (show False from s).elim
              | tup _ => simp only [qe] at s; exact (show False from s).elim
              | clo _ _ => simp only [qe] at s; exact (show False from s).elim
              | d x =>
                simp only [qe] at s
                split at s
                · rename_i hz
                  intro v H4 L4 le4 hr4 rv
                  have eP4 : L4.P = (D, .lst us) :: L1.P := le4.p.trans eP3
                  have ha4 := DpAll.sub (fun a o z => le4.f a o (le3.f a o (le2.f a o z))) _ _ ha
                  cases rv with
                  | d rv =>
                    have hp : H4 D = some (.lst us) := (hr4.pin (D, .lst us) (by rw [eP4]; exact List.mem_cons_self ..)).1
                    refine ⟨us, hp, by rw [DpAll.length ha]; exact hz, ?_⟩
                    obtain ⟨F4, mu4, P4, C4⟩ := L4
                    cases eP4
                    exact ⟨⟨F4, mu4, (D, .lst (us ++ [v])) :: L1.P, C4⟩, h3, acc ++ [x], us ++ [v], ⟨(lw3.trans le4.w).f, (lw3.trans le4.w).m, (lw3.trans le4.w).c⟩, rfl, HRel.pinSet (L := ⟨F4, mu4, (D, .lst us) :: L1.P, C4⟩) (o := .lst us) (fun _ z => by cases z) (fun _ z => by cases z) hr4, DpAll.append ha4 (.cons rv .nil), s⟩
                · exact (show False from s).elim
    · exact (show False from s).elim
  · have e : i = it.ws.length := by omega
    subst e
    rw [List.drop_length] at s
    unfold lcRun at s
    split at s
    · rename_i hk
      refine .inl ⟨(r1 L H h lw.f lw.m hr hk it.ws.length).2 (Nat.le_refl _), ?_⟩
      obtain ⟨F4, mu4, P4, C4⟩ := L
      cases eP
      have hf := HRel.pinNew (L := ⟨F4, mu4, (D, .lst us) :: L1.P, C4⟩) (o' := .lst acc) hr (.lst (hr.pin (D, .lst us) (List.mem_cons_self ..)).1 ha)
      refine s (.ref D) H ⟨F4, mu4 ++ [D], L1.P, C4⟩ ⟨lw.f, lw.m.trans (List.prefix_append _ _), rfl, lw.c⟩ hf (.ref ?_)
      show (mu4 ++ [D])[h.length]? = some D
      have hl : mu4.length = h.length := hr.len
      rw [← hl]
      simp
    · exact (show False from s).elim
section
variable {X : Cx} {Wx : WX} {elt tg iter : Expr} {ifs : List Expr} {scope : Scope} {own : List (Str × Nat)} {pos : Pos} {mi : MI} {g : GF} {t : MT} {m : M}
theorem je_lcR (hc : X.calm = true) (hN : X.N.Nodup) (hi : JI X Wx tg iter mi) (ok : BlkOk X.N X.env.scope scope own)
    (hg : ∀ (s : Shared) (H : Hp) (C : Addr) (cl : List (Str × Addr)) (fp : List Addr), JG (X.blk s H scope (compEnvC scope cl C X.env) fp) (own.map (·.2)) tg g)
    (ht : ∀ (s : Shared) (H : Hp) (C : Addr) (cl : List (Str × Addr)) (fp : List Addr), JTs (X.blk s H scope (compEnvC scope cl C X.env) fp) W0 ifs t)
    (he : ∀ (s : Shared) (H : Hp) (C : Addr) (cl : List (Str × Addr)) (fp : List Addr), JE (X.blk s H scope (compEnvC scope cl C X.env) fp) W0 elt m)
    (hs : ∀ x, foldedSetIterable iter X.env x = pure x := by intro _; rfl) : JE X Wx (.ListComp elt [⟨tg, iter, ifs, 0⟩] scope pos) (mLcR mi (own.map (·.2)) g t m) :=
  peI (pe_lc hc hN hi ok hg ht he hs) fun σ H Q q => lc_readR q
/-- y = [..] -/
theorem js_setLcR {i : Nat} {y : Str} {py spos : Pos} (hc : X.calm = true) (hN : X.N.Nodup) (hy : X.N[i]? = some y) (hyl : X.env.scope.names.lookup y = some .local)
    (hsw : swapsWith (.ListComp elt [⟨tg, iter, ifs, 0⟩] scope pos) (some (.Name y py)) spos.line X.env = pure true) (hi : JI X Wx tg iter mi) (ok : BlkOk X.N X.env.scope scope own)
    (hg : ∀ (s : Shared) (H : Hp) (C : Addr) (cl : List (Str × Addr)) (fp : List Addr), JG (X.blk s H scope (compEnvC scope cl C X.env) fp) (own.map (·.2)) tg g)
    (ht : ∀ (s : Shared) (H : Hp) (C : Addr) (cl : List (Str × Addr)) (fp : List Addr), JTs (X.blk s H scope (compEnvC scope cl C X.env) fp) W0 ifs t)
    (he : ∀ (s : Shared) (H : Hp) (C : Addr) (cl : List (Str × Addr)) (fp : List Addr), JE (X.blk s H scope (compEnvC scope cl C X.env) fp) W0 elt m)
    (hs : ∀ x, foldedSetIterable iter X.env x = pure x := by intro _; rfl) : JS X Wx (.Assign [.Name y py] (.ListComp elt [⟨tg, iter, ifs, 0⟩] scope pos) spos) (mAsg (gNm i) (mLcR mi (own.map (·.2)) g t m)) :=
  psI (ps_setLc hc hN hy hyl hsw hi ok hg ht he hs) fun D σ H ⟨L, ρ, h, hr, er, s⟩ =>
    lc_readR ⟨L, ρ, h, hr, er, Sat.toS er s fun v H1 L1 x h1 le1 hr1 r1 s1 => s1 _ H1 L1 (Ly.le.refl _) hr1 ((er.mono le1).set i r1)⟩
end
end Dw
/-! Dw: t * n of tuples -/
namespace Dw
variable [LamTab]
open PySem PySem.Spec PyProof.Rows L2
section
variable {X : Cx}
/-- once itself: the tuple as it stands -/
theorem tup_once (l : Addr) (its : Array Value) (n : Nat) (od : Option Addr) (slo : Array (Option Value)) (u : Tok) :
    Meets (Builtin.«tuple.__mul__» ⟨[.ref l, .int 1 u], []⟩) (fun _ R s => s.heap.get? l = some { cls := .type "tuple", dict := od, data := .seq its n, slots := slo } ∧ R (.ok (.ret (Value.ref l))) s) :=
  .of_wp fun pr w A R s h => by
    obtain ⟨hq, gg, dd, tt, oo⟩ := s; obtain ⟨hl, h⟩ := h
    have f1 := AutoSeq1.idx_int
    wp_walk using wpAny_loadPart' hl
    repeat (first
      | (refine wpAny_ite_false (decide_eq_false (by decide)) ?_; wp_walk using wpAny_loadPart' hl)
      | (refine wpAny_ite_true (decide_eq_true (by simp)) ?_; wp_walk using wpAny_loadPart' hl))
    exact ⟨_, rfl, h⟩
def rOnce (K : PySem.W.Frag) : R2 := fun x y H Q => ∃ l xs, x = .ref l ∧ y = .int 1 ∧ SqT K H l xs ∧ Q (.ref l) H
theorem op_once : OpR X (binaryOp .Mult) (rOnce X.K) := by
  intro pins s σ H x y v u Q I rx ry h
  obtain ⟨l, xs, rfl, rfl, hT, q⟩ := h
  cases rx; obtain ⟨t, rfl⟩ := ry
  obtain ⟨its, r, ⟨⟨cc, od, da, slo⟩, ho, hc, n, hd⟩, hs⟩ := I.tuple hT
  simp only at hc hd; subst hc hd
  exact wpAny_binaryOp_repeat_ref (T := "tuple") (U := "int") (by decide) ⟨_, ho, rfl⟩ (fun s' => typeIs_int s' 1 t) noFill_tuple_mul F.fills_int_mul F.slot_int_rmul repeat_tuple F.slot_int_index.lookup
    (call_meets F.slot_int_rmul (typeIs_int s 1 t) F.entry_int_rmul (F.args_int_rmul_2 _ _) (int_rmul_tuple 1 t l its.toArray n od slo) ⟨ho, rfl, ⟨_, ho, rfl⟩, call_meets F.slot_tuple_mul ⟨_, ho, rfl⟩ F.entry_tuple_mul (F.args_tuple_mul_2 _ _) (tup_once l its.toArray n od slo t) ⟨ho, .ref l, H, I, rfl, q⟩⟩)
def rMany (K : PySem.W.Frag) : R2 := fun x y H Q => ∃ l k xs, x = .ref l ∧ y = .int k ∧ SqT K H l xs ∧ xs ≠ [] ∧ 2 ≤ k ∧ k ≤ 1000 ∧ xs.length ≤ 1000 ∧ ∀ p, H p = none → ∀ ob : Obj, ob.dict = none → Q (.ref p) (upd H p (.frz ob (.tup (List.replicate k.toNat xs).flatten)))
theorem op_many : OpR X (binaryOp .Mult) (rMany X.K) := by
  intro pins s σ H x y v u Q I rx ry h
  obtain ⟨l, k, xs, rfl, rfl, hT, hne, k2, k3, hz, q⟩ := h
  cases rx; obtain ⟨t, rfl⟩ := ry
  obtain ⟨its, r, ⟨⟨cc, od, da, slo⟩, ho, hc, n, hd⟩, hs⟩ := I.tuple hT
  simp only at hc hd; subst hc hd
  have ln : its.length = xs.length := r.length.symm
  have ie : its.toArray.isEmpty = false := by
    match its, ln with
    | [], ln => exact absurd (List.eq_nil_of_length_eq_zero ln.symm) hne
    | _ :: _, _ => rfl
  have sz : its.toArray.size = xs.length := by rw [List.size_toArray, ln]
  have mx : ((its.toArray.size : Nat) : Int) * k ≤ 1000000 := by
    have := Int.mul_le_mul_of_nonneg_right (show ((its.toArray.size : Nat) : Int) ≤ 1000 by omega) (show 0 ≤ k by omega)
    omega
  have fl : (List.replicate k.toNat xs).flatten.length ≤ sizeLine := by
    have := Nat.mul_le_mul (show k.toNat ≤ 1000 by omega) hz
    rw [PyProof.Rows.lm_len_rep_flat, sizeLine_eq]; omega
  have fi : (List.replicate k.toNat its).flatten.length ≤ sizeLine := by rw [PyProof.Rows.lm_len_rep_flat, ln, ← PyProof.Rows.lm_len_rep_flat]; exact fl
  refine wpAny_binaryOp_repeat_ref (T := "tuple") (U := "int") (by decide) ⟨_, ho, rfl⟩ (fun s' => typeIs_int s' k t) noFill_tuple_mul F.fills_int_mul F.slot_int_rmul repeat_tuple F.slot_int_index.lookup (call_meets F.slot_int_rmul (typeIs_int s k t) F.entry_int_rmul (F.args_int_rmul_2 _ _) (int_rmul_tuple k t l its.toArray n od slo) ⟨ho, rfl, ⟨_, ho, rfl⟩, ?_⟩)
  refine call_meets F.slot_tuple_mul ⟨_, ho, rfl⟩ F.entry_tuple_mul (F.args_tuple_mul_2 _ _) (tuple_mulW l its.toArray n od slo k t ?_ ?_ ?_ (by omega) ?_ (by rw [size_rep, List.size_toArray]; exact fi)) ⟨ho, ?_⟩
  · rw [decide_eq_false (by omega), decide_eq_false (by omega)]; rfl
  · rw [ie, Bool.false_or]; exact beq_eq_false_iff_ne.mpr (by omega)
  · rw [ie, Bool.or_false]; exact decide_eq_false (by omega)
  · unfold Builtin.Tuple.tupleTooMany; rw [sizeLine_eq]; exact decide_eq_false (by omega)
  rw [size_rep]
  exact ⟨.ref s.heap.objs.size, _, inv_tup (t' := s.toks) I (r.rep k.toNat) fl, rfl, q _ (I.hok.fresh (Nat.le_refl _)) _ rfl⟩
/-- t * n -/
def fMulT : D → D → Option D
  | .tuple xs, .int k => if xs ≠ [] ∧ 1 ≤ k ∧ k ≤ 1000 ∧ xs.length ≤ 1000 then some (.tuple (List.replicate k.toNat xs).flatten) else none
  | _, _ => none
theorem bin_mulT : BinR X .Mult fMulT := by
  intro pins s σ H x y v u Q I rx ry q
  obtain ⟨L, h, a, b, c, hr, ra, rb, e, q⟩ := q
  unfold fMulT at e
  split at e
  · split at e
    · rename_i xs k hz
      cases e
      obtain ⟨p1, vs1, rfl, s1, d1⟩ := ra.tuple hr
      have ek := rb.int
      by_cases k1 : k = 1
      · subst k1
        refine op_once pins s σ H _ _ v u Q I rx ry ⟨p1, vs1, rfl, ek, s1, ?_⟩
        have : (List.replicate (1 : Int).toNat xs).flatten = xs := by show (List.replicate 1 xs).flatten = xs; simp
        rw [this] at q
        cases ra with
        | pure ra => exact q.here hr ra
      · refine op_many pins s σ H _ _ v u Q I rx ry ⟨p1, k, vs1, rfl, ek, s1, ?_, by omega, hz.2.2.1, by rw [DpAll.length d1]; exact hz.2.2.2, fun p np ob hd => q.tup hr (dpa_rep d1 _) np ob hd⟩
        intro z
        subst z
        have := DpAll.length d1
        exact hz.1 (List.eq_nil_of_length_eq_zero this.symm)
    · cases e
  · cases e
end
end Dw
/-! Dw: dicts whose keys are tuples -/
namespace Dw
variable [LamTab]
open PySem PySem.Spec PyProof.Rows L2
/-- the key that a tuple of values is -/
def keysW : List W → Option (List Key)
  | [] => some []
  | .d x :: ws => match keyD x, keysW ws with
    | some k, some ks => some (k :: ks)
    | _, _ => none
  | _ :: _ => none
theorem keysW_pure : ∀ {ws : List W} {ks : List Key}, keysW ws = some ks → ∃ ds, allD ws = some ds
  | [], ks, e => ⟨[], rfl⟩
  | .d x :: ws, ks, e => by
    unfold keysW at e
    split at e
    · rename_i k ks' h1 h2
      obtain ⟨ds, hd⟩ := keysW_pure h2
      exact ⟨x :: ds, by simp only [allD, hd]; rfl⟩
    · cases e
  | .ref _ :: _, ks, e => by simp [keysW] at e
  | .tup _ :: _, ks, e => by simp [keysW] at e
  | .clo _ _ :: _, ks, e => by simp [keysW] at e
theorem keysW_v {K : PySem.W.Frag} {L : Ly} : ∀ {ws : List W} {vs : List V} {ks : List Key}, WRels K L vs ws → keysW ws = some ks → vs = ks.map kV
  | [], _, ks, r, e => by cases r; cases e; rfl
  | .d x :: ws, _, ks, r, e => by
    cases r with
    | cons r1 r2 =>
      unfold keysW at e
      split at e
      · rename_i k ks' h1 h2
        cases e
        cases r1 with
        | d r1 =>
          have := keyD_v (H := L.F) (DRel.pure r1) h1
          rw [this, keysW_v r2 h2]
          rfl
      · cases e
  | .ref _ :: _, _, ks, r, e => by simp [keysW] at e
  | .tup _ :: _, _, ks, r, e => by simp [keysW] at e
  | .clo _ _ :: _, _, ks, r, e => by simp [keysW] at e
/-- a key stands there -/
theorem key_there {K : PySem.W.Frag} {mg : Str → Option Value} {L : Ly} {H : Hp} {h : MH} {u : V} {ws : List W} {ks : List Key} (hr : HRel K mg L H h) (r : WRel K L u (.tup ws)) (e : keysW ws = some ks) : ∃ b, u = .ref b ∧ H b = some (.tup (ks.map kV)) := by
  cases r with
  | tup h1 h2 =>
    rename_i a xs
    rcases h1 with ⟨_, n⟩ | h1
    · obtain ⟨ds, hd⟩ := keysW_pure e
      rw [hd] at n
      cases n
    · have := (hr.cpin _ h1).1
      rw [keysW_v h2 e] at this
      exact ⟨a, rfl, this⟩
section
variable {X : Cx} {Wx : WX} {a b o i e : Expr} {ma mb mo mi m : M} {pos pos' : Pos} {es : List Expr} {ms : MA}
def mDictT : M := fun _ h => .ok (.ref h.length) (h ++ [.dt []])
theorem je_dictT : JE X Wx (.Dict [] [] pos) mDictT := peI pe_dnewT fun σ H Q ⟨L, ρ, h, hr, er, s⟩ p np => by
  obtain ⟨le, hr'⟩ := hr.new (u := .dT []) (o := .dt []) np (.dt upd_same .nil)
  refine s _ _ _ le hr' (.ref ?_)
  show (L.mu ++ [p])[h.length]? = some p
  rw [← hr.len]
  simp
/-- a tuple that is to be a key -/
def mTupK (ms : MA) : M := fun ρ h => (ms ρ h).bind fun ws h1 => if ws.length ≤ sizeLine then .ok (.tup ws) h1 else .stuck
theorem je_tupK {x1} (ha : JA X Wx es ms) : JE X Wx (.Tuple es x1 pos) (mTupK ms) :=
  peI (pe_tup ha) fun σ H Q ⟨L, ρ, h, hr, er, s⟩ => ⟨L, ρ, h, hr, er, s.bind fun vs H1 L1 ws h1 le1 hr1 r1 s1 => by
    split at s1
    · rename_i hz
      refine ⟨by rw [r1.length]; exact hz, fun p np => ?_⟩
      obtain ⟨le, hr'⟩ := hr1.pairC (xs := vs) np
      exact s1 _ _ _ le hr' (.tup (.inr (List.mem_cons_self ..)) (WRels.mono le _ _ r1))
    · exact s1.elim⟩
/-- k in d -/
def inT (y x : W) (h : MH) : Res W := match y, x with
  | .tup ws, .ref i => (match h[i]?, keysW ws with
    | some (.dt kvs), some k => .ok (.d (.bool (valD kvs k).isSome)) h
    | _, _ => .stuck)
  | _, _ => .stuck
def mInT (ma mb : M) : M := fun ρ h => (ma ρ h).bind fun y h1 => (mb ρ h1).bind fun x h2 => inT y x h2
/-- d[k] -/
def ixT (x y : W) (h : MH) : Res W := match y, x with
  | .tup ws, .ref i => (match h[i]?, keysW ws with
    | some (.dt kvs), some k => (match valD kvs k with
      | some d => .ok (.d d) h
      | none => .stuck)
    | _, _ => .stuck)
  | _, _ => .stuck
def mIxTk (ma mb : M) : M := fun ρ h => (ma ρ h).bind fun x h1 => (mb ρ h1).bind fun y h2 => ixT x y h2
/-- d[k] = v -/
def putT (x y d : W) (h : MH) : Option MH := match y, x, d with
  | .tup ws, .ref i, .d d => (match h[i]?, keysW ws with
    | some (.dt kvs), some k => if kvs.length < sizeLine then some (h.set i (.dt (putD kvs k d))) else none
    | _, _ => none)
  | _, _, _ => none
def mPutT (mo mi m : M) : MS := fun ρ h => (m ρ h).toS ρ fun w h1 => (mo ρ h1).toS ρ fun x h2 => (mi ρ h2).toS ρ fun y h3 => match putT x y w h3 with
  | some h4 => .nx ρ h4
  | none => .stuck
/-- two values, one behind the other -/
theorem two_one {K : PySem.W.Frag} {mg : Str → Option Value} {f : W → W → MH → Res W} {σ : L2.St} {H : Hp} {Q : VK} {t1 : V → V → Hp → Prop}
    (g : ∀ L H h x y v u, HRel K mg L H h → WRel K L v x → WRel K L u y → Sat K mg (WRel K) L (f x y h) Q (fun c d H' => Wx c d σ H') → t1 v u H)
    (t : tM K mg Wx (fun ρ h => (ma ρ h).bind fun x h1 => (mb ρ h1).bind fun y h2 => f x y h2) σ H Q) : tM K mg Wx ma σ H fun v H1 => tM K mg Wx mb σ H1 fun u H2 => t1 v u H2 := by
  obtain ⟨L, ρ, h, hr, er, s⟩ := t
  exact ⟨L, ρ, h, hr, er, s.bind fun v H1 L1 x h1 le1 hr1 r1 s1 => ⟨L1, ρ, h1, hr1, er.mono le1, s1.bind fun u H2 L2 y h2 le2 hr2 r2 s2 => g L2 H2 h2 x y v u hr2 (WRel.mono le2 _ _ r1) r2 s2⟩⟩
theorem inT_g {L : Ly} {H : Hp} {h : MH} {x y : W} {v u : V} {Q : VK} {E : XK} (hr : HRel X.K X.mg L H h) (rx : WRel X.K L v x) (ry : WRel X.K L u y) (s : Sat X.K X.mg (WRel X.K) L (inT x y h) Q E) :
    ∃ a o, u = .ref a ∧ DGet H a v o ∧ Q (.bl o.isSome) H := by
  unfold inT at s
  split at s
  · rename_i ws i
    split at s
    · rename_i kvs k ei ek
      cases ry with
      | ref ry =>
        cases hr.obj i _ _ ry ei with
        | dt o1 o2 =>
          rename_i vs
          obtain ⟨b', e1, e2⟩ := key_there hr rx ek
          subst e1
          have z := o2.val k
          refine ⟨_, valV vs k, rfl, DGet.t o1 e2, ?_⟩
          have e : (valV vs k).isSome = (valD kvs k).isSome := by
            cases q : valD kvs k with
            | none => rw [q] at z; rw [z]; rfl
            | some d => rw [q] at z; obtain ⟨v', z1, _⟩ := z; rw [z1]; rfl
          rw [e]
          exact s.ok hr (.d (.bl _))
    · exact s.elim
  · exact s.elim
theorem je_inT (hu : X.A.units + 1 < cLine) (hm : behindInMarks .In b = false) (ha : JE X Wx a ma) (hb : JE X Wx b mb) : JE X Wx (.Compare a [.In] [b] pos) (mInT ma mb) :=
  peI (pe_cmp (pc_din hu ha hb) hm) fun σ H Q t => two_one (f := inT) (t1 := fun y x H2 => ∃ a o, x = .ref a ∧ DGet H2 a y o ∧ Q (.bl o.isSome) H2) (fun L H h y x u v hr ry rx s => inT_g hr ry rx s) t
theorem inT_bool (ρ : ME) (h : MH) (w : W) (h' : MH) (e : mInT ma mb ρ h = .ok w h') : ∃ k, w = .d (.bool k) := by
  unfold mInT at e
  cases qa : ma ρ h with
  | stuck => rw [qa] at e; cases e
  | exc c h1 => rw [qa] at e; cases e
  | ok x h1 =>
    rw [qa] at e
    have e : ((mb ρ h1).bind fun y h2 => inT x y h2) = .ok w h' := e
    cases qb : mb ρ h1 with
    | stuck => rw [qb] at e; cases e
    | exc c h2 => rw [qb] at e; cases e
    | ok y h2 =>
      rw [qb] at e
      have e : inT x y h2 = .ok w h' := e
      unfold inT at e
      split at e
      · split at e
        · cases e; exact ⟨_, rfl⟩
        · cases e
      · cases e
theorem jt_inT (hu : X.A.units + 1 < cLine) (hm : behindInMarks .In b = false) (ha : JE X Wx a ma) (hb : JE X Wx b mb) : JT X Wx (.Compare a [.In] [b] pos) (mTest (mInT ma mb)) :=
  ptI (pt_cmp (pc_din hu ha hb) hm) fun σ H Q t => two_one (f := inT) (t1 := fun y x H2 => ∃ a o, x = .ref a ∧ DGet H2 a y o ∧ ∃ k, V.bl o.isSome = V.bl k ∧ Q k H2) (fun L H h y x u v hr ry rx s => inT_g hr ry rx s) (test_of inT_bool t)
theorem je_ixTk (hu : X.A.units + 1 < cLine) (ha : JE X Wx a ma) (hb : JE X Wx b mb) (hs : NoSl b) : JE X Wx (.Subscript a b pos) (mIxTk ma mb) :=
  peI (pe_dget hu ha hb hs) fun σ H Q t => two_one (f := ixT) (t1 := fun v u H2 => ∃ a v', v = .ref a ∧ DGet H2 a u (some v') ∧ Q v' H2) (fun L H h x y v u hr rx ry s => by
    unfold ixT at s
    split at s
    · rename_i ws i
      split at s
      · rename_i kvs k ei ek
        split at s
        · rename_i d ed
          cases rx with
          | ref rx =>
            cases hr.obj i _ _ rx ei with
            | dt o1 o2 =>
              rename_i vs
              obtain ⟨b', e1, e2⟩ := key_there hr ry ek
              subst e1
              have z := o2.val k
              rw [ed] at z
              obtain ⟨v', z1, z2⟩ := z
              refine ⟨_, v', rfl, ?_, s.ok hr (.d z2)⟩
              rw [← z1]
              exact DGet.t o1 e2
        · exact s.elim
      · exact s.elim
    · exact s.elim) t
theorem js_putT (hu : X.A.units + 1 < cLine) (ho : JE X Wx o mo) (hi : JE X Wx i mi) (he : JE X Wx e m) (hs : swapsWith e (some (.Subscript o i pos')) pos.line X.env = pure false := by rfl) :
    JS X Wx (.Assign [.Subscript o i pos'] e pos) (mPutT mo mi m) :=
  psI (ps_dput hu ho hi he hs) fun D σ H ⟨L, ρ, h, hr, er, s⟩ => ⟨L, ρ, h, hr, er, Sat.toS er s fun v H1 L1 w h1 le1 hr1 r1 s1 =>
    ⟨L1, ρ, h1, hr1, er.mono le1, Sat.toS (er.mono le1) s1 fun u H2 L2 x h2 le2 hr2 r2 s2 =>
      ⟨L2, ρ, h2, hr2, er.mono (le1.trans le2), Sat.toS (er.mono (le1.trans le2)) s2 fun t H3 L3 y h3 le3 hr3 r3 s3 => by
        split at s3
        · rename_i h4 e4
          have rw1 := WRel.mono (le2.trans le3) _ _ r1
          have rx := WRel.mono le3 _ _ r2
          unfold putT at e4
          split at e4
          · rename_i ws j d
            split at e4
            · rename_i kvs k ej ek
              split at e4
              · rename_i hz
                cases e4
                cases rx with
                | ref rx =>
                  cases rw1 with
                  | d rw1 =>
                    cases hr3.obj j _ _ rx ej with
                    | dt o1 o2 =>
                      rename_i vs
                      obtain ⟨b', e1, e2⟩ := key_there hr3 r3 ek
                      subst e1
                      have hl : vs.length = kvs.length := Paired.length o2
                      exact ⟨_, _, rfl, DPut.t o1 e2 (by rw [hl]; exact hz), s3 _ _ L3 (Ly.le.refl _) (hr3.put rx (.dt upd_same (o2.put k rw1))) (er.mono (le1.trans (le2.trans le3)))⟩
              · cases e4
            · cases e4
          · cases e4
        · exact s3.elim⟩⟩⟩
end
end Dw
/-! Dw: list(d.values()), tuple(d.items()) -/
namespace Dw
variable [LamTab]
open PySem PySem.Spec PyProof.Rows L2
/-! #### many new things at once -/
def updAll (H : Hp) : List (Addr × HO) → Hp
  | [] => H
  | p :: ps => updAll (upd H p.1 p.2) ps
theorem updAll_off {b : Addr} : ∀ (ps : List (Addr × HO)) (H : Hp), b ∉ ps.map (·.1) → updAll H ps b = H b
  | [], H, _ => rfl
  | p :: ps, H, n => by
    rw [List.map_cons, List.mem_cons, not_or] at n
    show updAll (upd H p.1 p.2) ps b = H b
    rw [updAll_off ps _ n.2, upd_ne n.1]
theorem updAll_at : ∀ (ps : List (Addr × HO)) (H : Hp), (ps.map (·.1)).Nodup → ∀ p ∈ ps, updAll H ps p.1 = some p.2
  | [], H, _, p, h => by cases h
  | q :: ps, H, nd, p, h => by
    rw [List.map_cons, List.nodup_cons] at nd
    rcases List.mem_cons.mp h with rfl | h
    · show updAll (upd H p.1 p.2) ps p.1 = _
      rw [updAll_off ps _ nd.1, upd_same]
    · exact updAll_at ps _ nd.2 p h
theorem HRel.frzAll {K : PySem.W.Frag} {mg : Str → Option Value} {h : MH} : ∀ (ps : List (Addr × HO)) {L : Ly} {H : Hp}, HRel K mg L H h → (ps.map (·.1)).Nodup → (∀ p ∈ ps, H p.1 = none) → (∀ p ∈ ps, GoodO p.2) →
    ∃ L' : Ly, L.le L' ∧ HRel K mg L' (updAll H ps) h ∧ ∀ p ∈ ps, L'.F p.1 = some p.2
  | [], L, H, r, _, _, _ => ⟨L, Ly.le.refl L, r, fun p h => by cases h⟩
  | q :: ps, L, H, r, nd, np, g => by
    rw [List.map_cons, List.nodup_cons] at nd
    obtain ⟨le, r1⟩ := r.frz (o := q.2) (np q (by simp)) (g q (by simp))
    obtain ⟨L', le2, r2, at2⟩ := HRel.frzAll ps r1 nd.2 (fun p hp => by
      rw [upd_ne fun z => nd.1 (List.mem_map.mpr ⟨p, hp, z⟩)]
      exact np p (by simp [hp])) fun p hp => g p (by simp [hp])
    refine ⟨L', le.trans le2, r2, fun p hp => ?_⟩
    rcases List.mem_cons.mp hp with rfl | hp
    · exact le2.f _ _ (show upd L.F p.1 p.2 p.1 = _ from upd_same)
    · exact at2 p hp
section
variable {X : Cx} {pins : List (Addr × Obj)} {σ : L2.St} {H : Hp} {s : Shared} {h' : Heap}
theorem Inv.lays {t' : Nat} (I : Inv X pins σ H s) {ps : List (Addr × HO)} (nd : (ps.map (·.1)).Nodup) (k : ∀ b o, s.heap.get? b = some o → h'.get? b = some o) (new : ∀ p ∈ ps, s.heap.objs.size ≤ p.1)
    (ok : ∀ p ∈ ps, ObjOk X.prog X.w (updAll H ps) h' p.1 p.2) : Inv X pins σ (updAll H ps) { s with heap := h', toks := t' } := by
  have np : ∀ p ∈ ps, H p.1 = none := fun p hp => I.hok.fresh (new p hp)
  have old : ∀ b o, s.heap.get? b = some o → b ∉ ps.map (·.1) := fun b o e z => by
    obtain ⟨p, hp, rfl⟩ := List.mem_map.mp z
    exact absurd (Heap.lt_size e) (Nat.not_lt.mpr (new p hp))
  have kp : ∀ b u, H b = some u → updAll H ps b = some u := fun b u e => by
    rw [updAll_off ps H fun z => by
      obtain ⟨p, hp, rfl⟩ := List.mem_map.mp z
      rw [np p hp] at e
      cases e]
    exact e
  refine I.call' (ch := []) rfl ⟨fun b o q _ _ _ => k b o q, fun b o q _ _ _ => ⟨o.slots, k b o q⟩, fun b o q n _ => by rw [updAll_off ps H (old b o q)]; exact n, fun b o q _ => ⟨o, k b o q⟩, fun b xs q => kp b _ q, fun b o u q => kp b _ q, fun b qs q => ⟨#[], by rw [kp b _ q]; simp⟩⟩ (fun b u q => ?_) I.bare fun b z => by simp at z
  by_cases hb : b ∈ ps.map (·.1)
  · obtain ⟨p, hp, rfl⟩ := List.mem_map.mp hb
    rw [updAll_at ps H nd p hp] at q
    cases q
    exact ok p hp
  · rw [updAll_off ps H hb] at q
    exact (I.hok b u q).stay (fun d v _ y => k d v y) (fun d y => kp d _ y) fun d xs y => kp d _ y
end
/-! #### list(d.values()) -/
theorem vals_at : ∀ {kvs : List (Key × V)} {vs : List (Key × Value)}, KV kvs vs → Vals (kvs.map (·.2)) (vs.map (·.2))
  | _, _, .nil => .nil
  | _, _, .cons h t => .cons h.2 (vals_at t)
def tLstVals (te : TE) : TE := fun σ H Q => te σ H fun x H1 => ∃ (d : Addr) (kvs : List (Key × V)), x = .ref d ∧ H1 d = some (.dK kvs) ∧ ∀ p, H1 p = none → Q (.ref p) (upd H1 p (.lst (kvs.map (·.2))))
section
variable {X : Cx} {e : Expr} {te : TE} {p apos cpos pos : Pos}
theorem pe_lstVals (hc : X.calm = true) (he : PE X e te) (hg : Gl X "list") (hm : X.mg "list" = none) (hv : bootBuiltins "list" = some (.type "list")) (hbase : attributeBase e "values" X.env (eval e X.env) = eval e X.env := by rfl) (hline : (apos.endLine == cpos.line) = true := by rfl)
    (hs : starEach [.Call (.Attribute e "values" apos) [] [] cpos] X.env = (false, eval (.Call (.Attribute e "values" apos) [] [] cpos) X.env) :: starEach [] X.env := by rfl) :
    PE X (.Call (.Name "list" p) [.Call (.Attribute e "values" apos) [] [] cpos] [] pos) (tLstVals te) := by
  refine ⟨fun pins s σ H Q I hq => ?_⟩
  refine wpAny_Call_Name_kw (ld_blt I hg hm hv ?_)
  refine PyProof.Rows.callWith_type1 ?_ hs rfl
  rw [hs]
  refine Calls.spliced_cons (wpAny_Call_method (T := "dict") (id := "dict.values") hbase rfl hline F.plainAttrs_dict F.slot_dict_values F.type_dict_values (thn (he.run pins s σ H _ I hq) fun u s1 ⟨x, H1, I1, rx, d, kvs, ex, hd, q⟩ => ?_))
  subst ex; obtain rfl : u = Value.ref d := rx
  obtain ⟨hz, hs0, vs, kv, hdo⟩ := I1.hok d _ hd
  obtain ⟨ep, hat⟩ := hdo.dictAt
  have lk : kvs.length = vs.length := Paired.length kv
  have I2 : Inv X pins σ H1 { s1 with heap := s1.heap.push { cls := .type "dict_values", data := .fields #[.ref d] } } := I1.kept (t' := s1.toks) fun b ob q => Heap.get?_push_of_some _ q
  refine ⟨hdo.typeIs, hdo.mapOf.noDict, ?_⟩
  show wpAny _ _ (callWith cpos (.builtin "dict.values") [.ref d] [] []) _ X.xe s1
  refine method_meetsIn F.slot_dict_values F.entry_dict_values rfl (PySem.evalArgs_none ⟨rfl, hdo.typeIs, F.args_dict_values_1 _, _, meets_dict_values (mixKind X.prog X.w) d hs0, ⟨vs, hdo⟩, Calls.spliced_nil ?_⟩)
  refine PySem.W.kdl_call (PySem.W.kdl_values (knd := mixKind X.prog X.w) (kvs := vs) (ep := ep) (d := d) (r := s1.heap.objs.size)) (I1.ok.hd hc) ⟨⟨_, Heap.get?_push_size _ rfl, rfl, rfl⟩, hat.push _⟩ (by omega) fun h' tk acc c hk hS hacc => ?_
  have ev : acc.toList = vs.map (·.2) := PySem.W.kdl_vals_eq acc.toList (by rw [Array.length_toList]; exact hacc.1) fun j v e => hacc.2 j v (by rw [← Array.getElem?_toList]; exact e)
  refine ⟨.ref _, _, I2.laid (t' := tk) (o := .lst (kvs.map (·.2))) hk (Nat.le_refl _) ?_, rfl, q _ (I2.hok.fresh (Nat.le_refl _))⟩
  exact ⟨by rw [List.length_map]; exact hz, acc.toList, c, by rw [ev]; exact vals_at kv, by rw [Array.toArray_toList]; exact hS⟩
end
/-! #### tuple(d.items()) -/
theorem code_tupItems {prog : Program} {w : World} {A : Around} {E : Value → Shared → Prop} {s : Shared} {r d : Addr} {es : Array DictEntry} {ep : Nat} {Q : Value → Shared → Prop} (hh : A.handled = none) (hv : s.heap.IsItemsView r d) (hm : s.heap.DictRaw d es ep) (hn : es.size ≤ sizeLine)
    (h : ∀ (h' : Heap) (tk : Nat) (as : List Addr), (∀ b o, s.heap.get? b = some o → h'.get? b = some o) → as.length = es.size → PySem.W.DilG es s.heap.objs.size h' as → Q (.ref h'.objs.size) { s with heap := h'.push { cls := .type "tuple", data := .seq (as.map Value.ref).toArray }, toks := tk }) :
    codeAny (model prog w) A (.call (.builtin "tuple.__new__") ⟨[.type "tuple", .ref r], []⟩) (wants Q E) s := by
  refine codeAny_of_tree ?_
  show wpAny _ A.in1 (do checkBuiltinCall "tuple.__new__" ⟨[.type "tuple", .ref r], []⟩; again (.builtin "tuple.__new__" ⟨[.type "tuple", .ref r], []⟩)) _ _ s
  refine wpAny_bind (wpAny_of_eq (F.newCall_tuple_1 _) (wpAny_pure ⟨plainId_quiet F.plain_tuple_new _, codeAny_builtin F.entry_tuple_new ?_⟩))
  rw [Around.under_plainId F.plain_tuple_new _]
  have c1 := sub_tuple_self; have c2 := init_tuple_lookup; have c3 := madeHere_tuple; have c4 := hv.typeIs
  have c5 : A.in1.handled = none := hh
  wp_walk using wpAny_typeOf c4, PySem.W.dil_collect (A := A.in1) c5 hv hm hn
  intro h' tk as hk hl hG
  show wpAny _ _ (Builtin.Tuple.tupleExact (as.map Value.ref).toArray >>= fun v => ret v) _ _ _
  unfold Builtin.Tuple.tupleExact
  refine wpAny_bind (wpAny_newObj_type ?_ (by show (as.map Value.ref).toArray.size ≤ sizeLine; rw [List.size_toArray, List.length_map, hl]; exact hn))
  exact wpAny_pure (h h' tk as hk hl hG)
theorem call_tupItems {prog : Program} {w : World} {A : Around} {E : Value → Shared → Prop} {s : Shared} {r d : Addr} {es : Array DictEntry} {ep : Nat} {Q : Value → Shared → Prop} (hh : A.handled = none) (hv : s.heap.IsItemsView r d) (hm : s.heap.DictRaw d es ep) (hn : es.size ≤ sizeLine)
    (h : ∀ (h' : Heap) (tk : Nat) (as : List Addr), (∀ b o, s.heap.get? b = some o → h'.get? b = some o) → as.length = es.size → PySem.W.DilG es s.heap.objs.size h' as → Q (.ref h'.objs.size) { s with heap := h'.push { cls := .type "tuple", data := .seq (as.map Value.ref).toArray }, toks := tk }) :
    wpAny (model prog w) A (call (.type "tuple") [.ref r]) Q E s := by
  refine callType_codes (Q₁ := fun obj s₁ => s₁.TypeIs obj "tuple" ∧ Q obj s₁) F.called_tuple (F.typeCall_tuple_1 _) F.entry_object_init
    (code_tupItems (A := A.in1) hh hv hm hn fun h' tk as hk hl hG => ⟨⟨_, Heap.get?_push_size _ rfl, rfl⟩, h h' tk as hk hl hG⟩) fun obj s₁ h₁ => ?_
  exact ⟨h₁.1, F.args_object_init_2 obj _, object_init_meets F.called_tuple.init.lookup F.called_tuple.made (by decide) prog w A.in1 _ s₁ ⟨h₁.1, rfl, h₁.2⟩⟩
def tTupItems (te : TE) : TE := fun σ H Q => te σ H fun x H1 => ∃ (d : Addr) (kvs : List (Key × V)), x = .ref d ∧ H1 d = some (.dK kvs) ∧
  ∀ (ps : List (Addr × HO)) (p : Addr) (ob : Obj), Paired (fun (a : Addr × HO) (q : Key × V) => ∃ ob : Obj, ob.dict = none ∧ a.2 = .frz ob (.tup [kV q.1, q.2])) ps kvs → (ps.map (·.1)).Nodup → (∀ a ∈ ps, H1 a.1 = none) → updAll H1 ps p = none → ob.dict = none → Q (.ref p) (upd (updAll H1 ps) p (.frz ob (.tup (ps.map fun a => V.ref a.1))))
theorem pairs_len {α β : Type} {F : α → β → Prop} {xs : List α} {ys : List β} (p : Paired F xs ys) : xs.length = ys.length := Paired.length p
/-- the pairs as frozen things -/
def pairHO (kv : (Key × V) × (Value × Value)) : HO := .frz { cls := .type "tuple", data := .seq #[kv.2.1, kv.2.2] } (.tup [kV kv.1.1, kv.1.2])
theorem paired_of {α β γ : Type} {F : β → γ → Prop} (g : Nat → α → β) : ∀ (as : List α) (ys : List γ) (k : Nat), as.length = ys.length → (∀ (i : Nat) (a : α) (y : γ), as[i]? = some a → ys[i]? = some y → F (g (k + i) a) y) → Paired F (as.zipIdx k |>.map fun z => g z.2 z.1) ys
  | [], [], _, _, _ => .nil
  | [], _ :: _, _, h, _ => by cases h
  | _ :: _, [], _, h, _ => by cases h
  | a :: as, y :: ys, k, h, H => by
    rw [List.zipIdx_cons, List.map_cons]
    refine .cons (H 0 a y rfl rfl) (paired_of g as ys (k + 1) (by simpa using h) fun i a y e1 e2 => ?_)
    have := H (i + 1) a y (by simpa using e1) (by simpa using e2)
    rw [show k + 1 + i = k + (i + 1) by omega]
    exact this
section
variable {X : Cx} {e : Expr} {te : TE} {p apos cpos pos : Pos}
theorem pe_tupItems (hc : X.calm = true) (he : PE X e te) (hg : Gl X "tuple") (hm : X.mg "tuple" = none) (hv : bootBuiltins "tuple" = some (.type "tuple")) (hbase : attributeBase e "items" X.env (eval e X.env) = eval e X.env := by rfl) (hline : (apos.endLine == cpos.line) = true := by rfl)
    (hs : starEach [.Call (.Attribute e "items" apos) [] [] cpos] X.env = (false, eval (.Call (.Attribute e "items" apos) [] [] cpos) X.env) :: starEach [] X.env := by rfl) :
    PE X (.Call (.Name "tuple" p) [.Call (.Attribute e "items" apos) [] [] cpos] [] pos) (tTupItems te) := by
  refine ⟨fun pins s σ H Q I hq => ?_⟩
  refine wpAny_Call_Name_kw (ld_blt I hg hm hv ?_)
  refine PyProof.Rows.callWith_type1 ?_ hs rfl
  rw [hs]
  refine Calls.spliced_cons (wpAny_Call_method (T := "dict") (id := "dict.items") hbase rfl hline F.plainAttrs_dict F.slot_dict_items F.type_dict_items (thn (he.run pins s σ H _ I hq) fun u s1 ⟨x, H1, I1, rx, d, kvs, ex, hd, q⟩ => ?_))
  subst ex; obtain rfl : u = Value.ref d := rx
  obtain ⟨hz, hs0, vs, kv, hdo⟩ := I1.hok d _ hd
  obtain ⟨es, ep, raw, esz, ent⟩ := hdo.raw
  have lk : kvs.length = vs.length := Paired.length kv
  have I2 : Inv X pins σ H1 { s1 with heap := s1.heap.push { cls := .type "dict_items", data := .fields #[.ref d] } } := I1.kept (t' := s1.toks) fun b ob q => Heap.get?_push_of_some _ q
  refine ⟨hdo.typeIs, hdo.mapOf.noDict, ?_⟩
  show wpAny _ _ (callWith cpos (.builtin "dict.items") [.ref d] [] []) _ X.xe s1
  refine method_meetsIn F.slot_dict_items F.entry_dict_items rfl (PySem.evalArgs_none ⟨rfl, hdo.typeIs, F.args_dict_items_1 _, _, meets_dict_items (mixKind X.prog X.w) d hs0, ⟨vs, hdo⟩, Calls.spliced_nil ?_⟩)
  refine call_tupItems (I1.ok.hd hc) ⟨_, Heap.get?_push_size _ rfl, rfl, rfl⟩ (raw.at fun o e => Heap.get?_push_of_some _ e) (by omega) fun h' tk as hk hl hG => ?_
  -- each pair as it stands
  obtain ⟨ps, eps⟩ : ∃ ps : List (Addr × HO), ps = as.zipIdx.map fun z => (z.1, match kvs[z.2]?, es[z.2]? with
    | some q, some en => HO.frz { cls := .type "tuple", data := .seq #[en.key, en.val] } (.tup [kV q.1, q.2])
    | _, _ => .lst []) := ⟨_, rfl⟩
  have as1 : ps.map (·.1) = as := by
    rw [eps, List.map_map]
    show as.zipIdx.map (fun z => z.1) = as
    simp
  have pr : Paired (fun (a : Addr × HO) (q : Key × V) => ∃ ob : Obj, ob.dict = none ∧ a.2 = .frz ob (.tup [kV q.1, q.2])) ps kvs := by
    rw [eps]
    refine paired_of (fun i a => (a, match kvs[i]?, es[i]? with
      | some q, some en => HO.frz { cls := .type "tuple", data := .seq #[en.key, en.val] } (.tup [kV q.1, q.2])
      | _, _ => .lst [])) as kvs 0 (by omega) fun i a y e1 e2 => ?_
    have hi := (List.getElem?_eq_some_iff.mp e1).1
    have e3 : es[i]? = some es[i] := Array.getElem?_eq_getElem (by omega)
    simp only [Nat.zero_add, e2, e3]
    exact ⟨_, rfl, rfl⟩
  have nd : (ps.map (·.1)).Nodup := by rw [as1]; exact hG.rise.imp fun h => Nat.ne_of_lt h
  have new : ∀ q ∈ ps, s1.heap.objs.size + 1 ≤ q.1 := fun q hq => by
    have z : (s1.heap.push { cls := .type "dict_items", data := .fields #[.ref d] }).objs.size < q.1 := hG.above q.1 (by rw [← as1]; exact List.mem_map.mpr ⟨q, hq, rfl⟩)
    rw [Heap.size_push] at z
    omega
  have J := Inv.lays (t' := tk) (h' := h') I2 nd hk (fun q hq => by
    show (s1.heap.push _).objs.size ≤ q.1
    rw [Heap.size_push]
    exact new q hq) fun q hq => by
      rw [eps] at hq
      obtain ⟨z, hz1, rfl⟩ := List.mem_map.mp hq
      obtain ⟨a, i⟩ := z
      have e1 : as[i]? = some a := List.mem_zipIdx_iff_getElem?.mp hz1
      have hi := (List.getElem?_eq_some_iff.mp e1).1
      obtain ⟨hj, ea⟩ := hG.pairs i a e1
      have e2 : kvs[i]? = some kvs[i] := List.getElem?_eq_getElem (by omega)
      have e3 : es[i]? = some es[i] := Array.getElem?_eq_getElem hj
      simp only [e2, e3]
      obtain ⟨v2, g1, g2, g3⟩ := LiI.paired_get kv e2
      obtain ⟨k1, k2⟩ := ent i hj v2.1 v2.2 g1
      have rk : RelV (kV kvs[i].1) es[i].key := by
        rw [g2]
        exact keyIs_rel k1
      refine ⟨ea, by show 2 ≤ sizeLine; decide, [es[i].key, es[i].val], .cons rk (.cons (by rw [k2]; exact g3) .nil), ⟨_, ea, rfl, _, rfl⟩⟩
  have fr : (updAll H1 ps) h'.objs.size = none := J.hok.fresh (Nat.le_refl _)
  have vr : Vals (ps.map fun a => V.ref a.1) (as.map Value.ref) := by
    have : (ps.map fun a => V.ref a.1) = as.map V.ref := by rw [← as1, List.map_map]; rfl
    rw [this]
    exact LiI.vals_refs as
  have J2 := inv_tup (t' := tk) J vr (by rw [List.length_map]; have := pairs_len pr; omega)
  exact ⟨.ref h'.objs.size, _, J2, rfl, q ps _ _ pr nd (fun a ha => I2.hok.fresh (by show (s1.heap.push _).objs.size ≤ a.1; rw [Heap.size_push]; exact new a ha)) fr rfl⟩
end
/-! #### in the small language -/
def kD : Key → D
  | .inl i => .int i
  | .inr x => .str x
theorem dp_key {K : PySem.W.Frag} {F : Hp} (k : Key) : Dp K F (kV k) (kD k) := by
  cases k with
  | inl i => exact .int i
  | inr x => exact .str x
def pairKD (kv : Key × D) : D := .tuple [kD kv.1, kv.2]
def mLstVals (m : M) : M := fun ρ h => (m ρ h).bind fun w h1 => match w with
  | .ref i => (match h1[i]? with
    | some (.dk kvs) => .ok (.d (.list (kvs.map (·.2)))) h1
    | _ => .stuck)
  | _ => .stuck
def mTupItems (m : M) : M := fun ρ h => (m ρ h).bind fun w h1 => match w with
  | .ref i => (match h1[i]? with
    | some (.dk kvs) => .ok (.d (.tuple (kvs.map pairKD))) h1
    | _ => .stuck)
  | _ => .stuck
theorem krel_vals {K : PySem.W.Frag} {F : Hp} : ∀ {vs : List (Key × V)} {ds : List (Key × D)}, KRel K F vs ds → DpAll K F (vs.map (·.2)) (ds.map (·.2))
  | _, _, .nil => .nil
  | _, _, .cons h t => .cons h.2 (krel_vals t)
theorem krel_items {K : PySem.W.Frag} {F : Hp} : ∀ {ps : List (Addr × HO)} {vs : List (Key × V)} {ds : List (Key × D)}, Paired (fun (a : Addr × HO) (q : Key × V) => ∃ ob : Obj, ob.dict = none ∧ a.2 = .frz ob (.tup [kV q.1, q.2])) ps vs → KRel K F vs ds → (∀ p ∈ ps, F p.1 = some p.2) →
    DpAll K F (ps.map fun a => V.ref a.1) (ds.map pairKD)
  | _, _, _, .nil, .nil, _ => .nil
  | _, _, _, .cons h t, .cons h2 t2, at_ => by
    obtain ⟨ob, _, e⟩ := h
    refine .cons (.tup (.inl (.inr ⟨ob, by rw [at_ _ (List.mem_cons_self ..), e]⟩)) (.cons ?_ (.cons h2.2 .nil))) (krel_items t t2 fun p hp => at_ p (List.mem_cons_of_mem _ hp))
    rw [h2.1]
    exact dp_key _
theorem good_pairs : ∀ {ps : List (Addr × HO)} {vs : List (Key × V)}, Paired (fun (a : Addr × HO) (q : Key × V) => ∃ ob : Obj, ob.dict = none ∧ a.2 = .frz ob (.tup [kV q.1, q.2])) ps vs → ∀ p ∈ ps, GoodO p.2
  | _, _, .nil, p, h => by cases h
  | _, _, .cons h t, p, hp => by
    rcases List.mem_cons.mp hp with rfl | hp
    · obtain ⟨ob, e1, e2⟩ := h
      rw [e2]
      exact good_tup e1
    · exact good_pairs t p hp
section
variable {X : Cx} {Wx : WX} {e : Expr} {m : M} {p apos cpos pos : Pos}
theorem je_lstVals (hg : Gl X "list") (hm : X.mg "list" = none) (he : JE X Wx e m) (hc : X.calm = true := by rfl) (hbase : attributeBase e "values" X.env (eval e X.env) = eval e X.env := by rfl) (hline : (apos.endLine == cpos.line) = true := by rfl)
    (hs : starEach [.Call (.Attribute e "values" apos) [] [] cpos] X.env = (false, eval (.Call (.Attribute e "values" apos) [] [] cpos) X.env) :: starEach [] X.env := by rfl) :
    JE X Wx (.Call (.Name "list" p) [.Call (.Attribute e "values" apos) [] [] cpos] [] pos) (mLstVals m) :=
  peI (pe_lstVals hc he hg hm boot_list hbase hline hs) fun σ H Q ⟨L, ρ, h, hr, er, s⟩ => ⟨L, ρ, h, hr, er, s.bind fun v H1 L1 w h1 le1 hr1 r1 s1 => by
    split at s1
    · rename_i i
      split at s1
      · rename_i kvs ei
        cases r1 with
        | ref r1 =>
          cases hr1.obj i _ _ r1 ei with
          | dk o1 o2 =>
            rename_i vs
            refine ⟨_, _, rfl, o1, fun p np => ?_⟩
            obtain ⟨le, hr'⟩ := hr1.frz (o := .lst (vs.map (·.2))) np (good_lst _)
            exact s1 _ _ _ le hr' (.d (.lst (SqL.of (show upd L1.F p (.lst (vs.map (·.2))) p = _ from upd_same)) (DpAll.sub le.f _ _ (krel_vals o2))))
      · exact s1.elim
    · exact s1.elim⟩
theorem je_tupItems (hg : Gl X "tuple") (hm : X.mg "tuple" = none) (he : JE X Wx e m) (hc : X.calm = true := by rfl) (hbase : attributeBase e "items" X.env (eval e X.env) = eval e X.env := by rfl) (hline : (apos.endLine == cpos.line) = true := by rfl)
    (hs : starEach [.Call (.Attribute e "items" apos) [] [] cpos] X.env = (false, eval (.Call (.Attribute e "items" apos) [] [] cpos) X.env) :: starEach [] X.env := by rfl) :
    JE X Wx (.Call (.Name "tuple" p) [.Call (.Attribute e "items" apos) [] [] cpos] [] pos) (mTupItems m) :=
  peI (pe_tupItems hc he hg hm boot_tuple hbase hline hs) fun σ H Q ⟨L, ρ, h, hr, er, s⟩ => ⟨L, ρ, h, hr, er, s.bind fun v H1 L1 w h1 le1 hr1 r1 s1 => by
    split at s1
    · rename_i i
      split at s1
      · rename_i kvs ei
        cases r1 with
        | ref r1 =>
          cases hr1.obj i _ _ r1 ei with
          | dk o1 o2 =>
            refine ⟨_, _, rfl, o1, fun ps p ob pr nd np fr od => ?_⟩
            obtain ⟨L2, le2, hr2, at2⟩ := hr1.frzAll ps nd np (good_pairs pr)
            obtain ⟨le, hr'⟩ := hr2.frz (o := .frz ob (.tup (ps.map fun a => V.ref a.1))) fr (good_tup od)
            refine s1 _ _ _ (le2.trans le) hr' (.d (.tup (.inl (.inr ⟨ob, show upd L2.F p _ p = _ from upd_same⟩)) ?_))
            exact krel_items pr (o2.sub (le2.trans le).f) fun q hq => le.f _ _ (at2 q hq)
      · exact s1.elim
    · exact s1.elim⟩
end
end Dw
/-! Dw: {k: v, ..} -/
namespace Dw
variable [LamTab]
open PySem PySem.Spec PyProof.Rows L2
def evPs : List (M × M) → ME → MH → Res (List (W × W))
  | [], _, h => .ok [] h
  | p :: ps, ρ, h => (p.1 ρ h).bind fun x h1 => (p.2 ρ h1).bind fun y h2 => (evPs ps ρ h2).bind fun r h3 => .ok ((x, y) :: r) h3
def pairsW : List (W × W) → Option (List (Key × D))
  | [] => some []
  | (.d k, .d v) :: r => match keyD k, pairsW r with
    | some k, some r => some ((k, v) :: r)
    | _, _ => none
  | _ :: _ => none
/-- a dict written out -/
def mDisp (ps : List (M × M)) : M := fun ρ h => (evPs ps ρ (h ++ [.dk []])).bind fun ws h1 => match h1[h.length]?, pairsW ws with
  | some (.dk []), some kvs => if kvs.length ≤ 15 then .ok (.ref h.length) (h1.set h.length (.dk (mkD kvs))) else .stuck
  | _, _ => .stuck
def WPs (K : PySem.W.Frag) (L : Ly) : List (V × V) → List (W × W) → Prop := Paired fun p q => WRel K L p.1 q.1 ∧ WRel K L p.2 q.2
theorem WPs.mono {K : PySem.W.Frag} {L L' : Ly} (l : L.le L') {vs : List (V × V)} {ws : List (W × W)} (r : WPs K L vs ws) : WPs K L' vs ws :=
  Paired.mapP r fun _ _ z => ⟨WRel.mono l _ _ z.1, WRel.mono l _ _ z.2⟩
section
variable {K : PySem.W.Frag} {mg : Str → Option Value} {Wx : WX} {σ : L2.St} {ρ : ME}
abbrev trs (K : PySem.W.Frag) (mg : Str → Option Value) (Wx : WX) (ps : List (M × M)) : List (TE × TE) := ps.map fun p => (tM K mg Wx p.1, tM K mg Wx p.2)
theorem ps_read : ∀ {ps : List (M × M)} {L : Ly} {H : Hp} {h : MH} {Q : List (V × V) → Hp → Prop}, HRel K mg L H h → ERel K L σ ρ → Sat K mg (WPs K) L (evPs ps ρ h) Q (fun c d H' => Wx c d σ H') → tPairs (trs K mg Wx ps) σ H Q
  | [], L, H, h, Q, hr, er, s => s [] H L (Ly.le.refl L) hr .nil
  | p :: ps, L, H, h, Q, hr, er, s => by
    show tM K mg Wx p.1 σ H fun x H1 => tM K mg Wx p.2 σ H1 fun y H2 => tPairs (trs K mg Wx ps) σ H2 fun qs H3 => Q ((x, y) :: qs) H3
    refine ⟨L, ρ, h, hr, er, Sat.bind s fun x H1 L1 x' h1 le1 hr1 r1 s1 => ?_⟩
    refine ⟨L1, ρ, h1, hr1, er.mono le1, Sat.bind s1 fun y H2 L2 y' h2 le2 hr2 r2 s2 => ?_⟩
    refine ps_read hr2 (er.mono (le1.trans le2)) (Sat.bind s2 fun qs H3 L3 qs' h3 le3 hr3 r3 s3 => ?_)
    exact s3 _ _ _ (Ly.le.refl _) hr3 (.cons ⟨WRel.mono (le2.trans le3) _ _ r1, WRel.mono le3 _ _ r2⟩ r3)
end
theorem pairsW_rel {K : PySem.W.Frag} {mg : Str → Option Value} {L : Ly} {H : Hp} {h : MH} (hr : HRel K mg L H h) : ∀ {ws : List (W × W)} {vs : List (V × V)} {kvs : List (Key × D)}, WPs K L vs ws → pairsW ws = some kvs → ∃ ks : List (Key × V), vs = ks.map (fun kv => (kV kv.1, kv.2)) ∧ KRel K L.F ks kvs
  | [], _, kvs, r, e => by
    cases r
    cases e
    exact ⟨[], rfl, .nil⟩
  | (.d k, .d v) :: ws, _, kvs, r, e => by
    cases r with
    | cons r1 r2 =>
      rename_i p vs
      obtain ⟨px, py⟩ := p
      obtain ⟨ra, rb⟩ := r1
      unfold pairsW at e
      split at e
      · rename_i k' r' h1 h2
        cases e
        obtain ⟨ks, e1, e2⟩ := pairsW_rel hr r2 h2
        cases ra with
        | d ra =>
          cases rb with
          | d rb =>
            have ek := keyD_v (H := H) (DRel.pure ra) h1
            refine ⟨(k', py) :: ks, ?_, .cons ⟨rfl, rb⟩ e2⟩
            rw [List.map_cons, ← e1]
            show (px, py) :: vs = (kV k', py) :: vs
            rw [← ek]
      · cases e
  | (.d _, .ref _) :: _, _, kvs, r, e => by simp [pairsW] at e
  | (.d _, .tup _) :: _, _, kvs, r, e => by simp [pairsW] at e
  | (.d _, .clo _ _) :: _, _, kvs, r, e => by simp [pairsW] at e
  | (.ref _, _) :: _, _, kvs, r, e => by simp [pairsW] at e
  | (.tup _, _) :: _, _, kvs, r, e => by simp [pairsW] at e
  | (.clo _ _, _) :: _, _, kvs, r, e => by simp [pairsW] at e
section
variable {X : Cx} {Wx : WX} {pos : Pos} {k v : Expr} {ks : List (Option Expr)} {vs : List Expr} {mk mv : M} {ps : List (M × M)}
abbrev JP (X : Cx) (Wx : WX) (pos : Pos) (ks : List (Option Expr)) (vs : List Expr) (ps : List (M × M)) : Prop := PPs X pos ks vs (trs X.K X.mg Wx ps)
theorem jp_nil : JP X Wx pos [] [] [] := pps_nil
theorem jp_cons (hk : JE X Wx k mk) (hv : JE X Wx v mv) (hr : JP X Wx pos ks vs ps) : JP X Wx pos (some k :: ks) (v :: vs) ((mk, mv) :: ps) := pps_cons hk hv hr
theorem je_disp (hp : JP X Wx pos ks vs ps) (hall : ks.all (·.isSome) = true) (hl : ks.length = vs.length) (h0 : ks ≠ []) (h15 : ks.length ≤ 15) : JE X Wx (.Dict ks vs pos) (mDisp ps) :=
  peI (pe_disp hp hall hl h0 h15) fun σ H Q ⟨L, ρ, h, hr, er, s⟩ p np => by
    obtain ⟨le, hr'⟩ := hr.new (u := .dK []) (o := .dk []) np (.dk upd_same .nil)
    have at0 : (L.new p).mu[h.length]? = some p := by
      show (L.mu ++ [p])[h.length]? = some p
      rw [← hr.len]
      simp
    refine ps_read hr' (er.mono le) (Sat.bind (Sat.mono le s) fun qs H2 L2 ws h1 le2 hr2 r2 s2 => ?_)
    split at s2
    · rename_i kvs e1 e2
      split at s2
      · rename_i hz
        have at2 : L2.mu[h.length]? = some p := le2.at at0
        obtain ⟨ks', e3, e4⟩ := pairsW_rel hr2 r2 e2
        have h2p : H2 p = some (.dK []) := by
          cases hr2.obj _ _ _ at2 e1 with
          | dk o1 o2 =>
            cases o2
            exact o1
        refine ⟨h2p, ks', e3, by rw [Paired.length e4]; exact hz, ?_⟩
        exact s2 _ _ L2 (Ly.le.refl _) (hr2.put at2 (.dk upd_same (merge_rel e4 .nil))) (.ref at2)
      · exact s2.elim
    · exact s2.elim
end
end Dw
/-! Dw: a[i], b[j] = x, y -/
namespace Dw
variable [LamTab]
open PySem PySem.Spec PyProof.Rows L2
/-- what a store asks -/
theorem put_sat {K : PySem.W.Frag} {mg : Str → Option Value} {L : Ly} {H : Hp} {h h' : MH} {x y : W} {d : D} {ox oy vd : V} {Q : Hp → Prop} (hr : HRel K mg L H h) (rx : WRel K L ox x) (ry : WRel K L oy y) (rv : Dp K L.F vd d) (e : putW x y (.d d) h = some h')
    (q : ∀ H', HRel K mg L H' h' → Q H') : rSetL ox oy vd H Q ∨ rSetD ox oy vd H Q := by
  unfold putW at e
  split at e
  · rename_i j d' z
    cases z
    split at e
    · rename_i kvs ej
      split at e
      · rename_i k ek
        split at e
        · rename_i hz
          cases e
          cases rx with
          | ref rx =>
            cases hr.obj j _ _ rx ej with
            | dk o1 o2 =>
              rename_i vs
              obtain ⟨dy, ey1, ey2⟩ := Option.bind_eq_some_iff.mp ek
              have kv := keyD_v (rd_rel hr ry ey1) ey2
              subst kv
              have hl : vs.length = kvs.length := Paired.length o2
              exact .inr ⟨_, _, rfl, DPut.k o1 (by rw [hl]; exact hz), q _ (hr.put rx (.dk upd_same (o2.put k rv)))⟩
        · cases e
      · cases e
    · rename_i ds ej
      split at e
      · rename_i k ek
        split at e
        · rename_i jx ejx
          cases e
          cases rx with
          | ref rx =>
            cases hr.obj j _ _ rx ej with
            | lst o1 o2 =>
              rename_i vs
              have ky := (rd_rel hr ry ek).int
              subst ky
              have hl : vs.length = ds.length := DpAll.length o2
              exact .inl ⟨_, vs, k, jx, rfl, rfl, o1, by rw [hl]; exact ejx, q _ (hr.put rx (.lst upd_same (DpAll.set rv jx o2)))⟩
        · cases e
      · cases e
    · cases e
  · cases e
def mPut2 (mo1 mi1 mo2 mi2 m : M) : MS := fun ρ h => (m ρ h).toS ρ fun w h0 => match w with
  | .d (.tuple [a, b]) => (mo1 ρ h0).toS ρ fun x h1 => (mi1 ρ h1).toS ρ fun y h2 => (match putW x y (.d a) h2 with
    | some h3 => (mo2 ρ h3).toS ρ fun x2 h4 => (mi2 ρ h4).toS ρ fun y2 h5 => (match putW x2 y2 (.d b) h5 with
      | some h6 => .nx ρ h6
      | none => .stuck)
    | none => .stuck)
  | _ => .stuck
section
variable {X : Cx} {Wx : WX} {o1 i1 o2 i2 e : Expr} {p1 p2 pt pos : Pos} {mo1 mi1 mo2 mi2 m : M} {kt : Nat}
theorem js_put2 (hc : X.calm = true) (hu : X.A.units + 1 < cLine) (h1 : JE X Wx o1 mo1) (h2 : JE X Wx i1 mi1) (h3 : JE X Wx o2 mo2) (h4 : JE X Wx i2 mi2) (he : JE X Wx e m)
    (hs : swapsWithSole [.Tuple [.Subscript o1 i1 p1, .Subscript o2 i2 p2] kt pt] e pos.line X.env = pure false := by rfl) (hw : swappedStores [.Tuple [.Subscript o1 i1 p1, .Subscript o2 i2 p2] kt pt] e X.env = pure none := by rfl)
    (ha : (assignEach [.Tuple [.Subscript o1 i1 p1, .Subscript o2 i2 p2] kt pt] X.env).map (·.2) = [assign (.Tuple [.Subscript o1 i1 p1, .Subscript o2 i2 p2] kt pt) X.env] := by rfl)
    (a1 : ∀ v, assign (.Subscript o1 i1 p1) X.env v = (do
      let ov ← holding [v] (eval o1 X.env)
      let iv ← holding [v, ov] (eval i1 X.env)
      standAt p1
      holding [v, ov, iv] (setItem ov iv v)
      release [v, ov, iv] []) := by intro _; rfl)
    (a2 : ∀ v, assign (.Subscript o2 i2 p2) X.env v = (do
      let ov ← holding [v] (eval o2 X.env)
      let iv ← holding [v, ov] (eval i2 X.env)
      standAt p2
      holding [v, ov, iv] (setItem ov iv v)
      release [v, ov, iv] []) := by intro _; rfl)
    (c1 : (assignEach [Expr.Subscript o1 i1 p1, .Subscript o2 i2 p2] X.env).map (·.2) = assign (.Subscript o1 i1 p1) X.env :: (assignEach [Expr.Subscript o2 i2 p2] X.env).map (·.2) := by rfl)
    (c2 : (assignEach [Expr.Subscript o2 i2 p2] X.env).map (·.2) = assign (.Subscript o2 i2 p2) X.env :: (assignEach [] X.env).map (·.2) := by rfl)
    (hn : (assignEach [Expr.Subscript o1 i1 p1, .Subscript o2 i2 p2] X.env).length = 2 := by rfl) (hst : (assignEach [Expr.Subscript o1 i1 p1, .Subscript o2 i2 p2] X.env).findIdx? (·.1) = none := by rfl) :
    JS X Wx (.Assign [.Tuple [.Subscript o1 i1 p1, .Subscript o2 i2 p2] kt pt] e pos) (mPut2 mo1 mi1 mo2 mi2 m) :=
  psI (ps_asg he (pg_tup hc (pgs_cons (pg_sub h1 h2 (PSet.or set_list (set_dict hu)) a1) (pgs_cons (pg_sub h3 h4 (PSet.or set_list (set_dict hu)) a2) pgs_nil c2) c1) hn hst) hs hw ha) fun D σ H ⟨L, ρ, h, hr, er, s⟩ => ⟨L, ρ, h, hr, er, Sat.toS er s fun v H1 L1 w h1 le1 hr1 r1 s1 => by
    split at s1
    · rename_i a b
      cases r1 with
      | d r1 =>
        cases r1 with
        | tup q1 q2 =>
          cases q2 with
          | cons qa q2 =>
            cases q2 with
            | cons qb q2 =>
              cases q2
              refine ⟨_, _, rfl, SqT.sub hr1.sub q1, rfl, _, _, rfl, ?_⟩
              have er1 := er.mono le1
              refine ⟨L1, ρ, h1, hr1, er1, Sat.toS er1 s1 fun ox H2 L2 x h2 le2 hr2 rx s2 => ?_⟩
              have er2 := er1.mono le2
              refine ⟨L2, ρ, h2, hr2, er2, Sat.toS er2 s2 fun oy H3 L3 y h3 le3 hr3 ry s3 => ?_⟩
              have er3 := er2.mono le3
              split at s3
              · rename_i h4 e4
                refine put_sat hr3 (WRel.mono le3 _ _ rx) ry (Dp.sub (le2.trans le3).f _ _ qa) e4 fun H4 hr4 => ?_
                refine ⟨_, _, rfl, ?_⟩
                refine ⟨L3, ρ, h4, hr4, er3, Sat.toS er3 s3 fun ox2 H5 L5 x2 h5 le5 hr5 rx2 s5 => ?_⟩
                have er5 := er3.mono le5
                refine ⟨L5, ρ, h5, hr5, er5, Sat.toS er5 s5 fun oy2 H6 L6 y2 h6 le6 hr6 ry2 s6 => ?_⟩
                split at s6
                · rename_i h7 e7
                  refine put_sat hr6 (WRel.mono le6 _ _ rx2) ry2 (Dp.sub (((le2.trans le3).trans le5).trans le6).f _ _ qb) e7 fun H7 hr7 => ?_
                  exact ⟨rfl, s6 _ _ L6 (Ly.le.refl _) hr7 (er5.mono le6)⟩
                · exact s6.elim
              · exact s3.elim
    · exact s1.elim⟩
end
end Dw
/-! Dw: reasoning about the small language -/
namespace Dw
open PySem PySem.Spec PyProof.Rows L2

/-- it comes to something of which Q holds -/
structure wp {α : Type} (r : Res α) (Q : α → MH → Prop) : Prop where
  out : ∃ a h, r = .ok a h ∧ Q a h
abbrev PS := ME → MH → Prop
def wpsD (r : RS) (N : PS) (R : W → MH → Prop) (B C : PS) : Prop := match r with
  | .nx ρ h => N ρ h
  | .rt w h => R w h
  | .bk ρ h => B ρ h
  | .ct ρ h => C ρ h
  | _ => False
/-- what may come of a statement: it goes on, hands back, breaks off, goes round -/
structure wps (r : RS) (N : PS) (R : W → MH → Prop) (B C : PS) : Prop where
  out : wpsD r N R B C
section
variable {α β : Type} {Q : α → MH → Prop} {N B C : PS} {R : W → MH → Prop} {ρ : ME} {h : MH}
@[simp] theorem wp_ok {a : α} : wp (.ok a h) Q ↔ Q a h := ⟨fun p => (by obtain ⟨_, _, e, q⟩ := p.out; cases e; exact q), fun q => ⟨_, _, rfl, q⟩⟩
@[simp] theorem wp_stuck : wp (.stuck : Res α) Q ↔ False := ⟨fun p => (by obtain ⟨_, _, e, _⟩ := p.out; cases e), fun q => q.elim⟩
@[simp] theorem wp_exc {c : Str} : wp (.exc c h : Res α) Q ↔ False := ⟨fun p => (by obtain ⟨_, _, e, _⟩ := p.out; cases e), fun q => q.elim⟩
@[simp] theorem wp_bind {r : Res β} {f : β → MH → Res α} : wp (r.bind f) Q ↔ wp r fun a h => wp (f a h) Q := by
  cases r with
  | ok a h => exact (wp_ok (Q := fun a h => wp (f a h) Q)).symm
  | exc c h => exact (wp_exc (Q := Q)).trans (wp_exc (Q := fun a h => wp (f a h) Q)).symm
  | stuck => exact (wp_stuck (Q := Q)).trans (wp_stuck (Q := fun a h => wp (f a h) Q)).symm
theorem wp_mono {r : Res α} {Q' : α → MH → Prop} (p : wp r Q) (i : ∀ a h, Q a h → Q' a h) : wp r Q' := by
  obtain ⟨a, h, e, q⟩ := p.out
  exact ⟨a, h, e, i _ _ q⟩
theorem wp_congr {r : Res α} {Q' : α → MH → Prop} (i : ∀ a h, Q a h ↔ Q' a h) : wp r Q ↔ wp r Q' := ⟨fun p => wp_mono p fun a h => (i a h).mp, fun p => wp_mono p fun a h => (i a h).mpr⟩
theorem wp_get {r : Res α} (p : wp r Q) : ∃ a h, r = .ok a h ∧ Q a h := p.out
@[simp] theorem wps_nx : wps (.nx ρ h) N R B C ↔ N ρ h := ⟨fun p => p.out, fun q => ⟨q⟩⟩
@[simp] theorem wps_rt {w : W} : wps (.rt w h) N R B C ↔ R w h := ⟨fun p => p.out, fun q => ⟨q⟩⟩
@[simp] theorem wps_bk : wps (.bk ρ h) N R B C ↔ B ρ h := ⟨fun p => p.out, fun q => ⟨q⟩⟩
@[simp] theorem wps_ct : wps (.ct ρ h) N R B C ↔ C ρ h := ⟨fun p => p.out, fun q => ⟨q⟩⟩
@[simp] theorem wps_stuck : wps .stuck N R B C ↔ False := ⟨fun p => p.out, fun q => ⟨q⟩⟩
@[simp] theorem wps_exc {c : Str} : wps (.exc c ρ h) N R B C ↔ False := ⟨fun p => p.out, fun q => ⟨q⟩⟩
@[simp] theorem wps_toS {r : Res β} {f : β → MH → RS} : wps (r.toS ρ f) N R B C ↔ wp r fun a h => wps (f a h) N R B C := by
  cases r with
  | ok a h => exact (wp_ok (Q := fun a h => wps (f a h) N R B C)).symm
  | exc c h => exact (wps_exc (N := N)).trans (wp_exc (Q := fun a h => wps (f a h) N R B C)).symm
  | stuck => exact (wps_stuck (N := N)).trans (wp_stuck (Q := fun a h => wps (f a h) N R B C)).symm
theorem wps_mono {r : RS} {N' B' C' : PS} {R' : W → MH → Prop} (p : wps r N R B C) (n : ∀ a h, N a h → N' a h) (i : ∀ a h, R a h → R' a h) (b : ∀ a h, B a h → B' a h) (c : ∀ a h, C a h → C' a h) : wps r N' R' B' C' := by
  obtain ⟨p⟩ := p
  cases r with
  | nx ρ h => exact ⟨n _ _ p⟩
  | rt w h => exact ⟨i _ _ p⟩
  | bk ρ h => exact ⟨b _ _ p⟩
  | ct ρ h => exact ⟨c _ _ p⟩
  | exc c r h => exact ⟨p⟩
  | stuck => exact ⟨p⟩
end
/-! ### statements -/
section
variable {N B C : PS} {R : W → MH → Prop} {ρ : ME} {h : MH} {a b : MS} {m : M} {t : MT} {g : GF} {i j : Nat} {ms : MA} {mi : MI}
@[simp] theorem wps_skip : wps (mSkip ρ h) N R B C ↔ N ρ h := wps_nx
@[simp] theorem wps_brk : wps (mBrk ρ h) N R B C ↔ B ρ h := wps_bk
@[simp] theorem wps_cnt : wps (mCnt ρ h) N R B C ↔ C ρ h := wps_ct
@[simp] theorem wps_retN : wps (mRetN ρ h) N R B C ↔ R (.d .none) h := wps_rt
theorem wps_seq : wps (mSeq a b ρ h) N R B C ↔ wps (a ρ h) (fun ρ1 h1 => wps (b ρ1 h1) N R B C) R B C := by
  unfold mSeq
  cases a ρ h with
  | nx ρ h => exact (wps_nx (N := fun ρ1 h1 => wps (b ρ1 h1) N R B C)).symm
  | rt w h => simp
  | bk ρ h => simp
  | ct ρ h => simp
  | exc c r h => simp
  | stuck => simp
@[simp] theorem wps_expr : wps (mExpr m ρ h) N R B C ↔ wp (m ρ h) fun _ h1 => N ρ h1 := by unfold mExpr; rw [wps_toS]; exact wp_congr fun _ _ => wps_nx
@[simp] theorem wps_ret : wps (mRet m ρ h) N R B C ↔ wp (m ρ h) fun w h1 => R w h1 := by unfold mRet; rw [wps_toS]; exact wp_congr fun _ _ => wps_rt
@[simp] theorem wps_if : wps (mIfS t a b ρ h) N R B C ↔ wp (t ρ h) fun c h1 => if c = true then wps (a ρ h1) N R B C else wps (b ρ h1) N R B C := by
  unfold mIfS
  rw [wps_toS]
  exact wp_congr fun c _ => by cases c <;> rfl
theorem wps_asg : wps (mAsg g m ρ h) N R B C ↔ wp (m ρ h) fun w h1 => match g w ρ with
  | some ρ' => N ρ' h1
  | none => False := by
  unfold mAsg
  rw [wps_toS]
  refine wp_congr fun w h1 => ?_
  cases g w ρ with
  | some ρ' => exact wps_nx
  | none => exact wps_stuck
@[simp] theorem wps_set : wps (mAsg (gNm i) m ρ h) N R B C ↔ wp (m ρ h) fun w h1 => N (ρ.set i (some w)) h1 := by rw [wps_asg]; rfl
@[simp] theorem wps_par : wps (mPar i j ms ρ h) N R B C ↔ wp (ms ρ h) fun ws h1 => match ws with
  | [v, w] => N ((ρ.set i (some v)).set j (some w)) h1
  | _ => False := by
  unfold mPar
  rw [wps_toS]
  refine wp_congr fun ws h1 => ?_
  match ws with
  | [] => exact wps_stuck
  | [_] => exact wps_stuck
  | [_, _] => exact wps_nx
  | _ :: _ :: _ :: _ => exact wps_stuck
@[simp] theorem wps_par3 {l : Nat} : wps (mPar3 i j l ms ρ h) N R B C ↔ wp (ms ρ h) fun ws h1 => match ws with
  | [v, w, u] => N (((ρ.set i (some v)).set j (some w)).set l (some u)) h1
  | _ => False := by
  unfold mPar3
  rw [wps_toS]
  refine wp_congr fun ws h1 => ?_
  match ws with
  | [] => exact wps_stuck
  | [_] => exact wps_stuck
  | [_, _] => exact wps_stuck
  | [_, _, _] => exact wps_nx
  | _ :: _ :: _ :: _ :: _ => exact wps_stuck
@[simp] theorem wps_for : wps (mFor mi g a ρ h) N R B C ↔ wp (mi ρ h) fun t h1 => wps (mLoop g a t.keep t.ws ρ h1) N R B C := by unfold mFor; rw [wps_toS]
@[simp] theorem wps_put {mo mx : M} : wps (mPut mo mx m ρ h) N R B C ↔ wp (m ρ h) fun w h1 => wp (mo ρ h1) fun x h2 => wp (mx ρ h2) fun y h3 => match putW x y w h3 with
  | some h4 => N ρ h4
  | none => False := by
  unfold mPut
  simp only [wps_toS]
  refine wp_congr fun w h1 => wp_congr fun x h2 => wp_congr fun y h3 => ?_
  cases putW x y w h3 with
  | some h4 => exact wps_nx
  | none => exact wps_stuck
/-- a loop by an invariant -/
theorem loop_inv {keep : MH → Prop} {ws : List W} (I : Nat → ME → MH → Prop) (h0 : I 0 ρ h) (hk : ∀ i ρ h, i ≤ ws.length → I i ρ h → keep h)
    (hs : ∀ i w ρ h, ws[i]? = some w → I i ρ h → ∃ ρ1, g w ρ = some ρ1 ∧ wps (a ρ1 h) (I (i + 1)) R N (I (i + 1))) (he : ∀ ρ h, I ws.length ρ h → N ρ h) : wps (mLoop g a keep ws ρ h) N R B C := by
  induction ws generalizing I ρ h with
  | nil =>
    unfold mLoop
    rw [if_pos (hk 0 _ _ (Nat.zero_le _) h0)]
    exact wps_nx.mpr (he _ _ h0)
  | cons w ws ih =>
    unfold mLoop
    rw [if_pos (hk 0 _ _ (Nat.zero_le _) h0)]
    obtain ⟨ρ1, e, p⟩ := hs 0 w ρ h rfl h0
    rw [e]
    show wps (match a ρ1 h with
      | .nx ρ2 h2 => mLoop g a keep ws ρ2 h2
      | .ct ρ2 h2 => mLoop g a keep ws ρ2 h2
      | .bk ρ2 h2 => .nx ρ2 h2
      | r => r) N R B C
    have go : ∀ ρ2 h2, I 1 ρ2 h2 → wps (mLoop g a keep ws ρ2 h2) N R B C := fun ρ2 h2 q =>
      ih (fun i => I (i + 1)) q (fun i ρ h hi => hk (i + 1) ρ h (Nat.succ_le_succ hi)) (fun i w ρ h ew => hs (i + 1) w ρ h (by simpa using ew)) he
    cases q : a ρ1 h with
    | nx ρ2 h2 => rw [q] at p; exact go _ _ (wps_nx.mp p)
    | ct ρ2 h2 => rw [q] at p; exact go _ _ (wps_ct.mp p)
    | bk ρ2 h2 => rw [q] at p; exact wps_nx.mpr (wps_bk.mp p)
    | rt w h2 => rw [q] at p; exact wps_rt.mpr (wps_rt.mp p)
    | exc c r h2 => rw [q] at p; exact (wps_exc.mp p).elim
    | stuck => rw [q] at p; exact (wps_stuck.mp p).elim
/-- while, by an invariant and a measure -/
theorem while_inv {t : MT} (I : Nat → ME → MH → Prop) {n : Nat} (h0 : I n ρ h)
    (hs : ∀ k ρ h, I k ρ h → wp (t ρ h) fun c h1 => if c = true then wps (a ρ h1) (fun ρ2 h2 => ∃ k', k' < k ∧ I k' ρ2 h2) R N (fun ρ2 h2 => ∃ k', k' < k ∧ I k' ρ2 h2) else N ρ h1) : wps (mWhile t a ρ h) N R B C := by
  suffices H : ∀ n ρ h, I n ρ h → ∃ m r, whIter t a m ρ h = some r ∧ wps r N R B C by
    obtain ⟨m, r, e, p⟩ := H n ρ h h0
    rw [mWhile_eq e]
    exact p
  intro n
  induction n using Nat.strongRecOn with
  | ind k ih =>
    intro ρ h hi
    have p := hs k ρ h hi
    obtain ⟨c, h1, e, p⟩ := wp_get p
    cases c with
    | false =>
      refine ⟨1, .nx ρ h1, ?_, wps_nx.mpr (by simpa using p)⟩
      unfold whIter
      rw [e]
      rfl
    | true =>
      rw [if_pos rfl] at p
      cases q : a ρ h1 with
      | nx ρ2 h2 =>
        rw [q] at p
        obtain ⟨k', lt, i2⟩ := wps_nx.mp p
        obtain ⟨m, r, e2, p2⟩ := ih k' lt ρ2 h2 i2
        refine ⟨m + 1, r, ?_, p2⟩
        unfold whIter
        simp only [e, q, if_pos]
        exact e2
      | ct ρ2 h2 =>
        rw [q] at p
        obtain ⟨k', lt, i2⟩ := wps_ct.mp p
        obtain ⟨m, r, e2, p2⟩ := ih k' lt ρ2 h2 i2
        refine ⟨m + 1, r, ?_, p2⟩
        unfold whIter
        simp only [e, q, if_pos]
        exact e2
      | bk ρ2 h2 =>
        rw [q] at p
        refine ⟨1, .nx ρ2 h2, ?_, wps_nx.mpr (wps_bk.mp p)⟩
        unfold whIter
        simp only [e, q, if_pos]
      | rt w h2 =>
        rw [q] at p
        refine ⟨1, .rt w h2, ?_, wps_rt.mpr (wps_rt.mp p)⟩
        unfold whIter
        simp only [e, q, if_pos]
      | exc c r h2 => rw [q] at p; exact (wps_exc.mp p).elim
      | stuck => rw [q] at p; exact (wps_stuck.mp p).elim
end
end Dw
/-! Dw: reasoning about expressions of the small language -/
namespace Dw
open PySem PySem.Spec PyProof.Rows L2
section
variable {Q : W → MH → Prop} {QT : Bool → MH → Prop} {QA : List W → MH → Prop} {QI : Itm → MH → Prop} {ρ : ME} {h : MH} {a b c m : M} {t u : MT} {ms : MA} {mi : MI} {i : Nat} {f g : D → D → Option D} {x y : D} {w v : W} {F : List D → Option D}
@[simp] theorem wp_var : wp (mVar i ρ h) Q ↔ match ρ[i]? with
  | some (some w) => Q w h
  | _ => False := by
  unfold mVar
  split <;> simp_all
@[simp] theorem wp_c : wp (mC x ρ h) Q ↔ Q (.d x) h := wp_ok
@[simp] theorem wp_op2 : wp (mOp2 f a b ρ h) Q ↔ wp (a ρ h) fun x h1 => wp (b ρ h1) fun y h2 => wp (op2 f x y h2) Q := by
  unfold mOp2
  simp only [wp_bind]
theorem wp_op2w : wp (op2 f w v h) Q ↔ match rd w h, rd v h with
  | some a, some b => (match f a b with
    | some c => Q (.d c) h
    | none => False)
  | _, _ => False := by
  unfold op2
  split
  · split <;> simp_all
  · simp
@[simp] theorem wp_op2d : wp (op2 f (.d x) (.d y) h) Q ↔ match f x y with
    | some c => Q (.d c) h
    | none => False := wp_op2w
@[simp] theorem wp_chain : wp (mChain f g a b c ρ h) Q ↔ wp (a ρ h) fun x h1 => wp (b ρ h1) fun y h2 => wp (op2 f x y h2) fun z h3 => match z with
  | .d (.bool k) => if k = true then wp (c ρ h3) fun w h4 => wp (op2 g y w h4) Q else Q (.d (.bool false)) h3
  | _ => False := by
  unfold mChain
  simp only [wp_bind]
  refine wp_congr fun x h1 => wp_congr fun y h2 => wp_congr fun z h3 => ?_
  (repeat' split) <;> simp_all
@[simp] theorem wp_test : wp (mTest m ρ h) QT ↔ wp (m ρ h) fun w h1 => match truthW w h1 with
  | some b => QT b h1
  | none => False := by
  unfold mTest
  rw [wp_bind]
  refine wp_congr fun x h1 => ?_
  (repeat' split) <;> simp_all
@[simp] theorem wp_andT : wp (mAndT t u ρ h) QT ↔ wp (t ρ h) fun b h1 => if b = true then wp (u ρ h1) QT else QT false h1 := by
  unfold mAndT
  rw [wp_bind]
  refine wp_congr fun x h1 => ?_
  (repeat' split) <;> simp_all
@[simp] theorem wp_orT : wp (mOrT t u ρ h) QT ↔ wp (t ρ h) fun b h1 => if b = true then QT true h1 else wp (u ρ h1) QT := by
  unfold mOrT
  rw [wp_bind]
  refine wp_congr fun x h1 => ?_
  (repeat' split) <;> simp_all
@[simp] theorem wp_notT : wp (mNotT t ρ h) QT ↔ wp (t ρ h) fun b h1 => QT (!b) h1 := by
  unfold mNotT
  rw [wp_bind]
  exact wp_congr fun _ _ => wp_ok
@[simp] theorem wp_ifE : wp (mIf t a b ρ h) Q ↔ wp (t ρ h) fun c h1 => if c = true then wp (a ρ h1) Q else wp (b ρ h1) Q := by
  unfold mIf
  rw [wp_bind]
  refine wp_congr fun x h1 => ?_
  (repeat' split) <;> simp_all
@[simp] theorem wp_andV : wp (mAndV a b ρ h) Q ↔ wp (a ρ h) fun x h1 => match truthW x h1 with
  | some c => if c = true then wp (b ρ h1) Q else Q x h1
  | none => False := by
  unfold mAndV
  rw [wp_bind]
  refine wp_congr fun x h1 => ?_
  cases truthW x h1 with
  | none => simp
  | some c => cases c <;> simp
@[simp] theorem wp_orV : wp (mOrV a b ρ h) Q ↔ wp (a ρ h) fun x h1 => match truthW x h1 with
  | some c => if c = true then Q x h1 else wp (b ρ h1) Q
  | none => False := by
  unfold mOrV
  rw [wp_bind]
  refine wp_congr fun x h1 => ?_
  cases truthW x h1 with
  | none => simp
  | some c => cases c <;> simp
@[simp] theorem wp_notV : wp (mNotV a ρ h) Q ↔ wp (a ρ h) fun x h1 => match truthW x h1 with
  | some c => Q (.d (.bool (!c))) h1
  | none => False := by
  unfold mNotV
  rw [wp_bind]
  refine wp_congr fun x h1 => ?_
  cases truthW x h1 <;> simp
@[simp] theorem wp_neg : wp (mNeg a ρ h) Q ↔ wp (a ρ h) fun x h1 => match x with
  | .d (.int c) => Q (.d (.int (-c))) h1
  | _ => False := by
  unfold mNeg
  rw [wp_bind]
  refine wp_congr fun x h1 => ?_
  (repeat' split) <;> simp_all
@[simp] theorem wp_nil : wp (mNil ρ h) QA ↔ QA [] h := wp_ok
@[simp] theorem wp_cons : wp (mCons m ms ρ h) QA ↔ wp (m ρ h) fun w h1 => wp (ms ρ h1) fun ws h2 => QA (w :: ws) h2 := by
  unfold mCons
  simp only [wp_bind]
  exact wp_congr fun _ _ => wp_congr fun _ _ => wp_ok
@[simp] theorem wp_tup : wp (mTup ms ρ h) Q ↔ wp (ms ρ h) fun ws h1 => if ws.length ≤ sizeLine then (match allD ws with
  | some ds => Q (.d (.tuple ds)) h1
  | none => Q (.tup ws) h1) else False := by
  unfold mTup
  rw [wp_bind]
  refine wp_congr fun x h1 => ?_
  (repeat' split) <;> simp_all
@[simp] theorem wp_lst : wp (mLst ms ρ h) Q ↔ wp (ms ρ h) fun ws h1 => if ws.length ≤ sizeLine then (match allD ws with
  | some ds => Q (.d (.list ds)) h1
  | none => False) else False := by
  unfold mLst
  rw [wp_bind]
  refine wp_congr fun x h1 => ?_
  (repeat' split) <;> simp_all
@[simp] theorem wp_lstR : wp (mLstR ms ρ h) Q ↔ wp (ms ρ h) fun ws h1 => if ws.length ≤ sizeLine then (match allD ws with
  | some ds => Q (.ref h1.length) (h1 ++ [.lst ds])
  | none => False) else False := by
  unfold mLstR
  rw [wp_bind]
  refine wp_congr fun x h1 => ?_
  (repeat' split) <;> simp_all
@[simp] theorem wp_cal : wp (mCal F ms ρ h) Q ↔ wp (ms ρ h) fun ws h1 => match rds ws h1 with
  | some ds => (match F ds with
    | some c => Q (.d c) h1
    | none => False)
  | none => False := by
  unfold mCal
  rw [wp_bind]
  refine wp_congr fun x h1 => ?_
  unfold opn
  (repeat' split) <;> simp_all
@[simp] theorem wp_calW {G : List W → MH → Res W} : wp (mCalW G ms ρ h) Q ↔ wp (ms ρ h) fun ws h1 => wp (G ws h1) Q := by
  unfold mCalW
  rw [wp_bind]
  refine wp_congr fun x h1 => ?_
  unfold noExc
  cases G x h1 <;> simp
@[simp] theorem wp_call {S : FSpec} : wp (mCall S ms ρ h) Q ↔ wp (ms ρ h) fun ws h1 => wp (S ws h1) Q := by
  unfold mCall
  rw [wp_bind]
@[simp] theorem wp_isa {T : String} : wp (mIsa T m ρ h) Q ↔ wp (m ρ h) fun w h1 => match rd w h1 with
  | some d => (match isaD T d with
    | some b => Q (.d (.bool b)) h1
    | none => False)
  | none => False := by
  unfold mIsa
  rw [wp_bind]
  refine wp_congr fun x h1 => ?_
  (repeat' split) <;> simp_all
@[simp] theorem wp_ix : wp (mIx a b ρ h) Q ↔ wp (a ρ h) fun x h1 => wp (b ρ h1) fun y h2 => wp (ixW x y h2) Q := by
  unfold mIx
  simp only [wp_bind]
@[simp] theorem ixW_d : ixW (.d x) w h = op2 fIx (.d x) w h := rfl
@[simp] theorem wp_sl {lo hi : Option M} : wp (mSl m lo hi ρ h) Q ↔ wp (m ρ h) fun w h1 => wp (mPart lo ρ h1) fun l h2 => wp (mPart hi ρ h2) fun u h3 => match rd w h3 with
  | some d => (match fSl d l u with
    | some c => Q (.d c) h3
    | none => False)
  | none => False := by
  unfold mSl mPart
  simp only [wp_bind]
  refine wp_congr fun x h1 => wp_congr fun l h2 => wp_congr fun u h3 => ?_
  (repeat' split) <;> simp_all
@[simp] theorem wp_part_none {QO : Option Int → MH → Prop} : wp (mPart none ρ h) QO ↔ QO none h := wp_ok
@[simp] theorem wp_part_some {QO : Option Int → MH → Prop} : wp (mPart (some m) ρ h) QO ↔ wp (m ρ h) fun x h1 => match x with
  | .d (.int i) => QO (some i) h1
  | _ => False := by
  unfold mPart
  simp only [wp_bind]
  refine wp_congr fun x h1 => ?_
  (repeat' split) <;> simp_all
@[simp] theorem wp_dict : wp (mDict ρ h) Q ↔ Q (.ref h.length) (h ++ [.dk []]) := wp_ok
@[simp] theorem wp_met {C : W → MH → Bool} {op : W → List W → MH → Res W} : wp (mMet C op m ms ρ h) Q ↔ wp (m ρ h) fun x h1 => if C x h1 = true then wp (ms ρ h1) fun ws h2 => wp (op x ws h2) Q else False := by
  unfold mMet
  rw [wp_bind]
  refine wp_congr fun x h1 => ?_
  (repeat' split) <;> simp_all
/-! #### iterables -/
@[simp] theorem wp_itR1 : wp (mItR1 ms ρ h) QI ↔ wp (ms ρ h) fun ws h1 => match ws with
  | [.d (.int j)] => if -(2 ^ 62) ≤ j ∧ j < 2 ^ 62 then QI (rngW 0 j.toNat) h1 else False
  | _ => False := by
  unfold mItR1
  rw [wp_bind]
  refine wp_congr fun x h1 => ?_
  split
  · (try simp only)
    first
      | (split <;> first | exact wp_ok | exact wp_stuck)
      | (split <;> simp_all)
  · simp_all
@[simp] theorem wp_itR2 : wp (mItR2 ms ρ h) QI ↔ wp (ms ρ h) fun ws h1 => match ws with
  | [.d (.int i), .d (.int j)] => if -(2 ^ 62) ≤ i ∧ i < 2 ^ 62 ∧ -(2 ^ 62) ≤ j ∧ j < 2 ^ 62 then QI (rngW i (j - i).toNat) h1 else False
  | _ => False := by
  unfold mItR2
  rw [wp_bind]
  refine wp_congr fun x h1 => ?_
  split
  · (try simp only)
    first
      | (split <;> first | exact wp_ok | exact wp_stuck)
      | (split <;> simp_all)
  · simp_all
@[simp] theorem wp_itS : wp (mItS m ρ h) QI ↔ wp (m ρ h) fun w h1 => match w with
  | .d (.list ds) => QI ⟨ds.map .d, anyH⟩ h1
  | .d (.tuple ds) => QI ⟨ds.map .d, anyH⟩ h1
  | .ref i => (match h1[i]? with
    | some (.lst ds) => QI ⟨ds.map .d, fun h => h[i]? = some (.lst ds)⟩ h1
    | _ => False)
  | _ => False := by
  unfold mItS
  rw [wp_bind]
  refine wp_congr fun x h1 => ?_
  (repeat' split) <;> simp_all
@[simp] theorem wp_itZ : wp (mItZ ms ρ h) QI ↔ wp (ms ρ h) fun ws h1 => match ws with
  | [w, u] => (match seqP w, seqP u with
    | some (ds, a), some (es, b) => if a = b then QI ⟨zipW ds es, anyH⟩ h1 else False
    | _, _ => False)
  | _ => False := by
  unfold mItZ
  rw [wp_bind]
  refine wp_congr fun x h1 => ?_
  split
  · (try simp only)
    split
    · split <;> simp_all
    · simp_all
  · simp_all
@[simp] theorem wp_itE : wp (mItE ms ρ h) QI ↔ wp (ms ρ h) fun ws h1 => match ws with
  | [w] => (match seqP w with
    | some (ds, _) => QI ⟨enumW ds, anyH⟩ h1
    | none => False)
  | _ => False := by
  unfold mItE
  rw [wp_bind]
  refine wp_congr fun x h1 => ?_
  (repeat' split) <;> simp_all
/-! #### comprehensions -/
theorem wp_lc {vs : List Nat} {g : GF} {t : MT} {elt : M} : wp (mLc mi vs g t elt ρ h) Q ↔ wp (mi ρ h) fun it h1 => wp (lcRun g t elt it.keep (wipeM ρ vs) it.ws [] h1) fun ds h2 => Q (.d (.list ds)) h2 := by
  unfold mLc
  simp only [wp_bind]
  exact wp_congr fun _ _ => wp_congr fun _ _ => wp_ok
/-- elements that leave the heap alone -/
theorem lcRun_sel {α : Type} {g : GF} {t : MT} {elt : M} {keep : MH → Prop} {ρw : ME} (hk : keep h) (k : α → W) (r : α → ME) (p : α → Bool) (e : α → D) : ∀ (xs : List α) (acc : List D), acc.length + xs.length ≤ sizeLine →
    (∀ x ∈ xs, g (k x) ρw = some (r x) ∧ t (r x) h = .ok (p x) h ∧ (p x = true → elt (r x) h = .ok (.d (e x)) h)) → lcRun g t elt keep ρw (xs.map k) acc h = .ok (acc ++ (xs.filter p).map e) h
  | [], acc, _, _ => by
    rw [List.map_nil, List.filter_nil, List.map_nil, List.append_nil]
    unfold lcRun
    rw [if_pos hk]
  | x :: xs, acc, hl, H => by
    obtain ⟨h1, h2, h3⟩ := H x (List.mem_cons_self ..)
    rw [List.length_cons] at hl
    rw [List.map_cons]
    unfold lcRun
    rw [if_pos hk, h1]
    simp only [h2]
    cases hp : p x with
    | true =>
      rw [if_pos rfl, h3 hp]
      simp only
      rw [if_pos (by omega), lcRun_sel hk k r p e xs _ (by rw [List.length_append, List.length_singleton]; omega) fun y hy => H y (List.mem_cons_of_mem _ hy), List.filter_cons_of_pos hp, List.map_cons, List.append_assoc]
      rfl
    | false =>
      rw [if_neg (by decide), lcRun_sel hk k r p e xs _ (by omega) fun y hy => H y (List.mem_cons_of_mem _ hy), List.filter_cons_of_neg (by rw [hp]; decide)]
theorem lcRun_map {α : Type} {g : GF} {elt : M} {keep : MH → Prop} {ρw : ME} (hk : keep h) (k : α → W) (r : α → ME) (e : α → D) (xs : List α) (hl : xs.length ≤ sizeLine)
    (H : ∀ x ∈ xs, g (k x) ρw = some (r x) ∧ elt (r x) h = .ok (.d (e x)) h) : lcRun g mYes elt keep ρw (xs.map k) [] h = .ok (xs.map e) h := by
  have := lcRun_sel (t := mYes) (keep := keep) hk k r (fun _ => true) e xs [] (by simpa using hl) fun x hx => ⟨(H x hx).1, rfl, fun _ => (H x hx).2⟩
  rw [this, List.nil_append, List.filter_eq_self.mpr fun _ _ => rfl]
end
/-! ### the operators on numbers -/
@[simp] theorem fAdd_i {i j : Int} : fAdd (.int i) (.int j) = some (.int (i + j)) := rfl
@[simp] theorem fSub_i {i j : Int} : fSub (.int i) (.int j) = some (.int (i - j)) := rfl
theorem fMul_i {i j : Int} (h : (-(2 ^ 64) < i ∧ i < 2 ^ 64) ∨ (-(2 ^ 64) < j ∧ j < 2 ^ 64)) : fMul (.int i) (.int j) = some (.int (i * j)) := if_pos h
theorem fDiv_i {i j : Int} (h : 0 < j ∧ j < 1073741824) : fDiv (.int i) (.int j) = some (.int (i / j)) := if_pos h
theorem fMod_i {i j : Int} (h : 0 < j) : fMod (.int i) (.int j) = some (.int (i % j)) := if_pos h
@[simp] theorem fEq_i {i j : Int} : fEq (.int i) (.int j) = some (.bool (i == j)) := by unfold fEq; rw [if_pos (by simp [PyData.depth])]; simp [PyData.eqv]
@[simp] theorem fNe_i {i j : Int} : fNe (.int i) (.int j) = some (.bool (i != j)) := by unfold fNe; rw [if_pos (by simp [PyData.depth])]; simp only [PyData.eqv, bne]
@[simp] theorem fEq_b {i j : Bool} : fEq (.bool i) (.bool j) = some (.bool (i == j)) := by unfold fEq; rw [if_pos (by simp [PyData.depth])]; simp [PyData.eqv]
@[simp] theorem fNe_b {i j : Bool} : fNe (.bool i) (.bool j) = some (.bool (i != j)) := by unfold fNe; rw [if_pos (by simp [PyData.depth])]; simp only [PyData.eqv, bne]
theorem cmpOk_i {i j : Int} : cmpOk (.int i) (.int j) = true := by unfold cmpOk; simp [PySem.W.alike, PyData.depth]
@[simp] theorem fLt_i {i j : Int} : fLt (.int i) (.int j) = some (.bool (decide (i < j))) := by unfold fLt; rw [if_pos cmpOk_i, PySem.W.dataLt_int]
@[simp] theorem fGt_i {i j : Int} : fGt (.int i) (.int j) = some (.bool (decide (j < i))) := by unfold fGt; rw [if_pos cmpOk_i, PySem.W.dataLt_int]
theorem ndec {i j : Int} : (!decide (j < i)) = decide (i ≤ j) := by rw [Bool.eq_iff_iff]; simp
@[simp] theorem fLe_i {i j : Int} : fLe (.int i) (.int j) = some (.bool (decide (i ≤ j))) := by unfold fLe; rw [if_pos cmpOk_i, PySem.W.dataLt_int, ndec]
@[simp] theorem fGe_i {i j : Int} : fGe (.int i) (.int j) = some (.bool (decide (j ≤ i))) := by unfold fGe; rw [if_pos cmpOk_i, PySem.W.dataLt_int, ndec]
abbrev iD (ns : List Int) : List D := ns.map .int
theorem depth_int {i : Int} : PyData.depth (.int i) = 0 := by simp [PyData.depth]
theorem depth_ints : ∀ ns : List Int, PyData.depthAll (iD ns) ≤ 1
  | [] => by simp [iD, PyData.depthAll]
  | n :: ns => by
    have := depth_ints ns
    simp [iD, PyData.depthAll, PyData.depth] at *
    omega
theorem alike_ints1 (ns : List Int) : allAlike (iD ns) = true := by simp [allAlike, PySem.W.alike]
theorem noNone_ints (ns : List Int) : noNone (iD ns) = true := by simp [noNone]
def minI (n : Int) (ns : List Int) : Int := ns.foldl min n
def maxI (n : Int) (ns : List Int) : Int := ns.foldl max n
theorem fMin_l (n : Int) (ns : List Int) : fMin [.list (iD (n :: ns))] = some (.int (minI n ns)) := by
  show (if _ then some (PySem.W.minD (.int n) (iD ns)) else none) = _
  rw [if_pos ⟨alike_ints1 (n :: ns), noNone_ints (n :: ns), by have := depth_ints (n :: ns); simp only [iD, List.map_cons] at this ⊢; omega⟩, PySem.W.minD_ints]
  rfl
theorem fMax_l (n : Int) (ns : List Int) : fMax [.list (iD (n :: ns))] = some (.int (maxI n ns)) := by
  show (if _ then some (PySem.W.maxD (.int n) (iD ns)) else none) = _
  rw [if_pos ⟨alike_ints1 (n :: ns), noNone_ints (n :: ns), by have := depth_ints (n :: ns); simp only [iD, List.map_cons] at this ⊢; omega⟩, PySem.W.maxD_ints]
  rfl
@[simp] theorem intsOf_ints : ∀ ns : List Int, intsOf (iD ns) = some ns
  | [] => rfl
  | n :: ns => by simp only [iD, List.map_cons, intsOf]; rw [intsOf_ints ns]; rfl
@[simp] theorem boolsOf_bools : ∀ ns : List Bool, boolsOf (ns.map .bool) = some ns
  | [] => rfl
  | n :: ns => by simp only [List.map_cons, boolsOf]; rw [boolsOf_bools ns]; rfl
@[simp] theorem anyEqv_ints (ns : List Int) (i : Int) : anyEqv (iD ns) (.int i) = decide (i ∈ ns) := by
  unfold anyEqv
  rw [Bool.eq_iff_iff]
  simp only [List.any_eq_true, decide_eq_true_eq, iD, List.mem_map]
  constructor
  · rintro ⟨x, ⟨j, hj, rfl⟩, e⟩
    simp [PyData.eqv] at e
    exact e ▸ hj
  · intro hi
    exact ⟨.int i, ⟨i, hi, rfl⟩, by simp [PyData.eqv]⟩
theorem fIn_t (ns : List Int) (i : Int) : fIn (.int i) (.tuple (iD ns)) = some (.bool (decide (i ∈ ns))) := by
  show (if _ then _ else _) = _
  rw [if_pos (by rw [depth_int]; omega), anyEqv_ints]
theorem fIn_l (ns : List Int) (i : Int) : fIn (.int i) (.list (iD ns)) = some (.bool (decide (i ∈ ns))) := by
  show (if _ then _ else _) = _
  rw [if_pos (by rw [depth_int]; omega), anyEqv_ints]
theorem fNotIn_t (ns : List Int) (i : Int) : fNotIn (.int i) (.tuple (iD ns)) = some (.bool (!decide (i ∈ ns))) := by
  show (if _ then _ else _) = _
  rw [if_pos (by rw [depth_int]; omega), anyEqv_ints]
theorem fNotIn_l (ns : List Int) (i : Int) : fNotIn (.int i) (.list (iD ns)) = some (.bool (!decide (i ∈ ns))) := by
  show (if _ then _ else _) = _
  rw [if_pos (by rw [depth_int]; omega), anyEqv_ints]
theorem eqvAll_ints : ∀ ns ks : List Int, PyData.eqvAll (iD ns) (iD ks) = decide (ns = ks)
  | [], [] => by simp [iD, PyData.eqvAll]
  | [], _ :: _ => by simp [iD, PyData.eqvAll]
  | _ :: _, [] => by simp [iD, PyData.eqvAll]
  | n :: ns, k :: ks => by
    have := eqvAll_ints ns ks
    simp only [iD, List.map_cons, PyData.eqvAll, PyData.eqv] at *
    rw [this, Bool.eq_iff_iff]
    simp
theorem sort_ints (ns : List Int) : fSorted [.list (iD ns)] = some (.list (iD (sortI ns))) := by
  have ok : sortOk (iD ns) = true := by
    unfold sortOk
    rw [alike_ints1]
    simp only [Bool.true_and, Bool.and_eq_true, Bool.or_eq_true]
    refine ⟨.inr ?_, ?_⟩
    · simp [List.all_eq_true, isFlatSort]
    · simp [List.all_eq_true, PyData.depth]
  show (if _ then _ else _) = _
  rw [if_pos ok]
  unfold sortD sortI iD
  congr 2
  rw [List.map_mergeSort]
  intro a ha b hb
  have := PySem.W.dataLe_int (id : Int → Int)
  have := congrFun (congrFun this a) b
  simp only [id] at this
  exact this.symm
theorem sort_intsT (ns : List Int) : fSorted [.tuple (iD ns)] = some (.list (iD (sortI ns))) := sort_ints ns
theorem sortI_perm (ns : List Int) : (sortI ns).Perm ns := List.mergeSort_perm _ _
theorem sortI_sorted (ns : List Int) : (sortI ns).Pairwise (· ≤ ·) := (List.pairwise_mergeSort (le := fun a b : Int => decide (a ≤ b)) (fun a b c h1 h2 => by simp at *; omega) (fun a b => by simp; omega) ns).imp (by simp)
theorem sortI_self {ns : List Int} (h : ns.Pairwise (· ≤ ·)) : sortI ns = ns := (sorted_one (.refl _) h).symm
end Dw
/-! Dw: steps -/
namespace Dw
open PySem PySem.Spec PyProof.Rows L2
def itZ (ws : List W) : Option Itm := match ws with
  | [w, u] => (match seqP w, seqP u with
    | some (ds, a), some (es, b) => if a = b then some ⟨zipW ds es, anyH⟩ else none
    | _, _ => none)
  | _ => none
def itE (ws : List W) : Option Itm := match ws with
  | [w] => (match seqP w with
    | some (ds, _) => some ⟨enumW ds, anyH⟩
    | none => none)
  | _ => none
def itS (w : W) (h : MH) : Option Itm := match w with
  | .d (.list ds) => some ⟨ds.map .d, anyH⟩
  | .d (.tuple ds) => some ⟨ds.map .d, anyH⟩
  | .ref i => (match h[i]? with
    | some (.lst ds) => some ⟨ds.map .d, fun h => h[i]? = some (.lst ds)⟩
    | _ => none)
  | _ => none
def tupO (ws : List W) : Option W := match allD ws with
  | some ds => some (.d (.tuple ds))
  | none => some (.tup ws)
section
variable {Q : W → MH → Prop} {QT : Bool → MH → Prop} {QA : List W → MH → Prop} {QI : Itm → MH → Prop} {ρ ρ' : ME} {h h' : MH} {a b c m : M} {t u : MT} {ms : MA} {mi : MI} {i j : Nat} {f g : D → D → Option D} {x y z : D} {w v : W} {F : List D → Option D}
theorem w_var (e : ρ[i]? = some (some w)) (q : Q w h) : wp (mVar i ρ h) Q := by rw [wp_var, e]; exact q
theorem w_c (q : Q (.d x) h) : wp (mC x ρ h) Q := wp_ok.mpr q
theorem w_op2 (q : wp (a ρ h) fun x h1 => wp (b ρ h1) fun y h2 => wp (op2 f x y h2) Q) : wp (mOp2 f a b ρ h) Q := wp_op2.mpr q
theorem w_op2d (e : f x y = some z) (q : Q (.d z) h) : wp (op2 f (.d x) (.d y) h) Q := by rw [wp_op2d, e]; exact q
theorem w_op2w {dx dy : D} (e1 : rd w h = some dx) (e2 : rd v h = some dy) (e : f dx dy = some z) (q : Q (.d z) h) : wp (op2 f w v h) Q := by rw [wp_op2w, e1, e2]; simp only [e]; exact q
theorem w_mul {k l : Int} (e : (-(2 ^ 64) < k ∧ k < 2 ^ 64) ∨ (-(2 ^ 64) < l ∧ l < 2 ^ 64)) (q : Q (.d (.int (k * l))) h) : wp (op2 fMul (.d (.int k)) (.d (.int l)) h) Q := w_op2d (fMul_i e) q
theorem w_div {k l : Int} (e : 0 < l ∧ l < 1073741824) (q : Q (.d (.int (k / l))) h) : wp (op2 fDiv (.d (.int k)) (.d (.int l)) h) Q := w_op2d (fDiv_i e) q
theorem w_mod {k l : Int} (e : 0 < l) (q : Q (.d (.int (k % l))) h) : wp (op2 fMod (.d (.int k)) (.d (.int l)) h) Q := w_op2d (fMod_i e) q
theorem w_add {k l : Int} (q : Q (.d (.int (k + l))) h) : wp (op2 fAdd (.d (.int k)) (.d (.int l)) h) Q := w_op2d rfl q
theorem w_sub {k l : Int} (q : Q (.d (.int (k - l))) h) : wp (op2 fSub (.d (.int k)) (.d (.int l)) h) Q := w_op2d rfl q
theorem w_eq {k l : Int} (q : Q (.d (.bool (k == l))) h) : wp (op2 fEq (.d (.int k)) (.d (.int l)) h) Q := w_op2d fEq_i q
theorem w_ne {k l : Int} (q : Q (.d (.bool (k != l))) h) : wp (op2 fNe (.d (.int k)) (.d (.int l)) h) Q := w_op2d fNe_i q
theorem w_eqb {k l : Bool} (q : Q (.d (.bool (k == l))) h) : wp (op2 fEq (.d (.bool k)) (.d (.bool l)) h) Q := w_op2d fEq_b q
theorem w_neb {k l : Bool} (q : Q (.d (.bool (k != l))) h) : wp (op2 fNe (.d (.bool k)) (.d (.bool l)) h) Q := w_op2d fNe_b q
theorem w_lt {k l : Int} (q : Q (.d (.bool (decide (k < l)))) h) : wp (op2 fLt (.d (.int k)) (.d (.int l)) h) Q := w_op2d fLt_i q
theorem w_gt {k l : Int} (q : Q (.d (.bool (decide (l < k)))) h) : wp (op2 fGt (.d (.int k)) (.d (.int l)) h) Q := w_op2d fGt_i q
theorem w_le {k l : Int} (q : Q (.d (.bool (decide (k ≤ l)))) h) : wp (op2 fLe (.d (.int k)) (.d (.int l)) h) Q := w_op2d fLe_i q
theorem w_ge {k l : Int} (q : Q (.d (.bool (decide (l ≤ k)))) h) : wp (op2 fGe (.d (.int k)) (.d (.int l)) h) Q := w_op2d fGe_i q
theorem w_isN (q : Q (.d (.bool (isNo x))) h) : wp (op2 fIs (.d x) (.d .none) h) Q := w_op2d (by cases x <;> rfl) q
theorem w_isNotN (q : Q (.d (.bool (!isNo x))) h) : wp (op2 fIsNot (.d x) (.d .none) h) Q := w_op2d (by cases x <;> rfl) q
theorem w_chain (q : wp (a ρ h) fun x h1 => wp (b ρ h1) fun y h2 => wp (op2 f x y h2) fun z h3 => ∃ k, z = .d (.bool k) ∧ if k = true then wp (c ρ h3) fun w h4 => wp (op2 g y w h4) Q else Q (.d (.bool false)) h3) : wp (mChain f g a b c ρ h) Q :=
  wp_chain.mpr (wp_mono q fun x h1 q => wp_mono q fun y h2 q => wp_mono q fun z h3 ⟨k, e, q⟩ => by subst e; exact q)
theorem w_test (q : wp (m ρ h) fun w h1 => ∃ b, truthW w h1 = some b ∧ QT b h1) : wp (mTest m ρ h) QT := wp_test.mpr (wp_mono q fun x h1 ⟨b, e, q⟩ => by rw [e]; exact q)
theorem w_andT (q : wp (t ρ h) fun b h1 => if b = true then wp (u ρ h1) QT else QT false h1) : wp (mAndT t u ρ h) QT := wp_andT.mpr q
theorem w_orT (q : wp (t ρ h) fun b h1 => if b = true then QT true h1 else wp (u ρ h1) QT) : wp (mOrT t u ρ h) QT := wp_orT.mpr q
theorem w_notT (q : wp (t ρ h) fun b h1 => QT (!b) h1) : wp (mNotT t ρ h) QT := wp_notT.mpr q
theorem w_ifE (q : wp (t ρ h) fun c h1 => if c = true then wp (a ρ h1) Q else wp (b ρ h1) Q) : wp (mIf t a b ρ h) Q := wp_ifE.mpr q
theorem w_andV (q : wp (a ρ h) fun x h1 => ∃ c, truthW x h1 = some c ∧ if c = true then wp (b ρ h1) Q else Q x h1) : wp (mAndV a b ρ h) Q := wp_andV.mpr (wp_mono q fun x h1 ⟨b, e, q⟩ => by simp only [e]; exact q)
theorem w_orV (q : wp (a ρ h) fun x h1 => ∃ c, truthW x h1 = some c ∧ if c = true then Q x h1 else wp (b ρ h1) Q) : wp (mOrV a b ρ h) Q := wp_orV.mpr (wp_mono q fun x h1 ⟨b, e, q⟩ => by simp only [e]; exact q)
theorem w_notV (q : wp (a ρ h) fun x h1 => ∃ c, truthW x h1 = some c ∧ Q (.d (.bool (!c))) h1) : wp (mNotV a ρ h) Q := wp_notV.mpr (wp_mono q fun x h1 ⟨b, e, q⟩ => by simp only [e]; exact q)
theorem w_neg (q : wp (a ρ h) fun x h1 => ∃ c, x = .d (.int c) ∧ Q (.d (.int (-c))) h1) : wp (mNeg a ρ h) Q := wp_neg.mpr (wp_mono q fun x h1 ⟨b, e, q⟩ => by subst e; exact q)
theorem w_nil (q : QA [] h) : wp (mNil ρ h) QA := wp_ok.mpr q
theorem w_cons (q : wp (m ρ h) fun w h1 => wp (ms ρ h1) fun ws h2 => QA (w :: ws) h2) : wp (mCons m ms ρ h) QA := wp_cons.mpr q
theorem w_tup (q : wp (ms ρ h) fun ws h1 => ∃ v, tupO ws = some v ∧ ws.length ≤ sizeLine ∧ Q v h1) : wp (mTup ms ρ h) Q := wp_tup.mpr (wp_mono q fun x h1 ⟨b, e, l, q⟩ => by
  rw [if_pos l]
  unfold tupO at e
  cases ha : allD x with
  | some ds =>
    rw [ha] at e
    cases e
    first | exact q | (rw [ha]; exact q)
  | none =>
    rw [ha] at e
    cases e
    first | exact q | (rw [ha]; exact q))
theorem w_lst (q : wp (ms ρ h) fun ws h1 => ∃ ds, allD ws = some ds ∧ ws.length ≤ sizeLine ∧ Q (.d (.list ds)) h1) : wp (mLst ms ρ h) Q := wp_lst.mpr (wp_mono q fun x h1 ⟨b, e, l, q⟩ => by rw [if_pos l, e]; exact q)
theorem w_lstR (q : wp (ms ρ h) fun ws h1 => ∃ ds, allD ws = some ds ∧ ws.length ≤ sizeLine ∧ Q (.ref h1.length) (h1 ++ [.lst ds])) : wp (mLstR ms ρ h) Q := wp_lstR.mpr (wp_mono q fun x h1 ⟨b, e, l, q⟩ => by rw [if_pos l, e]; exact q)
theorem small_len (n : Nat) (h : n ≤ 1000) : n ≤ sizeLine := by rw [sizeLine_eq]; omega
theorem w_cal (q : wp (ms ρ h) fun ws h1 => ∃ ds, rds ws h1 = some ds ∧ ∃ z, F ds = some z ∧ Q (.d z) h1) : wp (mCal F ms ρ h) Q := wp_cal.mpr (wp_mono q fun x h1 ⟨b, e, z, e2, q⟩ => by rw [e]; simp only [e2]; exact q)
theorem w_calW {G : List W → MH → Res W} (q : wp (ms ρ h) fun ws h1 => wp (G ws h1) Q) : wp (mCalW G ms ρ h) Q := wp_calW.mpr q
theorem w_call {S : FSpec} (q : wp (ms ρ h) fun ws h1 => wp (S ws h1) Q) : wp (mCall S ms ρ h) Q := wp_call.mpr q
theorem w_isa {T : String} (q : wp (m ρ h) fun w h1 => ∃ d, rd w h1 = some d ∧ ∃ b, isaD T d = some b ∧ Q (.d (.bool b)) h1) : wp (mIsa T m ρ h) Q := wp_isa.mpr (wp_mono q fun x h1 ⟨b, e, z, e2, q⟩ => by rw [e]; simp only [e2]; exact q)
theorem w_ix (q : wp (a ρ h) fun x h1 => wp (b ρ h1) fun y h2 => wp (ixW x y h2) Q) : wp (mIx a b ρ h) Q := wp_ix.mpr q
theorem w_ixt {ds : List D} {k : Int} {d : D} (e : L2.atI ds k = some d) (q : Q (.d d) h) : wp (ixW (.d (.tuple ds)) (.d (.int k)) h) Q := w_op2d e q
theorem w_ixl {ds : List D} {k : Int} {d : D} (e : L2.atI ds k = some d) (q : Q (.d d) h) : wp (ixW (.d (.list ds)) (.d (.int k)) h) Q := w_op2d e q
theorem w_sl {lo hi : Option M} (q : wp (m ρ h) fun w h1 => wp (mPart lo ρ h1) fun l h2 => wp (mPart hi ρ h2) fun u h3 => ∃ d, rd w h3 = some d ∧ ∃ c, fSl d l u = some c ∧ Q (.d c) h3) : wp (mSl m lo hi ρ h) Q :=
  wp_sl.mpr (wp_mono q fun w h1 q => wp_mono q fun l h2 q => wp_mono q fun u h3 ⟨d, e, c, e2, q⟩ => by rw [e]; simp only [e2]; exact q)
theorem w_rev (q : wp (m ρ h) fun w h1 => ∃ d, rd w h1 = some d ∧ ∃ c, fRev d = some c ∧ Q (.d c) h1) : wp (mRev m ρ h) Q := by
  unfold mRev
  rw [wp_bind]
  exact wp_mono q fun w h1 ⟨d, e, c, e2, q⟩ => by rw [e]; simp only [e2]; exact wp_ok.mpr q
theorem w_pn {QO : Option Int → MH → Prop} (q : QO none h) : wp (mPart none ρ h) QO := wp_ok.mpr q
theorem w_ps {QO : Option Int → MH → Prop} (q : wp (m ρ h) fun x h1 => ∃ k, x = .d (.int k) ∧ QO (some k) h1) : wp (mPart (some m) ρ h) QO := wp_part_some.mpr (wp_mono q fun x h1 ⟨b, e, q⟩ => by subst e; exact q)
theorem w_dict (q : Q (.ref h.length) (h ++ [.dk []])) : wp (mDict ρ h) Q := wp_ok.mpr q
theorem w_met {C : W → MH → Bool} {op : W → List W → MH → Res W} (q : wp (m ρ h) fun x h1 => C x h1 = true ∧ wp (ms ρ h1) fun ws h2 => wp (op x ws h2) Q) : wp (mMet C op m ms ρ h) Q := wp_met.mpr (wp_mono q fun x h1 ⟨e, q⟩ => by rw [if_pos e]; exact q)
theorem w_itR1 (q : wp (ms ρ h) fun ws h1 => ∃ k : Int, ws = [.d (.int k)] ∧ (-(2 ^ 62) ≤ k ∧ k < 2 ^ 62) ∧ QI (rngW 0 k.toNat) h1) : wp (mItR1 ms ρ h) QI := wp_itR1.mpr (wp_mono q fun x h1 ⟨b, e, l, q⟩ => by subst e; exact (if_pos l).mpr q)
theorem w_itR2 (q : wp (ms ρ h) fun ws h1 => ∃ i k : Int, ws = [.d (.int i), .d (.int k)] ∧ (-(2 ^ 62) ≤ i ∧ i < 2 ^ 62 ∧ -(2 ^ 62) ≤ k ∧ k < 2 ^ 62) ∧ QI (rngW i (k - i).toNat) h1) : wp (mItR2 ms ρ h) QI := wp_itR2.mpr (wp_mono q fun x h1 ⟨b, c, e, l, q⟩ => by subst e; exact (if_pos l).mpr q)
theorem w_itS (q : wp (m ρ h) fun w h1 => ∃ t, itS w h1 = some t ∧ QI t h1) : wp (mItS m ρ h) QI := wp_itS.mpr (wp_mono q fun w h1 ⟨t, e, q⟩ => by
  unfold itS at e
  split at e
  · cases e; exact q
  · cases e; exact q
  · split at e
    · rename_i e2
      cases e
      first | (simp only [e2]; exact q) | exact q
    · cases e
  · cases e)
theorem w_itZ (q : wp (ms ρ h) fun ws h1 => ∃ t, itZ ws = some t ∧ QI t h1) : wp (mItZ ms ρ h) QI := wp_itZ.mpr (wp_mono q fun ws h1 ⟨t, e, q⟩ => by
  unfold itZ at e
  split at e
  · split at e
    · rename_i e1 e2
      split at e
      · rename_i hab
        subst hab
        cases e
        first | (simp only [e1, e2]; exact (if_pos trivial).mpr q) | exact (if_pos rfl).mpr q | exact q
      · cases e
    · cases e
  · cases e)
theorem w_itE (q : wp (ms ρ h) fun ws h1 => ∃ t, itE ws = some t ∧ QI t h1) : wp (mItE ms ρ h) QI := wp_itE.mpr (wp_mono q fun ws h1 ⟨t, e, q⟩ => by
  unfold itE at e
  split at e
  · split at e
    · rename_i e1
      cases e
      first | (simp only [e1]; exact q) | exact q
    · cases e
  · cases e)
theorem w_lc {vs : List Nat} {g : GF} {t : MT} {elt : M} (q : wp (mi ρ h) fun it h1 => wp (lcRun g t elt it.keep (wipeM ρ vs) it.ws [] h1) fun ds h2 => Q (.d (.list ds)) h2) : wp (mLc mi vs g t elt ρ h) Q := wp_lc.mpr q
theorem w_of {α : Type} {r : Res α} {x : α} {Q : α → MH → Prop} (e : r = .ok x h) (q : Q x h) : wp r Q := by rw [e]; exact wp_ok.mpr q
/-! #### statements -/
variable {N B C : PS} {R : W → MH → Prop} {A A' : MS} {G : GF}
theorem s_seq (q : wps (A ρ h) (fun ρ1 h1 => wps (A' ρ1 h1) N R B C) R B C) : wps (mSeq A A' ρ h) N R B C := wps_seq.mpr q
theorem s_set (q : wp (m ρ h) fun w h1 => N (ρ.set i (some w)) h1) : wps (mAsg (gNm i) m ρ h) N R B C := wps_set.mpr q
theorem s_asg (q : wp (m ρ h) fun w h1 => ∃ ρ', G w ρ = some ρ' ∧ N ρ' h1) : wps (mAsg G m ρ h) N R B C := wps_asg.mpr (wp_mono q fun x h1 ⟨b, e, q⟩ => by rw [e]; exact q)
theorem s_par (q : wp (ms ρ h) fun ws h1 => ∃ v w, ws = [v, w] ∧ N ((ρ.set i (some v)).set j (some w)) h1) : wps (mPar i j ms ρ h) N R B C := wps_par.mpr (wp_mono q fun x h1 ⟨v, w, e, q⟩ => by subst e; exact q)
theorem s_par3 {l : Nat} (q : wp (ms ρ h) fun ws h1 => ∃ v w u, ws = [v, w, u] ∧ N (((ρ.set i (some v)).set j (some w)).set l (some u)) h1) : wps (mPar3 i j l ms ρ h) N R B C := wps_par3.mpr (wp_mono q fun x h1 ⟨v, w, u, e, q⟩ => by subst e; exact q)
theorem s_expr (q : wp (m ρ h) fun _ h1 => N ρ h1) : wps (mExpr m ρ h) N R B C := wps_expr.mpr q
theorem s_ret (q : wp (m ρ h) fun w h1 => R w h1) : wps (mRet m ρ h) N R B C := wps_ret.mpr q
theorem s_retN (q : R (.d .none) h) : wps (mRetN ρ h) N R B C := wps_rt.mpr q
theorem s_skip (q : N ρ h) : wps (mSkip ρ h) N R B C := wps_nx.mpr q
theorem s_brk (q : B ρ h) : wps (mBrk ρ h) N R B C := wps_bk.mpr q
theorem s_cnt (q : C ρ h) : wps (mCnt ρ h) N R B C := wps_ct.mpr q
theorem s_if (q : wp (t ρ h) fun c h1 => if c = true then wps (A ρ h1) N R B C else wps (A' ρ h1) N R B C) : wps (mIfS t A A' ρ h) N R B C := wps_if.mpr q
theorem s_for (q : wp (mi ρ h) fun t h1 => wps (mLoop G A t.keep t.ws ρ h1) N R B C) : wps (mFor mi G A ρ h) N R B C := wps_for.mpr q
theorem s_put {mo mx : M} (q : wp (m ρ h) fun w h1 => wp (mo ρ h1) fun x h2 => wp (mx ρ h2) fun y h3 => ∃ h4, putW x y w h3 = some h4 ∧ N ρ h4) : wps (mPut mo mx m ρ h) N R B C := wps_put.mpr (wp_mono q fun w h1 q => wp_mono q fun x h2 q => wp_mono q fun y h3 ⟨h4, e, q⟩ => by rw [e]; exact q)
theorem ite_t {P P' : Prop} (q : P) : if true = true then P else P' := q
theorem ite_f {P P' : Prop} (q : P') : if false = true then P else P' := (if_neg (by decide)).mpr q
theorem ite_b {b : Bool} {P P' : Prop} (q : b = true → P) (q' : b = false → P') : if b = true then P else P' := by cases b with
  | true => exact q rfl
  | false => exact ite_f (q' rfl)
end
section
variable {Q : W → MH → Prop} {h : MH} {zs ds es : List D} {hs : MH} {d : D} {i : Nat}
theorem w_app0 (hz : zs.length < sizeLine) (q : Q (.d .none) (.lst (zs ++ [d]) :: hs)) : wp (oApp (.ref 0) [.d d] (.lst zs :: hs)) Q := w_of (if_pos hz) q
theorem w_app (e : h[i]? = some (.lst ds)) (hz : ds.length < sizeLine) (q : Q (.d .none) (h.set i (.lst (ds ++ [d])))) : wp (oApp (.ref i) [.d d] h) Q := by
  refine w_of (x := .d .none) (h := h.set i (.lst (ds ++ [d]))) ?_ q
  unfold oApp
  simp only [e]
  exact if_pos hz
theorem w_ext (e : h[i]? = some (.lst ds)) (hz : ds.length + es.length ≤ sizeLine) (q : Q (.d .none) (h.set i (.lst (ds ++ es)))) : wp (oExt (.ref i) [.d (.list es)] h) Q := by
  refine w_of (x := .d .none) (h := h.set i (.lst (ds ++ es))) ?_ q
  unfold oExt
  simp only [e, rd]
  exact if_pos hz
end
section
variable {g : GF} {t : MT} {elt : M} {keep : MH → Prop} {ρw : ME} {h : MH}
/-- elements and tests that leave the heap alone -/
theorem lc_sel {α : Type} (hk : keep h) (k : α → W) (p : α → Bool) (e : α → D) : ∀ (xs : List α) (acc : List D), acc.length + xs.length ≤ sizeLine →
    (∀ x ∈ xs, ∃ ρ', g (k x) ρw = some ρ' ∧ wp (t ρ' h) fun b h' => h' = h ∧ b = p x ∧ (p x = true → wp (elt ρ' h) fun w h'' => w = .d (e x) ∧ h'' = h)) → lcRun g t elt keep ρw (xs.map k) acc h = .ok (acc ++ (xs.filter p).map e) h
  | [], acc, _, _ => by
    rw [List.map_nil, List.filter_nil, List.map_nil, List.append_nil]
    unfold lcRun
    rw [if_pos hk]
  | x :: xs, acc, hl, H => by
    obtain ⟨ρ', h1, h2⟩ := H x (List.mem_cons_self ..)
    obtain ⟨b, h', e2, eh, eb, h3⟩ := wp_get h2
    rw [eh, eb] at e2
    rw [List.length_cons] at hl
    rw [List.map_cons]
    unfold lcRun
    rw [if_pos hk, h1]
    simp only [e2]
    cases hp : p x with
    | true =>
      obtain ⟨w, h'', e3, ew, eh2⟩ := wp_get (h3 hp)
      rw [ew, eh2] at e3
      rw [if_pos rfl, e3]
      simp only
      rw [if_pos (by omega), lc_sel hk k p e xs _ (by rw [List.length_append, List.length_singleton]; omega) fun y hy => H y (List.mem_cons_of_mem _ hy), List.filter_cons_of_pos hp, List.map_cons, List.append_assoc]
      rfl
    | false =>
      rw [if_neg (by decide), lc_sel hk k p e xs _ (by omega) fun y hy => H y (List.mem_cons_of_mem _ hy), List.filter_cons_of_neg (by rw [hp]; decide)]
/-- elements that may change the heap -/
theorem w_lcInv {Q : List D → MH → Prop} (I : Nat → MH → Prop) (P : D → Prop) {ws : List W} (h0 : I 0 h) (hk : ∀ i h, i ≤ ws.length → I i h → keep h) (hl : ws.length ≤ 16000000)
    (hs : ∀ i w h, ws[i]? = some w → I i h → ∃ ρ', g w ρw = some ρ' ∧ wp (elt ρ' h) fun v h' => ∃ x, v = .d x ∧ P x ∧ I (i + 1) h')
    (q : ∀ ds h', ds.length = ws.length → (∀ x ∈ ds, P x) → I ws.length h' → Q ds h') : wp (lcRun g mYes elt keep ρw ws [] h) Q := by
  suffices H : ∀ (ws : List W) (acc : List D) (I : Nat → MH → Prop) (h : MH), I 0 h → (∀ i h, i ≤ ws.length → I i h → keep h) → acc.length + ws.length ≤ sizeLine → (∀ x ∈ acc, P x) →
      (∀ i w h, ws[i]? = some w → I i h → ∃ ρ', g w ρw = some ρ' ∧ wp (elt ρ' h) fun v h' => ∃ x, v = .d x ∧ P x ∧ I (i + 1) h') →
      wp (lcRun g mYes elt keep ρw ws acc h) fun ds h' => ds.length = acc.length + ws.length ∧ (∀ x ∈ ds, P x) ∧ I ws.length h' by
    refine wp_mono (H ws [] I h h0 hk (by rw [sizeLine_eq]; simpa using Nat.le_trans hl (by decide)) (fun x hx => by simp at hx) hs) fun ds h' ⟨a, b, c⟩ => q ds h' (by simpa using a) b c
  intro ws
  induction ws with
  | nil =>
    intro acc I h h0 hk _ hp _
    unfold lcRun
    rw [if_pos (hk 0 h (Nat.le_refl _) h0)]
    exact wp_ok.mpr ⟨rfl, hp, h0⟩
  | cons w ws ih =>
    intro acc I h h0 hk hz hp hs
    unfold lcRun
    rw [if_pos (hk 0 h (Nat.zero_le _) h0)]
    obtain ⟨ρ', e1, e2⟩ := hs 0 w h rfl h0
    obtain ⟨v, h', e3, x, rfl, px, i1⟩ := wp_get e2
    rw [e1]
    simp only [mYes, if_pos, e3]
    rw [List.length_cons] at hz
    rw [if_pos (by omega)]
    have := ih (acc ++ [x]) (fun i => I (i + 1)) h' i1 (fun i h hi => hk (i + 1) h (Nat.succ_le_succ hi)) (by rw [List.length_append, List.length_singleton]; omega) (fun y hy => by
      rcases List.mem_append.mp hy with hy | hy
      · exact hp y hy
      · simp at hy
        subst hy
        exact px) (fun i w h ew => hs (i + 1) w h (by simpa using ew))
    refine wp_mono this fun ds h'' ⟨a, b, c⟩ => ⟨?_, b, c⟩
    rw [a, List.length_append, List.length_singleton, List.length_cons]
    omega
theorem big_len (n : Nat) (h : n ≤ 16000000) : n ≤ sizeLine := by rw [sizeLine_eq]; omega
theorem w_sel {α : Type} {Q : List D → MH → Prop} {xs : List α} (k : α → W) (p : α → Bool) (e : α → D) (hk : keep h) (hl : xs.length ≤ 16000000)
    (H : ∀ x ∈ xs, ∃ ρ', g (k x) ρw = some ρ' ∧ wp (t ρ' h) fun b h' => h' = h ∧ b = p x ∧ (p x = true → wp (elt ρ' h) fun w h'' => w = .d (e x) ∧ h'' = h)) (q : Q ((xs.filter p).map e) h) : wp (lcRun g t elt keep ρw (xs.map k) [] h) Q :=
  w_of (lc_sel hk k p e xs [] (by have := big_len _ hl; simpa using this) H) q
theorem w_map {α : Type} {Q : List D → MH → Prop} {xs : List α} (k : α → W) (e : α → D) (hk : keep h) (hl : xs.length ≤ 16000000)
    (H : ∀ x ∈ xs, ∃ ρ', g (k x) ρw = some ρ' ∧ wp (elt ρ' h) fun w h'' => w = .d (e x) ∧ h'' = h) (q : Q (xs.map e) h) : wp (lcRun g mYes elt keep ρw (xs.map k) [] h) Q :=
  w_sel k (fun _ => true) e hk hl (fun x hx => by
    obtain ⟨ρ', h1, h2⟩ := H x hx
    exact ⟨ρ', h1, wp_ok.mpr ⟨rfl, rfl, fun _ => h2⟩⟩) (by rw [List.filter_eq_self.mpr fun _ _ => rfl]; exact q)
theorem iD_map (ns : List Int) : List.map W.d (iD ns) = ns.map fun x => W.d (.int x) := by simp [iD]
/-- over a list of numbers -/
theorem w_mapI {Q : List D → MH → Prop} {ns : List Int} (e : Int → D) (hk : keep h) (hl : ns.length ≤ 16000000)
    (H : ∀ x ∈ ns, ∃ ρ', g (.d (.int x)) ρw = some ρ' ∧ wp (elt ρ' h) fun w h'' => w = .d (e x) ∧ h'' = h) (q : Q (ns.map e) h) : wp (lcRun g mYes elt keep ρw (List.map W.d (iD ns)) [] h) Q := by
  rw [iD_map]
  exact w_map _ e hk hl H q
theorem w_selI {Q : List D → MH → Prop} {ns : List Int} (p : Int → Bool) (e : Int → D) (hk : keep h) (hl : ns.length ≤ 16000000)
    (H : ∀ x ∈ ns, ∃ ρ', g (.d (.int x)) ρw = some ρ' ∧ wp (t ρ' h) fun b h' => h' = h ∧ b = p x ∧ (p x = true → wp (elt ρ' h) fun w h'' => w = .d (e x) ∧ h'' = h)) (q : Q ((ns.filter p).map e) h) : wp (lcRun g t elt keep ρw (List.map W.d (iD ns)) [] h) Q := by
  rw [iD_map]
  exact w_sel _ p e hk hl H q
/-- over a range -/
theorem w_mapR {Q : List D → MH → Prop} {lo : Int} {n : Nat} (e : Int → D) (hl : n ≤ 16000000)
    (H : ∀ i : Nat, i < n → ∃ ρ', g (.d (.int (lo + i))) ρw = some ρ' ∧ wp (elt ρ' h) fun w h'' => w = .d (e (lo + i)) ∧ h'' = h) (q : Q ((List.range n).map fun i => e (lo + (i : Nat))) h) : wp (lcRun g mYes elt (rngW lo n).keep ρw (rngW lo n).ws [] h) Q :=
  w_map (xs := List.range n) (fun i => W.d (.int (lo + (i : Nat)))) (fun i => e (lo + (i : Nat))) trivial (by simpa using hl) (fun i hi => H i (List.mem_range.mp hi)) q
theorem w_selR {Q : List D → MH → Prop} {lo : Int} {n : Nat} (p : Int → Bool) (e : Int → D) (hl : n ≤ 16000000)
    (H : ∀ i : Nat, i < n → ∃ ρ', g (.d (.int (lo + i))) ρw = some ρ' ∧ wp (t ρ' h) fun b h' => h' = h ∧ b = p (lo + i) ∧ (p (lo + i) = true → wp (elt ρ' h) fun w h'' => w = .d (e (lo + i)) ∧ h'' = h))
    (q : Q (((List.range n).filter fun i => p (lo + (i : Nat))).map fun i => e (lo + (i : Nat))) h) : wp (lcRun g t elt (rngW lo n).keep ρw (rngW lo n).ws [] h) Q :=
  w_sel (xs := List.range n) (fun i => W.d (.int (lo + (i : Nat)))) (fun i => p (lo + (i : Nat))) (fun i => e (lo + (i : Nat))) trivial (by simpa using hl) (fun i hi => H i (List.mem_range.mp hi)) q
/-- over two lists of numbers, side by side -/
theorem w_mapZ {Q : List D → MH → Prop} {ns ks : List Int} (e : Int × Int → D) (hk : keep h) (hl : ns.length ≤ 16000000)
    (H : ∀ x ∈ ns.zip ks, ∃ ρ', g (.tup [.d (.int x.1), .d (.int x.2)]) ρw = some ρ' ∧ wp (elt ρ' h) fun w h'' => w = .d (e x) ∧ h'' = h) (q : Q ((ns.zip ks).map e) h) : wp (lcRun g mYes elt keep ρw (zipW (iD ns) (iD ks)) [] h) Q := by
  have : zipW (iD ns) (iD ks) = (ns.zip ks).map fun x => W.tup [.d (.int x.1), .d (.int x.2)] := by
    unfold zipW iD
    rw [List.zip_map, List.map_map]
    rfl
  rw [this]
  exact w_map _ e hk (by rw [List.length_zip]; omega) H q
end
theorem at0 {α : Type} {x : α} {xs : List α} : L2.atI (x :: xs) 0 = some x := by
  unfold L2.atI L2.ixN
  rw [if_pos (by decide), if_pos (by simp)]
  rfl
theorem at_head {α : Type} {x : α} {xs : List α} (e : xs.head? = some x) : L2.atI xs 0 = some x := by
  cases xs with
  | nil => cases e
  | cons y ys => cases e; exact at0
theorem w_ixt0 {Q : W → MH → Prop} {h : MH} {d : D} {ds : List D} (e : ds.head? = some d) (q : Q (.d d) h) : wp (ixW (.d (.tuple ds)) (.d (.int 0)) h) Q := w_ixt (at_head e) q
theorem w_ixl0 {Q : W → MH → Prop} {h : MH} {d : D} {ds : List D} (e : ds.head? = some d) (q : Q (.d d) h) : wp (ixW (.d (.list ds)) (.d (.int 0)) h) Q := w_ixl (at_head e) q
theorem w_addt {Q : W → MH → Prop} {h : MH} {xs ys : List D} (e : xs.length + ys.length ≤ sizeLine) (q : Q (.d (.tuple (xs ++ ys))) h) : wp (op2 fAdd (.d (.tuple xs)) (.d (.tuple ys)) h) Q := w_op2d (if_pos e) q
theorem w_addl {Q : W → MH → Prop} {h : MH} {xs ys : List D} (e : xs.length + ys.length ≤ sizeLine) (q : Q (.d (.list (xs ++ ys))) h) : wp (op2 fAdd (.d (.list xs)) (.d (.list ys)) h) Q := w_op2d (if_pos e) q
theorem cut_init (xs : List D) : cutD xs none (some (-1)) = xs.dropLast := by
  unfold cutD HT.sIx
  cases xs with
  | nil => rfl
  | cons x xs =>
    simp [List.dropLast_eq_take]
    omega
theorem cut_tail (xs : List D) : cutD xs (some 1) none = xs.tail := by
  unfold cutD HT.sIx
  cases xs with
  | nil => rfl
  | cons x xs =>
    simp
/-! ### lists that are read -/
theorem isLst_at {i : Nat} {h : MH} {ds : List D} (e : h[i]? = some (.lst ds)) : isLst (.ref i) h = true := by unfold isLst; simp only [e]
theorem rd_at {i : Nat} {h : MH} {ds : List D} (e : h[i]? = some (.lst ds)) : rd (.ref i) h = some (.list ds) := by unfold rd; simp only [e]
theorem rds_at {i : Nat} {h : MH} {ds : List D} (e : h[i]? = some (.lst ds)) : rds [.ref i] h = some [.list ds] := by unfold rds; rw [rd_at e]; rfl
theorem isLstR_at {i : Nat} {h : MH} {ds : List D} (e : h[i]? = some (.lst ds)) : isLstR (.ref i) h = true := by unfold isLstR seqDs; rw [rd_at e]; rfl
theorem maxI_is {m : Int} : ∀ {x : Int} {xs : List Int}, (∀ y ∈ x :: xs, y ≤ m) → m ∈ x :: xs → maxI x xs = m
  | x, [], _, h => by simp at h; exact h.symm
  | x, y :: ys, hl, h => by
    show maxI (max x y) ys = m
    have h1 := hl x (by simp)
    have h2 := hl y (by simp)
    refine maxI_is (fun z hz => ?_) ?_
    · rcases List.mem_cons.mp hz with rfl | hz
      · omega
      · exact hl z (by simp [hz])
    · rcases List.mem_cons.mp h with rfl | h
      · rw [Int.max_eq_left h2]; simp
      · rcases List.mem_cons.mp h with rfl | h
        · rw [Int.max_eq_right h1]; simp
        · simp [h]
theorem minI_is {m : Int} : ∀ {x : Int} {xs : List Int}, (∀ y ∈ x :: xs, m ≤ y) → m ∈ x :: xs → minI x xs = m
  | x, [], _, h => by simp at h; exact h.symm
  | x, y :: ys, hl, h => by
    show minI (min x y) ys = m
    have h1 := hl x (by simp)
    have h2 := hl y (by simp)
    refine minI_is (fun z hz => ?_) ?_
    · rcases List.mem_cons.mp hz with rfl | hz
      · omega
      · exact hl z (by simp [hz])
    · rcases List.mem_cons.mp h with rfl | h
      · rw [Int.min_eq_left h2]; simp
      · rcases List.mem_cons.mp h with rfl | h
        · rw [Int.min_eq_right h1]; simp
        · simp [h]
theorem fMax_is {F : List Int} {m : Int} (h : ∀ y ∈ F, y ≤ m) (hm : m ∈ F) : fMax [.list (iD F)] = some (.int m) := by
  cases F with
  | nil => simp at hm
  | cons x xs => rw [fMax_l, maxI_is h hm]
theorem fMin_is {F : List Int} {m : Int} (h : ∀ y ∈ F, m ≤ y) (hm : m ∈ F) : fMin [.list (iD F)] = some (.int m) := by
  cases F with
  | nil => simp at hm
  | cons x xs => rw [fMin_l, minI_is h hm]
theorem w_cnt {Q : W → MH → Prop} {i : Nat} {h : MH} {F : List Int} {x : Int} (e : h[i]? = some (.lst (iD F))) (q : Q (.d (.int ((F.countP fun y => y == x : Nat) : Int))) h) : wp (oCnt (.ref i) [.d (.int x)] h) Q := by
  refine w_of (x := .d (.int ((F.countP fun y => y == x : Nat) : Int))) (h := h) ?_ q
  unfold oCnt seqDs
  simp only [rd_at e, rd_d]
  rw [if_pos (by rw [depth_int]; omega)]
  unfold iD
  rw [List.countP_map]
  congr 4
theorem w_sortedL {Q : W → MH → Prop} {ns : List Int} {h : MH} (q : Q (.d (.list (iD (sortI ns)))) h) : wp (oSorted2 [.d (.list (iD ns))] h) Q := by
  refine w_of (x := .d (.list (iD (sortI ns)))) (h := h) ?_ q
  unfold oSorted2 dkOf opn
  simp only [rds, rd, sort_ints]
theorem w_sortedT {Q : W → MH → Prop} {ns : List Int} {h : MH} (q : Q (.d (.list (iD (sortI ns)))) h) : wp (oSorted2 [.d (.tuple (iD ns))] h) Q := by
  refine w_of (x := .d (.list (iD (sortI ns)))) (h := h) ?_ q
  unfold oSorted2 dkOf opn
  simp only [rds, rd, sort_intsT]
theorem ite_no {b : Bool} {P P' : Prop} (e : b = false) (q : P') : if b = true then P else P' := by rw [e]; exact ite_f q
theorem ite_yes {b : Bool} {P P' : Prop} (e : b = true) (q : P) : if b = true then P else P' := by rw [e]; exact ite_t q
theorem rng_at {lo : Int} {n i : Nat} {w : W} (e : (rngW lo n).ws[i]? = some w) : i < n ∧ w = .d (.int (lo + i)) := by
  have e : ((List.range n).map fun (i : Nat) => (W.d (.int (lo + (i : Int)))))[i]? = some w := e
  rw [List.getElem?_map] at e
  simp only [Option.map_eq_some_iff] at e
  obtain ⟨j, h1, rfl⟩ := e
  obtain ⟨h2, h3⟩ := List.getElem?_eq_some_iff.mp h1
  simp at h2 h3
  subst h3
  exact ⟨h2, rfl⟩
@[simp] theorem rng_len {lo : Int} {n : Nat} : (rngW lo n).ws.length = n := by
  show ((List.range n).map fun (i : Nat) => (W.d (.int (lo + (i : Int))))).length = n
  simp
theorem any_keep {lo : Int} {n : Nat} {h : MH} : (rngW lo n).keep h := trivial
theorem lst_at {F : List D} {i : Nat} {w : W} (e : (List.map W.d F)[i]? = some w) : ∃ d ∈ F, F[i]? = some d ∧ w = .d d := by
  rw [List.getElem?_map] at e
  simp only [Option.map_eq_some_iff] at e
  obtain ⟨d, h1, rfl⟩ := e
  exact ⟨d, List.mem_of_getElem? h1, h1, rfl⟩
theorem lstI_at {F : List Int} {i : Nat} {w : W} (e : (List.map W.d (iD F))[i]? = some w) : ∃ x ∈ F, F[i]? = some x ∧ w = .d (.int x) := by
  rw [iD_map, List.getElem?_map] at e
  simp only [Option.map_eq_some_iff] at e
  obtain ⟨d, h1, rfl⟩ := e
  exact ⟨d, List.mem_of_getElem? h1, h1, rfl⟩
local macro_rules | `(tactic| walk_at "dw") => `(tactic| (repeat (first
  | ((with_reducible refine' w_var ?e ?_); (case e => rfl))
  | with_reducible refine w_c ?_
  | with_reducible refine s_seq ?_
  | with_reducible refine s_set ?_
  | with_reducible refine w_op2 ?_
  | with_reducible refine w_add ?_
  | with_reducible refine w_sub ?_
  | with_reducible refine w_eq ?_
  | with_reducible refine w_ne ?_
  | with_reducible refine w_lt ?_
  | with_reducible refine w_gt ?_
  | with_reducible refine w_le ?_
  | with_reducible refine w_ge ?_
  | with_reducible refine w_eqb ?_
  | with_reducible refine w_neb ?_
  | with_reducible refine w_cons ?_
  | with_reducible refine w_isN ?_
  | with_reducible refine w_isNotN ?_
  | with_reducible refine w_nil ?_
  | with_reducible refine w_call ?_
  | with_reducible refine w_calW ?_
  | with_reducible refine w_cal ?_
  | with_reducible refine w_ix ?_
  | with_reducible refine w_sl ?_
  | with_reducible refine w_pn ?_
  | with_reducible refine w_rev ?_
  | with_reducible refine w_ps ?_
  | with_reducible refine w_chain ?_
  | with_reducible refine w_tup ?_
  | with_reducible refine w_lst ?_
  | with_reducible refine w_lstR ?_
  | with_reducible refine w_dict ?_
  | with_reducible refine w_isa ?_
  | with_reducible refine w_itR1 ?_
  | with_reducible refine w_itS ?_
  | ((with_reducible refine' w_ixt0 ?e ?_); (case e => rfl))
  | ((with_reducible refine' w_ixl0 ?e ?_); (case e => rfl))
  | ((with_reducible refine' w_ixt ?e ?_); (case e => rfl))
  | ((with_reducible refine' w_ixl ?e ?_); (case e => rfl))
  | with_reducible refine w_itR2 ?_
  | with_reducible refine w_itZ ?_
  | with_reducible refine w_itE ?_
  | with_reducible refine w_lc ?_
  | with_reducible refine s_par ?_
  | with_reducible refine s_par3 ?_
  | with_reducible refine s_asg ?_
  | with_reducible refine s_put ?_
  | with_reducible refine s_for ?_
  | with_reducible refine s_if ?_
  | with_reducible refine w_test ?_
  | with_reducible refine w_andT ?_
  | with_reducible refine w_orT ?_
  | with_reducible refine w_notT ?_
  | with_reducible refine w_ifE ?_
  | with_reducible refine w_andV ?_
  | with_reducible refine w_orV ?_
  | with_reducible refine w_notV ?_
  | with_reducible refine w_neg ?_
  | with_reducible refine s_ret ?_
  | with_reducible refine s_retN ?_
  | with_reducible refine s_skip ?_
  | with_reducible refine s_brk ?_
  | with_reducible refine s_cnt ?_
  | with_reducible refine s_expr ?_
  | with_reducible refine w_met ?_
  | with_reducible refine wp_ok.mpr ?_
  | with_reducible refine wps_rt.mpr ?_
  | with_reducible refine wps_nx.mpr ?_
  | with_reducible refine ite_t ?_
  | with_reducible refine ite_f ?_
  | ((with_reducible refine' w_mod ?e ?_); (case e => first | assumption | omega))
  | ((with_reducible refine' w_div ?e ?_); (case e => omega))
  | ((with_reducible refine' w_mul ?e ?_); (case e => omega))
  | ((with_reducible refine' Exists.intro _ (And.intro ?e ?_)); (case e => rfl))
  | ((with_reducible refine' Exists.intro _ (Exists.intro _ (And.intro ?e ?_))); (case e => rfl))
  | ((with_reducible refine' Exists.intro _ (Exists.intro _ (Exists.intro _ (And.intro ?e ?_)))); (case e => rfl))
  | ((with_reducible refine' ite_yes ?e ?_); (case e => rfl))
  | ((with_reducible refine' ite_no ?e ?_); (case e => rfl))
  | ((with_reducible refine And.intro ?e ?_); (case e => first | rfl | exact small_len _ (Nat.le_of_ble_eq_true rfl))))))
theorem ex1 (r : Int) (h : MH) : wp (mOp2 fMod (mOp2 fAdd (mVar 1) (mOp2 fMul (mC (.int 104729)) (mVar 0))) (mC (.int 4294967291)) [some (.d (.int 5)), some (.d (.int r))] h) (fun w h' => h' = h ∧ w = .d (.int ((r + 104729 * 5) % 4294967291))) := by
  walk_at "dw"
  rfl
end Dw
/-! Dw: what is alike in all laws -/
namespace Dw
open PySem PySem.Spec PyProof.Rows L2
local macro_rules | `(tactic| walk_at "dw") => `(tactic| (repeat (first
  | ((with_reducible refine' w_var ?e ?_); (case e => rfl))
  | with_reducible refine w_c ?_
  | with_reducible refine s_seq ?_
  | with_reducible refine s_set ?_
  | with_reducible refine w_op2 ?_
  | with_reducible refine w_add ?_
  | with_reducible refine w_sub ?_
  | with_reducible refine w_eq ?_
  | with_reducible refine w_ne ?_
  | with_reducible refine w_lt ?_
  | with_reducible refine w_gt ?_
  | with_reducible refine w_le ?_
  | with_reducible refine w_ge ?_
  | with_reducible refine w_eqb ?_
  | with_reducible refine w_neb ?_
  | with_reducible refine w_cons ?_
  | with_reducible refine w_isN ?_
  | with_reducible refine w_isNotN ?_
  | with_reducible refine w_nil ?_
  | with_reducible refine w_call ?_
  | with_reducible refine w_calW ?_
  | with_reducible refine w_cal ?_
  | with_reducible refine w_ix ?_
  | with_reducible refine w_sl ?_
  | with_reducible refine w_pn ?_
  | with_reducible refine w_rev ?_
  | with_reducible refine w_ps ?_
  | with_reducible refine w_chain ?_
  | with_reducible refine w_tup ?_
  | with_reducible refine w_lst ?_
  | with_reducible refine w_lstR ?_
  | with_reducible refine w_dict ?_
  | with_reducible refine w_isa ?_
  | with_reducible refine w_itR1 ?_
  | with_reducible refine w_itS ?_
  | ((with_reducible refine' w_ixt0 ?e ?_); (case e => rfl))
  | ((with_reducible refine' w_ixl0 ?e ?_); (case e => rfl))
  | ((with_reducible refine' w_ixt ?e ?_); (case e => rfl))
  | ((with_reducible refine' w_ixl ?e ?_); (case e => rfl))
  | with_reducible refine w_itR2 ?_
  | with_reducible refine w_itZ ?_
  | with_reducible refine w_itE ?_
  | with_reducible refine w_lc ?_
  | with_reducible refine s_par ?_
  | with_reducible refine s_par3 ?_
  | with_reducible refine s_asg ?_
  | with_reducible refine s_put ?_
  | with_reducible refine s_for ?_
  | with_reducible refine s_if ?_
  | with_reducible refine w_test ?_
  | with_reducible refine w_andT ?_
  | with_reducible refine w_orT ?_
  | with_reducible refine w_notT ?_
  | with_reducible refine w_ifE ?_
  | with_reducible refine w_andV ?_
  | with_reducible refine w_orV ?_
  | with_reducible refine w_notV ?_
  | with_reducible refine w_neg ?_
  | with_reducible refine s_ret ?_
  | with_reducible refine s_retN ?_
  | with_reducible refine s_skip ?_
  | with_reducible refine s_brk ?_
  | with_reducible refine s_cnt ?_
  | with_reducible refine s_expr ?_
  | with_reducible refine w_met ?_
  | with_reducible refine wp_ok.mpr ?_
  | with_reducible refine wps_rt.mpr ?_
  | with_reducible refine wps_nx.mpr ?_
  | with_reducible refine ite_t ?_
  | with_reducible refine ite_f ?_
  | ((with_reducible refine' w_mod ?e ?_); (case e => first | assumption | omega))
  | ((with_reducible refine' w_div ?e ?_); (case e => omega))
  | ((with_reducible refine' w_mul ?e ?_); (case e => omega))
  | ((with_reducible refine' Exists.intro _ (And.intro ?e ?_)); (case e => rfl))
  | ((with_reducible refine' Exists.intro _ (Exists.intro _ (And.intro ?e ?_))); (case e => rfl))
  | ((with_reducible refine' Exists.intro _ (Exists.intro _ (Exists.intro _ (And.intro ?e ?_)))); (case e => rfl))
  | ((with_reducible refine' ite_yes ?e ?_); (case e => rfl))
  | ((with_reducible refine' ite_no ?e ?_); (case e => rfl))
  | ((with_reducible refine And.intro ?e ?_); (case e => first | rfl | exact small_len _ (Nat.le_of_ble_eq_true rfl))))))
/-! ### defs -/
section
variable {Q : W → MH → Prop} {h h' : MH}
theorem Okt.refl (h : MH) : Okt h h := ⟨Nat.le_refl _, fun i o _ e => .inl e⟩
@[simp] theorem retW_same (h : MH) (x : D) : retW h (.d x) h = .ok (.d x) h := by
  unfold retW
  rw [if_pos (Okt.refl h)]
  simp
theorem okt_town {zs zs' : List D} {hs t : MH} : Okt (.lst zs :: hs) (.lst zs' :: (hs ++ t)) := by
  refine ⟨by simp, fun i o hi e => ?_⟩
  cases i with
  | zero =>
    simp at e
    subst e
    exact .inr rfl
  | succ i =>
    rw [List.length_cons] at hi
    rw [List.getElem?_cons_succ, List.getElem?_append_left (by omega)] at e
    exact .inl (by simpa using e)
theorem retW_town {zs zs' : List D} {hs t : MH} {x : D} : retW (.lst zs :: hs) (.d x) (.lst zs' :: (hs ++ t)) = .ok (.d x) (.lst zs' :: hs) := by
  unfold retW
  rw [if_pos okt_town]
  simp
theorem retW_town0 {zs zs' : List D} {hs : MH} {x : D} : retW (.lst zs :: hs) (.d x) (.lst zs' :: hs) = .ok (.d x) (.lst zs' :: hs) := by
  have := retW_town (zs := zs) (zs' := zs') (hs := hs) (t := []) (x := x)
  rwa [List.append_nil] at this
theorem wp_fn {n : Nat} {b : MS} {ws : List W} (p : wps (b (ws.map some ++ List.replicate (n - ws.length) none) h) (fun _ h' => wp (retW h (.d .none) h') Q) (fun w h' => wp (retW h w h') Q) (fun _ _ => False) (fun _ _ => False)) : wp (mFn n b ws h) Q := by
  unfold mFn
  cases q : b (ws.map some ++ List.replicate (n - ws.length) none) h with
  | nx ρ h' => rw [q] at p; exact wps_nx.mp p
  | rt w h' => rw [q] at p; exact wps_rt.mp p
  | bk ρ h' => rw [q] at p; exact (wps_bk.mp p).elim
  | ct ρ h' => rw [q] at p; exact (wps_ct.mp p).elim
  | exc c ρ h' => rw [q] at p; exact (wps_exc.mp p).elim
  | stuck => rw [q] at p; exact (wps_stuck.mp p).elim
theorem law_of {n : Nat} {b : MS} (p : ∀ ns : List Int, ns.length ≤ 63 → wps (b ([W.d (.list (iD ns))].map some ++ List.replicate (n - 1) none) []) (fun _ _ => False) (fun w _ => w = .d (.bool true)) (fun _ _ => False) (fun _ _ => False)) : LawTrue (mFn n b) := by
  intro ns hl
  have q := wp_fn (Q := fun w _ => w = .d (.bool true)) (h := []) (n := n) (b := b) (ws := [W.d (.list (iD ns))])
    (wps_mono (p ns hl) (fun _ _ z => z.elim) (fun w h e => by
      subst e
      unfold retW
      split
      · exact wp_ok.mpr rfl
      · exact wp_ok.mpr rfl) (fun _ _ z => z) (fun _ _ z => z))
  obtain ⟨w, h', e, rfl⟩ := wp_get q
  exact ⟨h', e⟩
end
/-! ### draws -/
theorem truth_list (ds : List D) (h : MH) : truthW (.d (.list ds)) h = some (!ds.isEmpty) := rfl
@[simp] theorem truth_b (b : Bool) (h : MH) : truthW (.d (.bool b)) h = some b := rfl
theorem atI_get {α : Type} {xs : List α} {i : Int} (h0 : 0 ≤ i) (h1 : i < xs.length) : ∃ x, x ∈ xs ∧ xs[i.toNat]? = some x ∧ L2.atI xs i = some x := by
  have hl : i.toNat < xs.length := by omega
  refine ⟨xs[i.toNat], List.getElem_mem hl, List.getElem?_eq_getElem hl, ?_⟩
  unfold L2.atI L2.ixN
  rw [if_pos h0, if_pos h1]
  exact List.getElem?_eq_getElem hl
theorem wp_congr_of {α : Type} {r : Res α} {x : α} {h : MH} (H : wp r fun a h' => a = x ∧ h' = h) : r = .ok x h := by
  obtain ⟨a, h', e, rfl, rfl⟩ := wp_get H
  exact e
theorem sq_bound {n m : Int} (h0 : 0 ≤ n) (h1 : n < m) (hm : m ≤ 2 ^ 64) : -(2 ^ 64) < n ∧ n < 2 ^ 64 := by omega
/-! ### drums -/
def drumD (sp : Int) (hs : List Int) : D := .tuple [.int sp, .tuple (iD hs)]
/-- a drum -/
structure Drum (sp : Int) (hs : List Int) : Prop where
  ne : hs ≠ []
  few : hs.length ≤ 3
  lo : ∀ x ∈ hs, 0 ≤ x ∧ x < sp
  up : hs.Pairwise (· < ·)
theorem dk_at {zs : List D} {hs : MH} {o : MO} : (MO.lst zs :: (hs ++ [o]))[hs.length + 1]? = some o := by
  rw [List.getElem?_cons_succ, List.getElem?_append_right (Nat.le_refl _)]
  simp
theorem dk_set {zs : List D} {hs : MH} {o o' : MO} : (MO.lst zs :: (hs ++ [o])).set (hs.length + 1) o' = .lst zs :: (hs ++ [o']) := by
  rw [List.set_cons_succ, List.set_append_right _ _ (Nat.le_refl _)]
  simp
/-- the keys of a dict of numbers -/
def KeysI (kvs : List (Key × D)) (ks : List Int) : Prop := kvs.map (·.1) = ks.map Sum.inl
theorem KeysI.is {kvs : List (Key × D)} {ks : List Int} (h : KeysI kvs ks) : keysI kvs = some ks := by
  unfold KeysI at h
  induction kvs generalizing ks with
  | nil =>
    cases ks with
    | nil => rfl
    | cons _ _ => simp at h
  | cons p kvs ih =>
    cases ks with
    | nil => simp at h
    | cons k ks =>
      obtain ⟨pk, pv⟩ := p
      simp at h
      obtain ⟨rfl, h⟩ := h
      simp only [keysI]
      rw [ih h]
      rfl
theorem KeysI.put {kvs : List (Key × D)} {ks : List Int} {k : Int} {d : D} (h : KeysI kvs ks) (nd : ks.Nodup) : ∃ ks', KeysI (putD kvs (.inl k) d) ks' ∧ ks'.Nodup ∧ (∀ x, x ∈ ks' ↔ x = k ∨ x ∈ ks) ∧ ks'.length ≤ ks.length + 1 := by
  unfold KeysI at h
  unfold putD
  by_cases hk : k ∈ ks
  · have : (kvs.any fun kv => decide (kv.1 = Sum.inl k)) = true := by
      have : (Sum.inl k : Key) ∈ kvs.map (·.1) := by rw [h]; exact List.mem_map_of_mem hk
      obtain ⟨p, hp, e⟩ := List.mem_map.mp this
      exact List.any_eq_true.mpr ⟨p, hp, decide_eq_true e⟩
    rw [if_pos this]
    refine ⟨ks, ?_, nd, fun x => ⟨.inr, fun z => z.elim (fun z => z ▸ hk) id⟩, by omega⟩
    unfold KeysI
    rw [← h, List.map_map]
    refine List.map_congr_left fun p _ => ?_
    show (if p.1 = Sum.inl k then (p.1, d) else p).1 = p.1
    split <;> rfl
  · have : ¬ (kvs.any fun kv => decide (kv.1 = Sum.inl k)) = true := by
      intro z
      obtain ⟨p, hp, e⟩ := List.any_eq_true.mp z
      have : (Sum.inl k : Key) ∈ ks.map Sum.inl := by rw [← h, ← of_decide_eq_true e]; exact List.mem_map_of_mem hp
      obtain ⟨q, hq, e⟩ := List.mem_map.mp this
      exact hk (Sum.inl.inj e ▸ hq)
    rw [if_neg this]
    refine ⟨ks ++ [k], ?_, ?_, fun x => by simp [or_comm], by simp⟩
    · unfold KeysI
      rw [List.map_append, h, List.map_append]
      rfl
    · rw [List.nodup_append]
      refine ⟨nd, by simp, fun a ha b hb => ?_⟩
      simp at hb
      subst hb
      intro z
      exact hk (z ▸ ha)
theorem sortI_strict {ks : List Int} (nd : ks.Nodup) : (sortI ks).Pairwise (· < ·) := by
  have h1 := sortI_sorted ks
  have h2 : (sortI ks).Nodup := (sortI_perm ks).nodup_iff.mpr nd
  refine (h1.and h2).imp fun {a b} h => ?_
  obtain ⟨h3, h4⟩ := h
  omega
theorem w_sortedK {Q : W → MH → Prop} {i : Nat} {h : MH} {kvs : List (Key × D)} {ks : List Int} (e : h[i]? = some (.dk kvs)) (k : KeysI kvs ks) (hl : ks.length < 64) (q : Q (.d (.list (iD (sortI ks)))) h) : wp (oSorted2 [.ref i] h) Q := by
  refine w_of (x := .d (.list (iD (sortI ks)))) (h := h) ?_ q
  unfold oSorted2 dkOf
  simp only [e, k.is]
  rw [if_pos hl]
/-! ### the program's drums -/
/-- the time at which a spot is read -/
def readT (sp : Int) (heads : List Int) (spot time : Int) : Int := match heads.map (fun hd => time + (spot - hd - time) % sp) with
  | [] => 0
  | n :: ns => minI n ns
theorem mget {α : Type} {xs : List α} {k : Nat} {x : α} (h : xs[k]? = some x) : L2.atI xs (k : Int) = some x := by
  unfold L2.atI L2.ixN
  have := (List.getElem?_eq_some_iff.mp h).1
  rw [if_pos (by omega), if_pos (by omega)]
  simpa using h
/-- the longest wait -/
def gapsOf (sp : Int) (heads : List Int) : List Int := (heads.zip (heads.tail ++ [heads.headD 0 + sp])).map fun x => x.2 - x.1
def longW (sp : Int) (heads : List Int) : Int := (match gapsOf sp heads with
  | [] => 0
  | n :: ns => maxI n ns) - 1
theorem okt_app {h t : MH} : Okt h (h ++ t) := by
  refine ⟨by simp, fun i o hi e => ?_⟩
  rw [List.getElem?_append_left hi] at e
  exact .inl e
theorem retW_app {h t : MH} {x : D} : retW h (.d x) (h ++ t) = .ok (.d x) h := by
  unfold retW
  rw [if_pos okt_app]
  simp
theorem app_at {h : MH} {o : MO} : (h ++ [o])[h.length]? = some o := by
  rw [List.getElem?_append_right (Nat.le_refl _)]
  simp
theorem app_set {h : MH} {o o' : MO} : (h ++ [o]).set h.length o' = h ++ [o'] := by
  rw [List.set_append_right _ _ (Nat.le_refl _)]
  simp
theorem fNe_t (ns ks : List Int) : fNe (.tuple (iD ns)) (.tuple (iD ks)) = some (.bool (!decide (ns = ks))) := by
  unfold fNe
  rw [if_pos (by have := depth_ints ns; simp only [PyData.depth]; omega)]
  simp only [PyData.eqv, eqvAll_ints]
theorem fEq_t (ns ks : List Int) : fEq (.tuple (iD ns)) (.tuple (iD ks)) = some (.bool (decide (ns = ks))) := by
  unfold fEq
  rw [if_pos (by have := depth_ints ns; simp only [PyData.depth]; omega)]
  simp only [PyData.eqv, eqvAll_ints]
theorem fNe_l (ns ks : List Int) : fNe (.list (iD ns)) (.list (iD ks)) = some (.bool (!decide (ns = ks))) := by
  unfold fNe
  rw [if_pos (by have := depth_ints ns; simp only [PyData.depth]; omega)]
  simp only [PyData.eqv, eqvAll_ints]
theorem fEq_l (ns ks : List Int) : fEq (.list (iD ns)) (.list (iD ks)) = some (.bool (decide (ns = ks))) := by
  unfold fEq
  rw [if_pos (by have := depth_ints ns; simp only [PyData.depth]; omega)]
  simp only [PyData.eqv, eqvAll_ints]
theorem iDm {α : Type} (f : α → Int) (xs : List α) : (xs.map fun x => PyData.int (f x)) = iD (xs.map f) := by simp [iD]
def isWholeD (x : D) (lo hi : Int) : Bool := match x with
  | .int i => decide (lo ≤ i) && decide (i ≤ hi)
  | _ => false
theorem fAll_b {α : Type} (p : α → Bool) (xs : List α) : fAll [.list (xs.map fun x => .bool (p x))] = some (.bool (xs.all p)) := by
  show (boolsOf (xs.map fun x => PyData.bool (p x))).map (fun bs => PyData.bool (bs.all id)) = _
  rw [show (xs.map fun x => PyData.bool (p x)) = (xs.map p).map .bool by simp, boolsOf_bools]
  simp [List.all_map]
theorem fAny_b {α : Type} (p : α → Bool) (xs : List α) : fAny [.list (xs.map fun x => .bool (p x))] = some (.bool (xs.any p)) := by
  show (boolsOf (xs.map fun x => PyData.bool (p x))).map (fun bs => PyData.bool (bs.any id)) = _
  rw [show (xs.map fun x => PyData.bool (p x)) = (xs.map p).map .bool by simp, boolsOf_bools]
  simp [List.any_map]
def upB (ns : List Int) : Bool := (ns.zip ns.tail).all fun p => decide (p.1 < p.2)
def isDrumD (x : D) : Bool := match x with
  | .tuple [.int sp, .tuple hs] => (decide (4 ≤ sp) && decide (sp ≤ 24)) && (decide (1 ≤ hs.length) && decide (hs.length ≤ 3)) && hs.all (fun o => isWholeD o 0 (sp - 1)) && (match intsOf hs with
    | some ns => upB ns
    | none => false)
  | _ => false
theorem whole_ints {lo hi : Int} : ∀ {ds : List D}, (ds.all fun o => isWholeD o lo hi) = true → ∃ ns, ds = iD ns ∧ ∀ n ∈ ns, lo ≤ n ∧ n ≤ hi
  | [], _ => ⟨[], rfl, fun n h => by simp at h⟩
  | d :: ds, h => by
    rw [List.all_cons, Bool.and_eq_true] at h
    obtain ⟨ns, e, hn⟩ := whole_ints h.2
    cases d with
    | int i =>
      have h1 := h.1
      simp [isWholeD] at h1
      refine ⟨i :: ns, by rw [e]; rfl, fun n hn' => ?_⟩
      rcases List.mem_cons.mp hn' with rfl | hn'
      · exact h1
      · exact hn n hn'
    | _ => simp [isWholeD] at h
theorem zip_init (ns : List Int) : ns.dropLast.zip ns.tail = ns.zip ns.tail := by
  match ns with
  | [] => rfl
  | [_] => rfl
  | x :: y :: ns =>
    have := zip_init (y :: ns)
    simp only [List.tail_cons, List.dropLast_cons₂, List.zip_cons_cons] at this ⊢
    rw [this]
theorem Drum.pos {sp : Int} {hs : List Int} (d : Drum sp hs) : 0 < sp := by
  obtain ⟨ne, few, lo, up⟩ := d
  cases hs with
  | nil => exact absurd rfl ne
  | cons x xs => have := lo x (by simp); omega
theorem Drum.short {sp : Int} {hs : List Int} (d : Drum sp hs) : hs.length ≤ 1000 := by have := d.few; omega
theorem Drum.nd {sp : Int} {hs : List Int} (d : Drum sp hs) : hs.Nodup := d.up.imp fun h => Int.ne_of_lt h
theorem Drum.one {sp x : Int} (h0 : 0 ≤ x) (h1 : x < sp) : Drum sp [x] := ⟨by simp, by simp, by simp; exact ⟨h0, h1⟩, by simp⟩
end Dw
/-! drums: what holds of them in plain words -/
namespace Dw
open PySem PySem.Spec PyProof.Rows L2
theorem em {u sp : Int} (hp : 0 < sp) (h1 : -(2 * sp) ≤ u) (h2 : u < 2 * sp) : (u < -sp ∧ u % sp = u + 2 * sp) ∨ (-sp ≤ u ∧ u < 0 ∧ u % sp = u + sp) ∨ (0 ≤ u ∧ u < sp ∧ u % sp = u) ∨ (sp ≤ u ∧ u % sp = u - sp) := by
  by_cases h3 : u < -sp
  · refine .inl ⟨h3, ?_⟩
    have : u % sp = (u + sp * 2) % sp := by rw [Int.add_mul_emod_self_left]
    rw [this, Int.emod_eq_of_lt (by omega) (by omega)]
    omega
  · by_cases h4 : u < 0
    · refine .inr (.inl ⟨by omega, h4, ?_⟩)
      have : u % sp = (u + sp * 1) % sp := by rw [Int.add_mul_emod_self_left]
      rw [this, Int.emod_eq_of_lt (by omega) (by omega)]
      omega
    · by_cases h5 : u < sp
      · exact .inr (.inr (.inl ⟨by omega, h5, Int.emod_eq_of_lt (by omega) h5⟩))
      · refine .inr (.inr (.inr ⟨by omega, ?_⟩))
        have : u % sp = (u + sp * (-1)) % sp := by rw [Int.add_mul_emod_self_left]
        rw [this, Int.emod_eq_of_lt (by omega) (by omega)]
        omega
theorem Drum.cases {sp : Int} {hs : List Int} (d : Drum sp hs) : (∃ a, hs = [a] ∧ 0 ≤ a ∧ a < sp) ∨ (∃ a b, hs = [a, b] ∧ 0 ≤ a ∧ a < b ∧ b < sp) ∨ (∃ a b c, hs = [a, b, c] ∧ 0 ≤ a ∧ a < b ∧ b < c ∧ c < sp) := by
  obtain ⟨ne, few, lo, up⟩ := d
  match hs with
  | [] => exact absurd rfl ne
  | [a] => exact .inl ⟨a, rfl, (lo a (by simp)).1, (lo a (by simp)).2⟩
  | [a, b] =>
    simp at up
    exact .inr (.inl ⟨a, b, rfl, (lo a (by simp)).1, up, (lo b (by simp)).2⟩)
  | [a, b, c] =>
    simp at up
    exact .inr (.inr ⟨a, b, c, rfl, (lo a (by simp)).1, up.1.1, up.2, (lo c (by simp)).2⟩)
  | _ :: _ :: _ :: _ :: _ => simp at few
theorem long1 (sp a : Int) : longW sp [a] = sp - 1 := by
  show (a + sp - a) - 1 = sp - 1
  omega
theorem long2 (sp a b : Int) : longW sp [a, b] = max (b - a) (a + sp - b) - 1 := by simp [longW, gapsOf, maxI]
theorem long3 (sp a b c : Int) : longW sp [a, b, c] = max (max (b - a) (c - b)) (a + sp - c) - 1 := by simp [longW, gapsOf, maxI]
theorem read1 (sp a s t : Int) : readT sp [a] s t = t + (s - a - t) % sp := by simp [readT, minI]
theorem read2 (sp a b s t : Int) : readT sp [a, b] s t = min (t + (s - a - t) % sp) (t + (s - b - t) % sp) := by simp [readT, minI]
theorem read3 (sp a b c s t : Int) : readT sp [a, b, c] s t = min (min (t + (s - a - t) % sp) (t + (s - b - t) % sp)) (t + (s - c - t) % sp) := by simp [readT, minI]
theorem wait_le {sp : Int} {hs : List Int} (d : Drum sp hs) {s t : Int} (s0 : 0 ≤ s) (s1 : s < sp) (t0 : 0 ≤ t) (t1 : t < sp) : 0 ≤ readT sp hs s t - t ∧ readT sp hs s t - t ≤ longW sp hs := by
  rcases d.cases with ⟨a, rfl, h⟩ | ⟨a, b, rfl, h⟩ | ⟨a, b, c, rfl, h⟩
  · rw [read1, long1]
    have := @em (s - a - t) sp (by omega) (by omega) (by omega)
    omega
  · rw [read2, long2]
    have := @em (s - a - t) sp (by omega) (by omega) (by omega)
    have := @em (s - b - t) sp (by omega) (by omega) (by omega)
    omega
  · rw [read3, long3]
    have := @em (s - a - t) sp (by omega) (by omega) (by omega)
    have := @em (s - b - t) sp (by omega) (by omega) (by omega)
    have := @em (s - c - t) sp (by omega) (by omega) (by omega)
    omega
theorem wait_at {sp : Int} {hs : List Int} (d : Drum sp hs) : ∃ s, 0 ≤ s ∧ s < sp ∧ readT sp hs s 0 - 0 = longW sp hs := by
  rcases d.cases with ⟨a, rfl, h⟩ | ⟨a, b, rfl, h⟩ | ⟨a, b, c, rfl, h⟩
  · refine ⟨if a = 0 then sp - 1 else a - 1, by split <;> omega, by split <;> omega, ?_⟩
    rw [read1, long1]
    split
    · have := @em (sp - 1 - a - 0) sp (by omega) (by omega) (by omega)
      omega
    · have := @em (a - 1 - a - 0) sp (by omega) (by omega) (by omega)
      omega
  · by_cases h1 : a + sp - b ≤ b - a
    · refine ⟨b - 1, by omega, by omega, ?_⟩
      rw [read2, long2]
      have := @em (b - 1 - a - 0) sp (by omega) (by omega) (by omega)
      have := @em (b - 1 - b - 0) sp (by omega) (by omega) (by omega)
      omega
    · refine ⟨if a = 0 then sp - 1 else a - 1, by split <;> omega, by split <;> omega, ?_⟩
      rw [read2, long2]
      split
      · have := @em (sp - 1 - a - 0) sp (by omega) (by omega) (by omega)
        have := @em (sp - 1 - b - 0) sp (by omega) (by omega) (by omega)
        omega
      · have := @em (a - 1 - a - 0) sp (by omega) (by omega) (by omega)
        have := @em (a - 1 - b - 0) sp (by omega) (by omega) (by omega)
        omega
  · by_cases h1 : a + sp - c ≤ b - a ∧ c - b ≤ b - a
    · refine ⟨b - 1, by omega, by omega, ?_⟩
      rw [read3, long3]
      have := @em (b - 1 - a - 0) sp (by omega) (by omega) (by omega)
      have := @em (b - 1 - b - 0) sp (by omega) (by omega) (by omega)
      have := @em (b - 1 - c - 0) sp (by omega) (by omega) (by omega)
      omega
    · by_cases h2 : a + sp - c ≤ c - b
      · refine ⟨c - 1, by omega, by omega, ?_⟩
        rw [read3, long3]
        have := @em (c - 1 - a - 0) sp (by omega) (by omega) (by omega)
        have := @em (c - 1 - b - 0) sp (by omega) (by omega) (by omega)
        have := @em (c - 1 - c - 0) sp (by omega) (by omega) (by omega)
        omega
      · refine ⟨if a = 0 then sp - 1 else a - 1, by split <;> omega, by split <;> omega, ?_⟩
        rw [read3, long3]
        split
        · have := @em (sp - 1 - a - 0) sp (by omega) (by omega) (by omega)
          have := @em (sp - 1 - b - 0) sp (by omega) (by omega) (by omega)
          have := @em (sp - 1 - c - 0) sp (by omega) (by omega) (by omega)
          omega
        · have := @em (a - 1 - a - 0) sp (by omega) (by omega) (by omega)
          have := @em (a - 1 - b - 0) sp (by omega) (by omega) (by omega)
          have := @em (a - 1 - c - 0) sp (by omega) (by omega) (by omega)
          omega
theorem wait_zero {sp : Int} {hs : List Int} (d : Drum sp hs) : ∃ s, 0 ≤ s ∧ s < sp ∧ readT sp hs s 0 - 0 = 0 := by
  rcases d.cases with ⟨a, rfl, h⟩ | ⟨a, b, rfl, h⟩ | ⟨a, b, c, rfl, h⟩
  · refine ⟨a, by omega, by omega, ?_⟩
    rw [read1]
    have := @em (a - a - 0) sp (by omega) (by omega) (by omega)
    omega
  · refine ⟨a, by omega, by omega, ?_⟩
    rw [read2]
    have := @em (a - a - 0) sp (by omega) (by omega) (by omega)
    have := @em (a - b - 0) sp (by omega) (by omega) (by omega)
    omega
  · refine ⟨a, by omega, by omega, ?_⟩
    rw [read3]
    have := @em (a - a - 0) sp (by omega) (by omega) (by omega)
    have := @em (a - b - 0) sp (by omega) (by omega) (by omega)
    have := @em (a - c - 0) sp (by omega) (by omega) (by omega)
    omega
theorem countP_mem {n : Nat} {L : List Nat} (nd : L.Nodup) (lt : ∀ x ∈ L, x < n) (p : Nat → Bool) (hp : ∀ x, x < n → (p x = true ↔ x ∈ L)) : (List.range n).countP p = L.length := by
  rw [List.countP_eq_length_filter]
  refine List.Perm.length_eq ((List.perm_ext_iff_of_nodup (List.nodup_range.filter _) nd).mpr fun x => ?_)
  rw [List.mem_filter, List.mem_range]
  constructor
  · rintro ⟨h1, h2⟩
    exact (hp x h1).mp h2
  · intro h
    exact ⟨lt x h, (hp x (lt x h)).mpr h⟩
/-- how long it waits, from each time of a turn -/
def waitsAt (sp : Int) (hs : List Int) (s : Int) : List Int := (List.range sp.toNat).map fun t : Nat => readT sp hs s t - t
theorem waits_zero {sp : Int} {hs : List Int} (d : Drum sp hs) {s : Int} (s0 : 0 ≤ s) (s1 : s < sp) : (waitsAt sp hs s).countP (fun x => x == 0) = hs.length := by
  unfold waitsAt
  rw [List.countP_map]
  let tA : Int → Nat := fun a => (if a ≤ s then s - a else s - a + sp).toNat
  have key : ∀ a, 0 ≤ a → a < sp → tA a < sp.toNat ∧ ∀ t : Nat, t < sp.toNat → (t = tA a ↔ (s - a - t) % sp = 0) := by
    intro a h0 h1
    show (if a ≤ s then s - a else s - a + sp).toNat < sp.toNat ∧ ∀ t : Nat, t < sp.toNat → (t = (if a ≤ s then s - a else s - a + sp).toNat ↔ (s - a - t) % sp = 0)
    refine ⟨by split <;> omega, fun t ht => ?_⟩
    have := @em (s - a - t) sp (by omega) (by omega) (by omega)
    split <;> omega
  have inj : ∀ a b, 0 ≤ a → a < b → b < sp → tA a ≠ tA b := by
    intro a b h0 h1 h2
    show (if a ≤ s then s - a else s - a + sp).toNat ≠ (if b ≤ s then s - b else s - b + sp).toNat
    split <;> split <;> omega
  have nn : ∀ a (t : Nat), 0 < sp → 0 ≤ (s - a - t) % sp := fun a t h => Int.emod_nonneg _ (by omega)
  rcases d.cases with ⟨a, rfl, h⟩ | ⟨a, b, rfl, h⟩ | ⟨a, b, c, rfl, h⟩
  · refine countP_mem (L := [tA a]) (by simp) (by intro x hx; simp at hx; subst hx; exact (key a h.1 h.2).1) _ fun t ht => ?_
    have k1 := (key a h.1 h.2).2 t ht
    simp only [Function.comp, read1, beq_iff_eq, List.mem_singleton]
    omega
  · have ka := key a (by omega) (by omega)
    have kb := key b (by omega) (by omega)
    refine countP_mem (L := [tA a, tA b]) ?_ ?_ _ fun t ht => ?_
    · simp
      exact inj a b (by omega) (by omega) (by omega)
    · intro x hx
      simp at hx
      rcases hx with rfl | rfl
      · exact ka.1
      · exact kb.1
    · have k1 := ka.2 t ht
      have k2 := kb.2 t ht
      have n1 := nn a t (by omega)
      have n2 := nn b t (by omega)
      simp only [Function.comp, read2, beq_iff_eq, List.mem_cons, List.not_mem_nil, or_false]
      omega
  · have ka := key a (by omega) (by omega)
    have kb := key b (by omega) (by omega)
    have kc := key c (by omega) (by omega)
    refine countP_mem (L := [tA a, tA b, tA c]) ?_ ?_ _ fun t ht => ?_
    · simp
      exact ⟨⟨inj a b (by omega) (by omega) (by omega), inj a c (by omega) (by omega) (by omega)⟩, inj b c (by omega) (by omega) (by omega)⟩
    · intro x hx
      simp at hx
      rcases hx with rfl | rfl | rfl
      · exact ka.1
      · exact kb.1
      · exact kc.1
    · have k1 := ka.2 t ht
      have k2 := kb.2 t ht
      have k3 := kc.2 t ht
      have n1 := nn a t (by omega)
      have n2 := nn b t (by omega)
      have n3 := nn c t (by omega)
      simp only [Function.comp, read3, beq_iff_eq, List.mem_cons, List.not_mem_nil, or_false]
      omega
theorem long_one {sp : Int} {hs : List Int} (d : Drum sp hs) : ((longW sp hs == sp - 1) != (((hs.length : Nat) : Int) == 1)) = false := by
  rw [Bool.eq_false_iff]
  intro z
  rcases d.cases with ⟨a, rfl, h⟩ | ⟨a, b, rfl, h⟩ | ⟨a, b, c, rfl, h⟩
  · rw [long1] at z
    simp at z
  · rw [long2] at z
    simp at z
    omega
  · rw [long3] at z
    simp at z
    omega
theorem sort_is {ns ys : List Int} (p : ys.Perm ns) (s : ys.Pairwise (· ≤ ·)) : sortI ns = ys := (sorted_one p s).symm
def turnH (sp by_ : Int) (x : Int) : Int := x + by_ - sp * (if x + by_ ≥ sp then 1 else 0)
theorem turn_lo {sp b x : Int} (h : x + b < sp) : turnH sp b x = x + b := by unfold turnH; rw [if_neg (by omega)]; simp
theorem turn_hi {sp b x : Int} (h : sp ≤ x + b) : turnH sp b x = x + b - sp := by unfold turnH; rw [if_pos (by omega)]; simp
theorem long_turn {sp : Int} {hs : List Int} (d : Drum sp hs) {b : Int} (b0 : 0 ≤ b) (b1 : b < sp) : longW sp (sortI (hs.map (turnH sp b))) = longW sp hs := by
  rcases d.cases with ⟨x, rfl, h⟩ | ⟨x, y, rfl, h⟩ | ⟨x, y, z, rfl, h⟩
  · show longW sp (sortI [turnH sp b x]) = _
    rw [sort_is (ys := [turnH sp b x]) (.refl _) (by simp), long1, long1]
  · show longW sp (sortI [turnH sp b x, turnH sp b y]) = _
    by_cases h1 : sp ≤ y + b
    · by_cases h2 : sp ≤ x + b
      · rw [turn_hi h1, turn_hi h2, sort_is (ys := [x + b - sp, y + b - sp]) (.refl _) (by simp; omega), long2, long2]
        omega
      · rw [turn_hi h1, turn_lo (by omega), sort_is (ys := [y + b - sp, x + b]) (.swap _ _ _) (by simp; omega), long2, long2]
        omega
    · rw [turn_lo (by omega), turn_lo (by omega), sort_is (ys := [x + b, y + b]) (.refl _) (by simp; omega), long2, long2]
      omega
  · show longW sp (sortI [turnH sp b x, turnH sp b y, turnH sp b z]) = _
    by_cases h1 : sp ≤ z + b
    · by_cases h2 : sp ≤ y + b
      · by_cases h3 : sp ≤ x + b
        · rw [turn_hi h1, turn_hi h2, turn_hi h3, sort_is (ys := [x + b - sp, y + b - sp, z + b - sp]) (.refl _) (by simp; omega), long3, long3]
          omega
        · rw [turn_hi h1, turn_hi h2, turn_lo (by omega), sort_is (ns := [x + b, y + b - sp, z + b - sp]) (ys := [y + b - sp, z + b - sp, x + b]) (List.perm_append_comm (l₁ := [_, _]) (l₂ := [_])) (by simp; omega), long3, long3]
          omega
      · rw [turn_hi h1, turn_lo (x := y) (by omega), turn_lo (by omega), sort_is (ns := [x + b, y + b, z + b - sp]) (ys := [z + b - sp, x + b, y + b]) (List.perm_append_comm (l₁ := [_]) (l₂ := [_, _])) (by simp; omega), long3, long3]
        omega
    · rw [turn_lo (x := x) (by omega), turn_lo (x := y) (by omega), turn_lo (by omega), sort_is (ys := [x + b, y + b, z + b]) (.refl _) (by simp; omega), long3, long3]
      omega
theorem long_more {sp : Int} {hs : List Int} (d : Drum sp hs) (few : hs.length < 3) {x : Int} (x0 : 0 ≤ x) (x1 : x < sp) (hx : x ∉ hs) : longW sp (sortI (hs ++ [x])) ≤ longW sp hs := by
  rcases d.cases with ⟨a, rfl, h⟩ | ⟨a, b, rfl, h⟩ | ⟨a, b, c, rfl, h⟩
  · simp at hx
    show longW sp (sortI [a, x]) ≤ _
    by_cases h1 : a < x
    · rw [sort_is (ys := [a, x]) (.refl _) (by simp; omega), long2, long1]
      omega
    · rw [sort_is (ys := [x, a]) (.swap _ _ _) (by simp; omega), long2, long1]
      omega
  · simp at hx
    show longW sp (sortI [a, b, x]) ≤ _
    by_cases h1 : b < x
    · rw [sort_is (ys := [a, b, x]) (.refl _) (by simp; omega), long3, long2]
      omega
    · by_cases h2 : a < x
      · rw [sort_is (ys := [a, x, b]) (.cons _ (.swap _ _ _)) (by simp; omega), long3, long2]
        omega
      · rw [sort_is (ns := [a, b, x]) (ys := [x, a, b]) (List.perm_append_comm (l₁ := [_]) (l₂ := [_, _])) (by simp; omega), long3, long2]
        omega
  · simp at few
theorem long_ends {sp : Int} (h : 4 ≤ sp) : longW sp [0, sp - 1] = sp - 2 := by
  rw [long2]
  omega
end Dw
/-! when a spot is read: plain words -/
namespace Dw
open PySem PySem.Spec PyProof.Rows L2
/-- a head stands over the spot at the beat u -/
def under (sp : Int) (hs : List Int) (s u : Int) : Bool := hs.any fun h => (s - h - u) % sp == 0
theorem under_iff {sp : Int} {hs : List Int} {s u : Int} : under sp hs s u = true ↔ ∃ h ∈ hs, (s - h - u) % sp = 0 := by
  unfold under
  rw [List.any_eq_true]
  constructor
  · rintro ⟨h, h1, h2⟩
    exact ⟨h, h1, by simpa using h2⟩
  · rintro ⟨h, h1, h2⟩
    exact ⟨h, h1, by simpa using h2⟩
/-- r is the first beat from t on with p -/
structure First (p : Int → Bool) (t r : Int) : Prop where
  le : t ≤ r
  yes : p r = true
  no : ∀ u, t ≤ u → u < r → p u = false
theorem First.uniq {p : Int → Bool} {t r r' : Int} (a : First p t r) (b : First p t r') : r = r' := by
  rcases Int.lt_trichotomy r r' with h | h | h
  · have := b.no r a.le h
    rw [a.yes] at this
    cases this
  · exact h
  · have := a.no r' b.le h
    rw [b.yes] at this
    cases this
theorem First.congr {p q : Int → Bool} {t r : Int} (a : First p t r) (h : ∀ u, p u = q u) : First q t r := ⟨a.le, by rw [← h]; exact a.yes, fun u h1 h2 => by rw [← h]; exact a.no u h1 h2⟩
theorem emod_sub_self (x sp : Int) : (x - x % sp) % sp = 0 := by
  rw [Int.sub_emod, Int.emod_emod_of_dvd _ (Int.dvd_refl sp), Int.sub_self, Int.zero_emod]
theorem cand {sp h s t : Int} (hp : 0 < sp) : First (fun u => (s - h - u) % sp == 0) t (t + (s - h - t) % sp) := by
  have h0 := Int.emod_nonneg (s - h - t) (Int.ne_of_gt hp)
  refine ⟨by omega, ?_, fun u h1 h2 => ?_⟩
  · show ((s - h - (t + (s - h - t) % sp)) % sp == 0) = true
    rw [show s - h - (t + (s - h - t) % sp) = (s - h - t) - (s - h - t) % sp by omega, emod_sub_self]
    rfl
  · show ((s - h - u) % sp == 0) = false
    rw [beq_eq_false_iff_ne]
    intro z
    have h3 := Int.emod_lt_of_pos (s - h - t) hp
    have e : (s - h - t) % sp = u - t := by
      rw [show s - h - t = (s - h - u) + (u - t) by omega, Int.add_emod, z, Int.zero_add, Int.emod_emod_of_dvd _ (Int.dvd_refl sp)]
      exact Int.emod_eq_of_lt (by omega) (by omega)
    omega
theorem first_or {p q : Int → Bool} {t a b : Int} (ha : First p t a) (hb : First q t b) : First (fun u => p u || q u) t (min a b) := by
  refine ⟨by have := ha.le; have := hb.le; omega, ?_, fun u h1 h2 => ?_⟩
  · show (p (min a b) || q (min a b)) = true
    by_cases h : a ≤ b
    · rw [Int.min_eq_left h, ha.yes]; rfl
    · rw [Int.min_eq_right (by omega), hb.yes, Bool.or_true]
  · show (p u || q u) = false
    rw [ha.no u h1 (by omega), hb.no u h1 (by omega)]
    rfl
theorem first_fold {sp s t : Int} (hp : 0 < sp) : ∀ (hs : List Int) (p : Int → Bool) (a : Int), First p t a → First (fun u => p u || under sp hs s u) t ((hs.map (fun hd => t + (s - hd - t) % sp)).foldl min a)
  | [], p, a, ha => ha.congr fun u => by simp [under]
  | h :: hs, p, a, ha => by
    rw [List.map_cons, List.foldl_cons]
    exact (first_fold hp hs _ _ (first_or ha (cand (h := h) (s := s) hp))).congr fun u => by simp [under, Bool.or_assoc]
/-- read_time is the first beat at which a head stands over the spot -/
theorem read_first {sp : Int} {hs : List Int} (hp : 0 < sp) (hne : hs ≠ []) (s t : Int) : First (under sp hs s) t (readT sp hs s t) := by
  cases hs with
  | nil => exact absurd rfl hne
  | cons h hs =>
    show First _ t (((hs.map (fun hd => t + (s - hd - t) % sp))).foldl min (t + (s - h - t) % sp))
    exact (first_fold hp hs _ _ (cand (h := h) (s := s) hp)).congr fun u => by simp [under]
/-- the beats from a to b with p -/
def beats (p : Int → Bool) (a b : Int) : List Int := ((List.range (b - a).toNat).map fun i : Nat => a + (i : Int)).filter p
theorem beats_nil {p : Int → Bool} {a b : Int} (h : b ≤ a) : beats p a b = [] := by
  unfold beats
  rw [show (b - a).toNat = 0 by omega]
  rfl
theorem beats_split {p : Int → Bool} {a b c : Int} (h1 : a ≤ b) (h2 : b ≤ c) : beats p a c = beats p a b ++ beats p b c := by
  unfold beats
  rw [← List.filter_append, show (c - a).toNat = (b - a).toNat + (c - b).toNat by omega, List.range_add, List.map_append, List.map_map]
  congr 2
  refine List.map_congr_left fun i _ => ?_
  show a + ((((b - a).toNat + i : Nat)) : Int) = b + (i : Int)
  omega
theorem beats_one {p : Int → Bool} {a : Int} : beats p a (a + 1) = if p a = true then [a] else [] := by
  unfold beats
  rw [show (a + 1 - a).toNat = 1 by omega]
  show List.filter p [a + ((0 : Nat) : Int)] = _
  rw [show a + ((0 : Nat) : Int) = a by omega]
  cases h : p a <;> simp [h]
theorem beats_none {p : Int → Bool} {a b : Int} (h : ∀ u, a ≤ u → u < b → p u = false) : beats p a b = [] := by
  unfold beats
  rw [List.filter_eq_nil_iff]
  intro x hx
  obtain ⟨i, hi, rfl⟩ := List.mem_map.mp hx
  rw [h _ (by omega) (by have := List.mem_range.mp hi; omega)]
  decide
theorem beats_step {p : Int → Bool} {a b r : Int} (f : First p a r) (h : r < b) : beats p a b = r :: beats p (r + 1) b := by
  rw [beats_split f.le (by omega : r ≤ b), beats_none f.no, beats_split (by omega : r ≤ r + 1) (by omega : r + 1 ≤ b), beats_one, if_pos f.yes]
  rfl
theorem beats_end {p : Int → Bool} {a b r : Int} (f : First p a r) (h : b ≤ r) : beats p a b = [] := beats_none fun u h1 h2 => f.no u h1 (by omega)
theorem beats_sorted {p : Int → Bool} {a b : Int} : (beats p a b).Pairwise (· < ·) := by
  unfold beats
  refine List.Pairwise.filter _ ?_
  rw [List.pairwise_map]
  exact (List.pairwise_lt_range).imp fun h => by omega
theorem beats_mem {p : Int → Bool} {a b x : Int} : x ∈ beats p a b ↔ a ≤ x ∧ x < b ∧ p x = true := by
  unfold beats
  rw [List.mem_filter, List.mem_map]
  constructor
  · rintro ⟨⟨i, hi, rfl⟩, h⟩
    have := List.mem_range.mp hi
    exact ⟨by omega, by omega, h⟩
  · rintro ⟨h1, h2, h3⟩
    exact ⟨⟨(x - a).toNat, List.mem_range.mpr (by omega), by omega⟩, h3⟩
theorem beats_len {p : Int → Bool} {a b : Int} : (beats p a b).length ≤ (b - a).toNat := by
  unfold beats
  refine Nat.le_trans (List.length_filter_le _ _) ?_
  rw [List.length_map, List.length_range]
  exact Nat.le_refl _
/-- in a turn each head comes once -/
theorem beats_turn {sp : Int} {hs : List Int} (hp : 0 < sp) (lo : ∀ x ∈ hs, 0 ≤ x ∧ x < sp) (nd : hs.Nodup) (s a : Int) : (beats (under sp hs s) a (a + sp)).length = hs.length := by
  have perm : (beats (under sp hs s) a (a + sp)).Perm (hs.map fun h => a + (s - h - a) % sp) := by
    refine (List.perm_ext_iff_of_nodup (beats_sorted.imp fun h => Int.ne_of_lt h) ?_).mpr fun x => ?_
    · rw [List.Nodup, List.pairwise_map]
      refine List.Pairwise.imp_of_mem (fun {x y} hx hy hxy z => hxy ?_) nd
      have e : (s - x - a) % sp = (s - y - a) % sp := by omega
      have e2 : (y - x) % sp = 0 := by
        rw [show y - x = (s - x - a) - (s - y - a) by omega, Int.sub_emod, e, Int.sub_self, Int.zero_emod]
      have := lo x hx
      have := lo y hy
      by_cases h : x ≤ y
      · rw [Int.emod_eq_of_lt (by omega) (by omega)] at e2
        omega
      · have e3 : (y - x + sp) % sp = 0 := by rw [Int.add_emod_right]; exact e2
        rw [Int.emod_eq_of_lt (by omega) (by omega)] at e3
        omega
    · rw [beats_mem, under_iff, List.mem_map]
      constructor
      · rintro ⟨h1, h2, h, hh, e⟩
        refine ⟨h, hh, ?_⟩
        have f := cand (h := h) (s := s) (t := a) hp
        have g := Int.emod_lt_of_pos (s - h - a) hp
        have g0 := Int.emod_nonneg (s - h - a) (Int.ne_of_gt hp)
        rw [show s - h - a = (s - h - x) + (x - a) by omega, Int.add_emod, e, Int.zero_add, Int.emod_emod_of_dvd _ (Int.dvd_refl sp), Int.emod_eq_of_lt (by omega) (by omega)]
        omega
      · rintro ⟨h, hh, rfl⟩
        have f := cand (h := h) (s := s) (t := a) hp
        have g := Int.emod_lt_of_pos (s - h - a) hp
        exact ⟨f.le, by omega, h, hh, by simpa using f.yes⟩
  rw [perm.length_eq, List.length_map]
end Dw
/-! drums turned: plain words -/
namespace Dw
open PySem PySem.Spec PyProof.Rows L2
theorem em_sub {a b u sp : Int} : (a % sp - b % sp - u) % sp = (a - b - u) % sp := by
  rw [Int.sub_emod (a % sp - b % sp), Int.sub_emod (a % sp), Int.emod_emod_of_dvd _ (Int.dvd_refl sp), Int.emod_emod_of_dvd _ (Int.dvd_refl sp), ← Int.sub_emod a, ← Int.sub_emod]
theorem em_sub1 {a b u sp : Int} : (a % sp - b - u) % sp = (a - b - u) % sp := by
  rw [Int.sub_emod (a % sp - b), Int.sub_emod (a % sp), Int.emod_emod_of_dvd _ (Int.dvd_refl sp), ← Int.sub_emod a, ← Int.sub_emod]
def spotsAt (sp : Int) (hs : List Int) (t : Int) : List Int := hs.map fun x => (t + x) % sp
theorem mem_spots {sp : Int} {hs : List Int} {s u : Int} (s0 : 0 ≤ s) (s1 : s < sp) : s ∈ spotsAt sp hs u ↔ under sp hs s u = true := by
  rw [under_iff]
  unfold spotsAt
  rw [List.mem_map]
  have key : ∀ h : Int, (u + h) % sp = s ↔ (s - h - u) % sp = 0 := by
    intro h
    have e : s % sp = s := Int.emod_eq_of_lt s0 s1
    constructor
    · intro z
      rw [← z, em_sub1, show u + h - h - u = 0 by omega, Int.zero_emod]
    · intro z
      have : s % sp = (u + h) % sp := Int.emod_eq_emod_iff_emod_sub_eq_zero.mpr (by rw [show s - (u + h) = s - h - u by omega]; exact z)
      rw [← this, e]
  constructor
  · rintro ⟨h, h1, h2⟩
    exact ⟨h, h1, (key h).mp h2⟩
  · rintro ⟨h, h1, h2⟩
    exact ⟨h, h1, (key h).mpr h2⟩
theorem First.shift {p q : Int → Bool} {t r k : Int} (f : First p t r) (h : ∀ u, q (u + k) = p u) : First q (t + k) (r + k) :=
  ⟨by have := f.le; omega, by rw [h]; exact f.yes, fun u h1 h2 => by
    have := h (u - k)
    rw [show u - k + k = u by omega] at this
    rw [this]
    exact f.no _ (by omega) (by omega)⟩
theorem read_lt {sp : Int} {hs : List Int} (d : Drum sp hs) (s t : Int) : readT sp hs s t < t + sp := by
  have hp := d.pos
  obtain ⟨h, hh⟩ : ∃ h, h ∈ hs := by
    cases hs with
    | nil => exact absurd rfl d.ne
    | cons x xs => exact ⟨x, by simp⟩
  have f := cand (h := h) (s := s) (t := t) hp
  have g := Int.emod_lt_of_pos (s - h - t) hp
  have F := read_first hp d.ne s t
  refine Decidable.byContradiction fun z => ?_
  have := F.no _ f.le (by omega)
  rw [under_iff.mpr ⟨h, hh, by simpa using f.yes⟩] at this
  cases this
theorem turned_drum {sp : Int} {hs : List Int} (d : Drum sp hs) (b : Int) : Drum sp (sortI (hs.map fun x => (x + b) % sp)) := by
  have hp := d.pos
  have hl : (sortI (hs.map fun x => (x + b) % sp)).length = hs.length := by rw [(sortI_perm _).length_eq, List.length_map]
  refine ⟨fun z => d.ne (List.length_eq_zero_iff.mp (by rw [← hl, z]; rfl)), by have := d.few; omega, fun x hx => ?_, sortI_strict ?_⟩
  · obtain ⟨y, _, rfl⟩ := List.mem_map.mp ((sortI_perm _).mem_iff.mp hx)
    exact ⟨Int.emod_nonneg _ (Int.ne_of_gt hp), Int.emod_lt_of_pos _ hp⟩
  · rw [List.Nodup, List.pairwise_map]
    refine List.Pairwise.imp_of_mem (fun {x y} hx hy hxy z => hxy ?_) d.nd
    have e := Int.emod_eq_emod_iff_emod_sub_eq_zero.mp z
    rw [show x + b - (y + b) = x - y by omega] at e
    have h1 := d.lo x hx
    have h2 := d.lo y hy
    have e1 : x % sp = y % sp := Int.emod_eq_emod_iff_emod_sub_eq_zero.mpr e
    rw [Int.emod_eq_of_lt h1.1 h1.2, Int.emod_eq_of_lt h2.1 h2.2] at e1
    exact e1
theorem any_perm {α : Type} {p : α → Bool} {xs ys : List α} (h : xs.Perm ys) : xs.any p = ys.any p := by
  rw [Bool.eq_iff_iff, List.any_eq_true, List.any_eq_true]
  constructor
  · rintro ⟨x, h1, h2⟩
    exact ⟨x, h.mem_iff.mp h1, h2⟩
  · rintro ⟨x, h1, h2⟩
    exact ⟨x, h.mem_iff.mpr h1, h2⟩
theorem under_turned {sp : Int} {hs : List Int} (b s u : Int) : under sp (sortI (hs.map fun x => (x + b) % sp)) ((s + b) % sp) u = under sp hs s u := by
  unfold under
  rw [any_perm (sortI_perm _), List.any_map]
  congr 1
  funext x
  show (((s + b) % sp - (x + b) % sp - u) % sp == 0) = ((s - x - u) % sp == 0)
  rw [em_sub, show s + b - (x + b) - u = s - x - u by omega]
theorem under_later {sp : Int} {hs : List Int} (b s u : Int) : under sp hs ((s + b) % sp) (u + b) = under sp hs s u := by
  unfold under
  congr 1
  funext x
  rw [em_sub1, show s + b - x - (u + b) = s - x - u by omega]
theorem under_turn {sp : Int} {hs : List Int} (s u : Int) : under sp hs s (u + sp) = under sp hs s u := by
  unfold under
  congr 1
  funext x
  rw [show s - x - (u + sp) = s - x - u - sp by omega, Int.sub_emod_right]
theorem read_turned {sp : Int} {hs : List Int} (d : Drum sp hs) (b s t : Int) : readT sp (sortI (hs.map fun x => (x + b) % sp)) ((s + b) % sp) t = readT sp hs s t :=
  (read_first d.pos (turned_drum d b).ne _ _).uniq ((read_first d.pos d.ne s t).congr fun u => (under_turned b s u).symm)
theorem read_later {sp : Int} {hs : List Int} (d : Drum sp hs) (b s t : Int) : readT sp hs ((s + b) % sp) (t + b) = readT sp hs s t + b :=
  (read_first d.pos d.ne _ _).uniq ((read_first d.pos d.ne s t).shift fun u => under_later b s u)
theorem read_turn {sp : Int} {hs : List Int} (d : Drum sp hs) (s t : Int) : readT sp hs s (t + sp) = readT sp hs s t + sp :=
  (read_first d.pos d.ne _ _).uniq ((read_first d.pos d.ne s t).shift fun u => under_turn s u)
theorem spots_turn {sp : Int} {hs : List Int} (t : Int) : spotsAt sp hs (t + sp) = spotsAt sp hs t := by
  unfold spotsAt
  refine List.map_congr_left fun x _ => ?_
  rw [show t + sp + x = t + x + sp by omega, Int.add_emod_right]
theorem spots_zero {sp : Int} {hs : List Int} (d : Drum sp hs) : spotsAt sp hs 0 = hs := by
  unfold spotsAt
  refine (List.map_congr_left fun x hx => ?_).trans (List.map_id _)
  have := d.lo x hx
  rw [Int.zero_add]
  exact Int.emod_eq_of_lt this.1 this.2
theorem beats_three {sp : Int} {hs : List Int} (d : Drum sp hs) (s a : Int) : (beats (under sp hs s) a (a + 3 * sp)).length = 3 * hs.length := by
  have hp := d.pos
  have e1 : beats (under sp hs s) a (a + 3 * sp) = beats (under sp hs s) a (a + sp) ++ (beats (under sp hs s) (a + sp) (a + sp + sp) ++ beats (under sp hs s) (a + sp + sp) (a + sp + sp + sp)) := by
    rw [← beats_split (by omega) (by omega), ← beats_split (by omega) (by omega), show a + sp + sp + sp = a + 3 * sp by omega]
  rw [e1, List.length_append, List.length_append, beats_turn hp d.lo d.nd, beats_turn hp d.lo d.nd, beats_turn hp d.lo d.nd]
  omega
theorem rest_eq (n b : Int) : n - n / b * b = n % b := by rw [Int.emod_def, Int.mul_comm]
end Dw
namespace Dw
open PySem PySem.Spec PyProof.Rows L2
def c_SPOTS_LEAST : D := .int 4
def c_SPOTS_MOST : D := .int 24
def c_HEADS_MOST : D := .int 3
def c_LETTERS : D := .str "abcdefghijklmnopqrstuvwxyz"
def c_WORD_MOST : D := .int 99
def c_CELLS_MOST : D := .int 12
def c_WITH_WORD : D := .tuple [.str "put", .str "add", .str "sub", .str "save"]
def k_BEATS : List (Str × Option Int) := [("put", some 0), ("add", some 1), ("sub", some 1), ("save", some 0), ("less", none), ("stop", none)]
def c_CAP : D := .int 9999
def c_LAYINGS_MOST : D := .int 3000
def c_FIGURES : D := .str "0123456789"
noncomputable def b_is_whole : MS :=
  (mRet (mAndV (mIsa "int" (mVar 0)) (mAndV (mNotV (mIsa "bool" (mVar 0))) (mChain fLe fLe (mVar 1) (mVar 0) (mVar 2)))))
noncomputable def m_is_whole : FSpec := mFn 3 b_is_whole
noncomputable def ce_is_drum_1 : M := (mOp2 fLt (mVar 1) (mVar 2))
noncomputable def lc_is_drum_1 : M := mLc (mItZ (mCons (mSl (mIx (mVar 0) (mC (.int 1))) none (some (mNeg (mC (.int 1))))) (mCons (mSl (mIx (mVar 0) (mC (.int 1))) (some (mC (.int 1))) none) mNil))) [1, 2] (gTp 2 (gsCons (gNm 1) (gsCons (gNm 2) gsNil))) mYes ce_is_drum_1
noncomputable def ce_is_drum_2 : M := (mCall m_is_whole (mCons (mVar 1) (mCons (mC (.int 0)) (mCons (mOp2 fSub (mIx (mVar 0) (mC (.int 0))) (mC (.int 1))) mNil))))
noncomputable def lc_is_drum_2 : M := mLc (mItS (mIx (mVar 0) (mC (.int 1)))) [1] (gNm 1) mYes ce_is_drum_2
noncomputable def b_is_drum : MS :=
  (mSeq (mIfS (mOrT (mNotT (mTest (mIsa "tuple" (mVar 0)))) (mOrT (mTest (mOp2 fNe (mCal fLen (mCons (mVar 0) mNil)) (mC (.int 2)))) (mNotT (mTest (mCall m_is_whole (mCons (mIx (mVar 0) (mC (.int 0))) (mCons (mC c_SPOTS_LEAST) (mCons (mC c_SPOTS_MOST) mNil)))))))) (mRet (mC (.bool false))) mSkip)
  (mSeq (mIfS (mOrT (mNotT (mTest (mIsa "tuple" (mIx (mVar 0) (mC (.int 1)))))) (mNotT (mTest (mChain fLe fLe (mC (.int 1)) (mCal fLen (mCons (mIx (mVar 0) (mC (.int 1))) mNil)) (mC c_HEADS_MOST))))) (mRet (mC (.bool false))) mSkip)
  (mSeq (mIfS (mNotT (mTest (mCal fAll (mCons lc_is_drum_2 mNil)))) (mRet (mC (.bool false))) mSkip)
  (mRet (mCal fAll (mCons lc_is_drum_1 mNil))))))
noncomputable def m_is_drum : FSpec := mFn 3 b_is_drum
noncomputable def ce_spots_under_1 : M := (mOp2 fMod (mOp2 fAdd (mVar 1) (mVar 2)) (mIx (mVar 0) (mC (.int 0))))
noncomputable def lc_spots_under_1 : M := mLc (mItS (mIx (mVar 0) (mC (.int 1)))) [2] (gNm 2) mYes ce_spots_under_1
noncomputable def b_spots_under : MS :=
  (mRet (mCal fTuple (mCons lc_spots_under_1 mNil)))
noncomputable def m_spots_under : FSpec := mFn 3 b_spots_under
noncomputable def ce_read_time_1 : M := (mOp2 fAdd (mVar 2) (mOp2 fMod (mOp2 fSub (mOp2 fSub (mVar 1) (mVar 3)) (mVar 2)) (mIx (mVar 0) (mC (.int 0)))))
noncomputable def lc_read_time_1 : M := mLc (mItS (mIx (mVar 0) (mC (.int 1)))) [3] (gNm 3) mYes ce_read_time_1
noncomputable def b_read_time : MS :=
  (mRet (mCal fMin (mCons lc_read_time_1 mNil)))
noncomputable def m_read_time : FSpec := mFn 4 b_read_time
noncomputable def wt_times_of_1 : MT := (mTest (mOp2 fLt (mVar 5) (mVar 3)))
noncomputable def wb_times_of_1 : MS :=
  (mSeq (mExpr (mMet isLst oApp (mVar 4) (mCons (mVar 5) mNil)))
  (mAsg (gNm 5) (mCall m_read_time (mCons (mVar 0) (mCons (mVar 1) (mCons (mOp2 fAdd (mVar 5) (mC (.int 1))) mNil))))))
noncomputable def b_times_of : MS :=
  (mSeq (mAsg (gNm 4) (mLstR mNil))
  (mSeq (mAsg (gNm 5) (mCall m_read_time (mCons (mVar 0) (mCons (mVar 1) (mCons (mVar 2) mNil)))))
  (mSeq (mWhile wt_times_of_1 wb_times_of_1)
  (mRet (mCal fTuple (mCons (mVar 4) mNil))))))
noncomputable def m_times_of : FSpec := mFn 6 b_times_of
noncomputable def ce_longest_wait_1 : M := (mOp2 fSub (mVar 3) (mVar 2))
noncomputable def lc_longest_wait_1 : M := mLc (mItZ (mCons (mSl (mVar 1) none (some (mNeg (mC (.int 1))))) (mCons (mSl (mVar 1) (some (mC (.int 1))) none) mNil))) [2, 3] (gTp 2 (gsCons (gNm 2) (gsCons (gNm 3) gsNil))) mYes ce_longest_wait_1
noncomputable def b_longest_wait : MS :=
  (mSeq (mAsg (gNm 1) (mOp2 fAdd (mIx (mVar 0) (mC (.int 1))) (mTup (mCons (mOp2 fAdd (mIx (mIx (mVar 0) (mC (.int 1))) (mC (.int 0))) (mIx (mVar 0) (mC (.int 0)))) mNil))))
  (mRet (mOp2 fSub (mCal fMax (mCons lc_longest_wait_1 mNil)) (mC (.int 1)))))
noncomputable def m_longest_wait : FSpec := mFn 4 b_longest_wait
noncomputable def b_is_name : MS :=
  (mRet (mAndV (mIsa "str" (mVar 0)) (mAndV (mOp2 fEq (mCal fLen (mCons (mVar 0) mNil)) (mC (.int 1))) (mIn fIn id (mVar 0) (mC c_LETTERS)))))
noncomputable def m_is_name : FSpec := mFn 1 b_is_name
noncomputable def ce_is_order_1 : M := (mCall m_is_name (mCons (mVar 1) mNil))
noncomputable def lc_is_order_1 : M := mLc (mItS (mSl (mVar 0) (some (mC (.int 1))) none)) [1] (gNm 1) mYes ce_is_order_1
noncomputable def b_is_order : MS :=
  (mSeq (mIfS (mOrT (mNotT (mTest (mIsa "tuple" (mVar 0)))) (mOrT (mTest (mOp2 fEq (mVar 0) (mTup mNil))) (mNotT (mTest (mIsa "str" (mIx (mVar 0) (mC (.int 0)))))))) (mRet (mC (.bool false))) mSkip)
  (mSeq (mIfS (mNotT (mTest (mCal fAll (mCons lc_is_order_1 mNil)))) (mRet (mC (.bool false))) mSkip)
  (mSeq (mIfS (mTest (mOp2 fEq (mIx (mVar 0) (mC (.int 0))) (mC (.str "stop")))) (mRet (mOp2 fEq (mCal fLen (mCons (mVar 0) mNil)) (mC (.int 1)))) mSkip)
  (mRet (mAndV (mOp2 fEq (mCal fLen (mCons (mVar 0) mNil)) (mC (.int 3))) (mOrV (mIn fIn id (mIx (mVar 0) (mC (.int 0))) (mC c_WITH_WORD)) (mOp2 fEq (mIx (mVar 0) (mC (.int 0))) (mC (.str "less")))))))))
noncomputable def m_is_order : FSpec := mFn 2 b_is_order
noncomputable def b_is_cell : MS :=
  (mSeq (mIfS (mOrT (mNotT (mTest (mIsa "tuple" (mVar 0)))) (mOrT (mTest (mOp2 fNe (mCal fLen (mCons (mVar 0) mNil)) (mC (.int 2)))) (mNotT (mTest (mCall m_is_name (mCons (mIx (mVar 0) (mC (.int 0))) mNil)))))) (mRet (mC (.bool false))) mSkip)
  (mRet (mOrV (mCall m_is_whole (mCons (mIx (mVar 0) (mC (.int 1))) (mCons (mOp2 fSub (mC (.int 0)) (mC c_WORD_MOST)) (mCons (mC c_WORD_MOST) mNil)))) (mCall m_is_order (mCons (mIx (mVar 0) (mC (.int 1))) mNil)))))
noncomputable def m_is_cell : FSpec := mFn 1 b_is_cell
noncomputable def b_leads_right : MS :=
  (mSeq (mIfS (mTest (mIn fNotIn (fun k => !k) (mIx (mVar 1) (mVar 2)) (mVar 0))) (mRet (mC (.bool false))) mSkip)
  (mSeq (mAsg (gNm 3) (mIsa "int" (mIx (mVar 0) (mIx (mVar 1) (mVar 2)))))
  (mRet (mOp2 fEq (mVar 3) (mAndV (mOp2 fEq (mVar 2) (mC (.int 1))) (mIn fIn id (mIx (mVar 1) (mC (.int 0))) (mC c_WITH_WORD)))))))
noncomputable def m_leads_right : FSpec := mFn 4 b_leads_right
noncomputable def ce_is_program_1 : M := (mCall m_leads_right (mCons (mVar 1) (mCons (mVar 3) (mCons (mVar 6) mNil))))
noncomputable def lc_is_program_1 : M := mLc (mItR2 (mCons (mC (.int 1)) (mCons (mCal fLen (mCons (mVar 3) mNil)) mNil))) [6] (gNm 6) mYes ce_is_program_1
noncomputable def lb_is_program_2 : MS :=
  (mIfS (mTest (mIsa "tuple" (mVar 3))) (mIfS (mNotT (mTest (mCal fAll (mCons lc_is_program_1 mNil)))) (mRet (mC (.bool false))) mSkip) mSkip)
noncomputable def ce_is_program_3 : M := (mOp2 fLt (mIx (mVar 4) (mC (.int 0))) (mIx (mVar 5) (mC (.int 0))))
noncomputable def lc_is_program_3 : M := mLc (mItZ (mCons (mSl (mVar 0) none (some (mNeg (mC (.int 1))))) (mCons (mSl (mVar 0) (some (mC (.int 1))) none) mNil))) [4, 5] (gTp 2 (gsCons (gNm 4) (gsCons (gNm 5) gsNil))) mYes ce_is_program_3
noncomputable def ce_is_program_4 : M := (mCall m_is_cell (mCons (mVar 4) mNil))
noncomputable def lc_is_program_4 : M := mLc (mItS (mVar 0)) [4] (gNm 4) mYes ce_is_program_4
noncomputable def b_is_program : MS :=
  (mSeq (mIfS (mOrT (mNotT (mTest (mIsa "tuple" (mVar 0)))) (mOrT (mNotT (mTest (mChain fLe fLe (mC (.int 1)) (mCal fLen (mCons (mVar 0) mNil)) (mC c_CELLS_MOST)))) (mNotT (mTest (mCal fAll (mCons lc_is_program_4 mNil)))))) (mRet (mC (.bool false))) mSkip)
  (mSeq (mIfS (mNotT (mTest (mCal fAll (mCons lc_is_program_3 mNil)))) (mRet (mC (.bool false))) mSkip)
  (mSeq (mAsg (gNm 1) (mCalW oDict (mCons (mVar 0) mNil)))
  (mSeq (mFor (mItS (mVar 0)) (gTp 2 (gsCons (gNm 2) (gsCons (gNm 3) gsNil))) lb_is_program_2)
  (mRet (mC (.bool true)))))))
noncomputable def m_is_program : FSpec := mFn 7 b_is_program
noncomputable def ce_names_1 : M := (mVar 1)
noncomputable def lc_names_1 : M := mLc (mItS (mVar 0)) [1, 2] (gTp 2 (gsCons (gNm 1) (gsCons (gNm 2) gsNil))) mYes ce_names_1
noncomputable def b_names : MS :=
  (mRet (mCal fTuple (mCons lc_names_1 mNil)))
noncomputable def m_names : FSpec := mFn 3 b_names
noncomputable def ce_orders_1 : M := (mVar 1)
noncomputable def ct_orders_1 : MT := (mTest (mIsa "tuple" (mVar 2)))
noncomputable def lc_orders_1 : M := mLc (mItS (mVar 0)) [1, 2] (gTp 2 (gsCons (gNm 1) (gsCons (gNm 2) gsNil))) ct_orders_1 ce_orders_1
noncomputable def b_orders : MS :=
  (mRet (mCal fTuple (mCons lc_orders_1 mNil)))
noncomputable def m_orders : FSpec := mFn 3 b_orders
noncomputable def ce_words_1 : M := (mVar 1)
noncomputable def ct_words_1 : MT := (mTest (mIsa "int" (mVar 2)))
noncomputable def lc_words_1 : M := mLc (mItS (mVar 0)) [1, 2] (gTp 2 (gsCons (gNm 1) (gsCons (gNm 2) gsNil))) ct_words_1 ce_words_1
noncomputable def b_words : MS :=
  (mRet (mCal fTuple (mCons lc_words_1 mNil)))
noncomputable def m_words : FSpec := mFn 3 b_words
noncomputable def b_content_of : MS :=
  (mSeq (mAsg (gNm 2) (mCalW oDict (mCons (mVar 0) mNil)))
  (mSeq (mIfS (mTest (mIn fNotIn (fun k => !k) (mVar 1) (mVar 2))) (mRaise "NoName") mSkip)
  (mRet (mIx (mVar 2) (mVar 1)))))
noncomputable def m_content_of : FSpec := mFn 3 b_content_of
noncomputable def b_need_order : MS :=
  (mIfS (mTest (mIn fNotIn (fun k => !k) (mVar 1) (mCall m_orders (mCons (mVar 0) mNil)))) (mRaise "NoName") mSkip)
noncomputable def m_need_order : FSpec := mFn 2 b_need_order
noncomputable def wt_reached_1 : MT := (mTest (mVar 3))
noncomputable def wb_reached_1 : MS :=
  (mSeq (mAsg (gNm 4) (mMet isLst oPop (mVar 3) mNil))
  (mIfS (mTest (mIn fNotIn (fun k => !k) (mVar 4) (mVar 2))) (mSeq (mExpr (mMet isLst oApp (mVar 2) (mCons (mVar 4) mNil)))
  (mSeq (mAsg (gNm 5) (mCall m_content_of (mCons (mVar 0) (mCons (mVar 4) mNil))))
  (mIfS (mTest (mIsa "tuple" (mVar 5))) (mExpr (mMet isLst oExt (mVar 3) (mCons (mCal fList (mCons (mSl (mVar 5) (some (mC (.int 1))) none) mNil)) mNil))) mSkip))) mSkip))
noncomputable def b_reached : MS :=
  (mSeq (mExpr (mCall m_need_order (mCons (mVar 0) (mCons (mVar 1) mNil))))
  (mSeq (mAsg (gNm 2) (mLstR mNil))
  (mSeq (mAsg (gNm 3) (mLstR (mCons (mVar 1) mNil)))
  (mSeq (mWhile wt_reached_1 wb_reached_1)
  (mRet (mCal fTuple (mCons (mCalW oSorted2 (mCons (mVar 2) mNil)) mNil)))))))
noncomputable def m_reached : FSpec := mFn 6 b_reached
noncomputable def ce_sorted_cells_1 : M := (mTup (mCons (mVar 2) (mCons (mIx (mVar 1) (mVar 2)) mNil)))
noncomputable def lc_sorted_cells_1 : M := mLc (mItS (mCalW oSorted2 (mCons (mVar 1) mNil))) [2] (gNm 2) mYes ce_sorted_cells_1
noncomputable def b_sorted_cells : MS :=
  (mSeq (mAsg (gNm 1) (mCalW oDict (mCons (mVar 0) mNil)))
  (mRet lc_sorted_cells_1))
noncomputable def m_sorted_cells : FSpec := mFn 3 b_sorted_cells
noncomputable def ce_renamed_1 : M := (mGet (mVar 2) (mVar 6) (mVar 6))
noncomputable def lc_renamed_1 : M := mLc (mItS (mSl (mVar 5) (some (mC (.int 1))) none)) [6] (gNm 6) mYes ce_renamed_1
noncomputable def lb_renamed_2 : MS :=
  (mSeq (mIfS (mTest (mIsa "tuple" (mVar 5))) (mAsg (gNm 5) (mOp2 fAdd (mSl (mVar 5) none (some (mC (.int 1)))) (mCal fTuple (mCons lc_renamed_1 mNil)))) mSkip)
  (mExpr (mMet isLst oApp (mVar 3) (mCons (mTup (mCons (mGet (mVar 2) (mVar 4) (mVar 4)) (mCons (mVar 5) mNil))) mNil))))
noncomputable def b_renamed : MS :=
  (mSeq (mAsg (gNm 2) (mCalW oDict (mCons (mVar 1) mNil)))
  (mSeq (mAsg (gNm 3) (mLstR mNil))
  (mSeq (mFor (mItS (mVar 0)) (gTp 2 (gsCons (gNm 4) (gsCons (gNm 5) gsNil))) lb_renamed_2)
  (mRet (mCal fTuple (mCons (mCall m_sorted_cells (mCons (mVar 3) mNil)) mNil))))))
noncomputable def m_renamed : FSpec := mFn 7 b_renamed
noncomputable def ce_is_laying_1 : M := (mVar 6)
noncomputable def lc_is_laying_1 : M := mLc (mItS (mVar 2)) [3, 6] (gTp 2 (gsCons (gNm 3) (gsCons (gNm 6) gsNil))) mYes ce_is_laying_1
noncomputable def lb_is_laying_2 : MS :=
  (mSeq (mIfS (mOrT (mNotT (mTest (mIsa "tuple" (mVar 4)))) (mOrT (mTest (mOp2 fNe (mCal fLen (mCons (mVar 4) mNil)) (mC (.int 2)))) (mOrT (mNotT (mTest (mIsa "str" (mIx (mVar 4) (mC (.int 0)))))) (mTest (mOp2 fNe (mIx (mVar 4) (mC (.int 0))) (mVar 3)))))) (mRet (mC (.bool false))) mSkip)
  (mIfS (mOrT (mNotT (mTest (mIsa "int" (mIx (mVar 4) (mC (.int 1)))))) (mOrT (mTest (mIsa "bool" (mIx (mVar 4) (mC (.int 1))))) (mNotT (mTest (mChain fLe fLt (mC (.int 0)) (mIx (mVar 4) (mC (.int 1))) (mIx (mVar 0) (mC (.int 0)))))))) (mRet (mC (.bool false))) mSkip))
noncomputable def b_is_laying : MS :=
  (mSeq (mIfS (mOrT (mNotT (mTest (mIsa "tuple" (mVar 2)))) (mTest (mOp2 fNe (mCal fLen (mCons (mVar 2) mNil)) (mCal fLen (mCons (mCall m_names (mCons (mVar 1) mNil)) mNil))))) (mRet (mC (.bool false))) mSkip)
  (mSeq (mFor (mItZ (mCons (mCall m_names (mCons (mVar 1) mNil)) (mCons (mVar 2) mNil))) (gTp 2 (gsCons (gNm 3) (gsCons (gNm 4) gsNil))) lb_is_laying_2)
  (mSeq (mAsg (gNm 5) lc_is_laying_1)
  (mRet (mOp2 fEq (mLenSet (mVar 5)) (mCal fLen (mCons (mVar 5) mNil)))))))
noncomputable def m_is_laying : FSpec := mFn 7 b_is_laying
noncomputable def b_held : MS :=
  (mRet (mCal fMax (mCons (mOp2 fSub (mC (.int 0)) (mC c_CAP)) (mCons (mCal fMin (mCons (mC c_CAP) (mCons (mVar 0) mNil))) mNil))))
noncomputable def m_held : FSpec := mFn 1 b_held
noncomputable def b_Machine___init__ : MS :=
  (mSeq (mSetF "Machine" "cells" (mVar 0) (mCalW oDict (mCons (mVar 1) mNil)))
  (mSeq (mSetF "Machine" "held" (mVar 0) (mC (.int 0)))
  (mSeq (mSetF "Machine" "next" (mVar 0) (mVar 2))
  (mSetF "Machine" "time" (mVar 0) (mVar 3)))))
noncomputable def m_Machine___init__ : FSpec := mFn 4 b_Machine___init__
noncomputable def b_Machine_done : MS :=
  (mIfS (mTest (mOp2 fEq (mIx (mVar 1) (mC (.int 0))) (mC (.str "put")))) (mSetF "Machine" "held" (mVar 0) (mIx (mFld "Machine" "cells" (mVar 0)) (mIx (mVar 1) (mC (.int 1))))) (mIfS (mTest (mOp2 fEq (mIx (mVar 1) (mC (.int 0))) (mC (.str "add")))) (mSetF "Machine" "held" (mVar 0) (mCall m_held (mCons (mOp2 fAdd (mFld "Machine" "held" (mVar 0)) (mIx (mFld "Machine" "cells" (mVar 0)) (mIx (mVar 1) (mC (.int 1))))) mNil))) (mIfS (mTest (mOp2 fEq (mIx (mVar 1) (mC (.int 0))) (mC (.str "sub")))) (mSetF "Machine" "held" (mVar 0) (mCall m_held (mCons (mOp2 fSub (mFld "Machine" "held" (mVar 0)) (mIx (mFld "Machine" "cells" (mVar 0)) (mIx (mVar 1) (mC (.int 1))))) mNil))) (mPut (mFld "Machine" "cells" (mVar 0)) (mIx (mVar 1) (mC (.int 1))) (mFld "Machine" "held" (mVar 0))))))
noncomputable def m_Machine_done : FSpec := mFn 2 b_Machine_done
noncomputable def b_Machine_step : MS :=
  (mSeq (mAsg (gNm 3) (mIx (mFld "Machine" "cells" (mVar 0)) (mFld "Machine" "next" (mVar 0))))
  (mIfS (mTest (mOp2 fEq (mIx (mVar 3) (mC (.int 0))) (mC (.str "stop")))) (mSeq (mSetF "Machine" "time" (mVar 0) (mOp2 fAdd (mVar 1) (mC (.int 1))))
  (mSetF "Machine" "next" (mVar 0) (mC .none))) (mIfS (mTest (mOp2 fEq (mIx (mVar 3) (mC (.int 0))) (mC (.str "less")))) (mSeq (mSetF "Machine" "time" (mVar 0) (mOp2 fAdd (mVar 1) (mC (.int 2))))
  (mSetF "Machine" "next" (mVar 0) (mIx (mVar 3) (mOp2 fAdd (mC (.int 1)) (mCal fInt (mCons (mOp2 fGe (mFld "Machine" "held" (mVar 0)) (mC (.int 0))) mNil)))))) (mSeq (mExpr (mMeth "Machine" "done" m_Machine_done (mVar 0) (mCons (mVar 3) mNil)))
  (mSeq (mSetF "Machine" "time" (mVar 0) (mOp2 fAdd (mOp2 fAdd (mVar 2) (mC (.int 1))) (mIxK k_BEATS (mIx (mVar 3) (mC (.int 0))))))
  (mSetF "Machine" "next" (mVar 0) (mIx (mVar 3) (mC (.int 2)))))))))
noncomputable def m_Machine_step : FSpec := mFn 4 b_Machine_step
noncomputable def ce_Machine_words_1 : M := (mTup (mCons (mVar 1) (mCons (mIx (mFld "Machine" "cells" (mVar 0)) (mVar 1)) mNil)))
noncomputable def ct_Machine_words_1 : MT := (mTest (mIsa "int" (mIx (mFld "Machine" "cells" (mVar 0)) (mVar 1))))
noncomputable def lc_Machine_words_1 : M := mLc (mItS (mCalW oSorted2 (mCons (mFld "Machine" "cells" (mVar 0)) mNil))) [1] (gNm 1) ct_Machine_words_1 ce_Machine_words_1
noncomputable def b_Machine_words : MS :=
  (mRet (mCal fTuple (mCons lc_Machine_words_1 mNil)))
noncomputable def m_Machine_words : FSpec := mFn 2 b_Machine_words
noncomputable def lam_run : List W → FSpec := mLam 4 (mCall m_read_time (mCons (mVar 2) (mCons (mIx (mVar 3) (mVar 0)) (mCons (mVar 1) mNil))))
noncomputable def lam_path : List W → FSpec := mLam 2 (mVar 1)
noncomputable def lam_work : List W → FSpec := mLam 2 (mVar 1)
noncomputable def lb_first_free_1 : MS :=
  (mIfS (mTest (mIn fNotIn (fun k => !k) (mVar 3) (mVar 1))) (mRet (mVar 3)) mSkip)
noncomputable def wt_first_free_2 : MT := (mTest (mC (.bool true)))
noncomputable def wb_first_free_2 : MS :=
  (mSeq (mFor (mItS (mCall m_spots_under (mCons (mVar 0) (mCons (mVar 2) mNil)))) (gNm 3) lb_first_free_1)
  (mAsg (gNm 2) (mOp2 fAdd (mVar 2) (mC (.int 1)))))
noncomputable def b_first_free : MS :=
  (mWhile wt_first_free_2 wb_first_free_2)
noncomputable def m_first_free : FSpec := mFn 4 b_first_free
noncomputable def b_Placer_when : MS :=
  (mSeq (mIfS (mTest (mIn fNotIn (fun k => !k) (mVar 1) (mFld "Placer" "laid" (mVar 0)))) (mPut (mFld "Placer" "laid" (mVar 0)) (mVar 1) (mCall m_first_free (mCons (mFld "Placer" "drum" (mVar 0)) (mCons (mLstVals (mFld "Placer" "laid" (mVar 0))) (mCons (mVar 2) mNil))))) mSkip)
  (mRet (mCall m_read_time (mCons (mFld "Placer" "drum" (mVar 0)) (mCons (mIx (mFld "Placer" "laid" (mVar 0)) (mVar 1)) (mCons (mVar 2) mNil))))))
noncomputable def m_Placer_when : FSpec := mFn 3 b_Placer_when
noncomputable def lam_as_wanted : List W → FSpec := mLam 3 (mMeth "Placer" "when" m_Placer_when (mVar 2) (mCons (mVar 0) (mCons (mVar 1) mNil)))
noncomputable def lamT : Nat → List W → FSpec
  | 0 => lam_run
  | 1 => lam_path
  | 2 => lam_work
  | 3 => lam_as_wanted
  | _ => fun _ => mStuck
noncomputable def wt_steps_of_1 : MT := (mAndT (mTest (mOp2 fIsNot (mFld "Machine" "next" (mVar 5)) (mC .none))) (mTest (mOp2 fLt (mCal fLen (mCons (mVar 6) mNil)) (mVar 3))))
noncomputable def wb_steps_of_1 : MS :=
  (mSeq (mAsg (gNm 7) (mFld "Machine" "next" (mVar 5)))
  (mSeq (mAsg (gNm 8) (mIx (mFld "Machine" "cells" (mVar 5)) (mVar 7)))
  (mSeq (mAsg (gNm 9) (mCallV lamT 4 (mCons (mVar 7) (mCons (mFld "Machine" "time" (mVar 5)) mNil))))
  (mSeq (mAsg (gNm 10) (mC .none))
  (mSeq (mIfS (mTest (mInK k_BEATS (mIx (mVar 8) (mC (.int 0))))) (mAsg (gNm 10) (mCallV lamT 4 (mCons (mIx (mVar 8) (mC (.int 1))) (mCons (mOp2 fAdd (mVar 9) (mC (.int 1))) mNil)))) mSkip)
  (mSeq (mExpr (mMeth "Machine" "step" m_Machine_step (mVar 5) (mCons (mVar 9) (mCons (mVar 10) mNil))))
  (mAsg (gNm 6) (mOp2 fAdd (mVar 6) (mTup (mCons (mTup (mCons (mVar 7) (mCons (mVar 9) (mCons (mVar 10) mNil)))) mNil))))))))))
noncomputable def b_steps_of : MS :=
  (mSeq (mAsg (gNm 5) (mMake "Machine" m_Machine___init__ (mCons (mVar 0) (mCons (mVar 1) (mCons (mVar 2) mNil)))))
  (mSeq (mAsg (gNm 6) (mTup mNil))
  (mSeq (mWhile wt_steps_of_1 wb_steps_of_1)
  (mRet (mTup (mCons (mVar 6) (mCons (mVar 5) mNil)))))))
noncomputable def m_steps_of : FSpec := mFn 11 b_steps_of
noncomputable def b_run : MS :=
  (mSeq (mExpr (mCall m_need_order (mCons (mVar 1) (mCons (mVar 3) mNil))))
  (mSeq (mIfS (mNotT (mTest (mCall m_is_laying (mCons (mVar 0) (mCons (mVar 1) (mCons (mVar 2) mNil)))))) (mRaise "BadLaying") mSkip)
  (mSeq (mAsg (gNm 6) (mCalW oDict (mCons (mVar 2) mNil)))
  (mSeq (mAsg (gTp 2 (gsCons (gNm 7) (gsCons (gNm 8) gsNil))) (mCallHO m_steps_of 0 [0, 6] (mCons (mVar 1) (mCons (mVar 3) (mCons (mVar 4) (mCons (mVar 5) mNil))))))
  (mRet (mTup (mCons (mVar 7) (mCons (mOp2 fIs (mFld "Machine" "next" (mVar 8)) (mC .none)) (mCons (mFld "Machine" "time" (mVar 8)) (mCons (mFld "Machine" "held" (mVar 8)) (mCons (mMeth "Machine" "words" m_Machine_words (mVar 8) mNil) mNil)))))))))))
noncomputable def m_run : FSpec := mFn 9 b_run
noncomputable def ce_path_1 : M := (mVar 5)
noncomputable def lc_path_1 : M := mLc (mItS (mVar 3)) [5, 6, 7] (gTp 3 (gsCons (gNm 5) (gsCons (gNm 6) (gsCons (gNm 7) gsNil)))) mYes ce_path_1
noncomputable def b_path : MS :=
  (mSeq (mExpr (mCall m_need_order (mCons (mVar 0) (mCons (mVar 1) mNil))))
  (mSeq (mAsg (gTp 2 (gsCons (gNm 3) (gsCons (gNm 4) gsNil))) (mCallHO m_steps_of 1 [] (mCons (mVar 0) (mCons (mVar 1) (mCons (mC (.int 0)) (mCons (mVar 2) mNil))))))
  (mRet (mCal fTuple (mCons lc_path_1 mNil)))))
noncomputable def m_path : FSpec := mFn 8 b_path
noncomputable def b_work : MS :=
  (mSeq (mExpr (mCall m_need_order (mCons (mVar 0) (mCons (mVar 1) mNil))))
  (mRet (mFld "Machine" "time" (mIxT (mCallHO m_steps_of 2 [] (mCons (mVar 0) (mCons (mVar 1) (mCons (mC (.int 0)) (mCons (mVar 2) mNil))))) 1))))
noncomputable def m_work : FSpec := mFn 3 b_work
noncomputable def b_waits : MS :=
  (mRet (mOp2 fSub (mOp2 fSub (mIx (mCall m_run (mCons (mVar 0) (mCons (mVar 1) (mCons (mVar 2) (mCons (mVar 3) (mCons (mVar 4) (mCons (mVar 5) mNil))))))) (mC (.int 2))) (mVar 4)) (mCall m_work (mCons (mVar 1) (mCons (mVar 3) (mCons (mVar 5) mNil))))))
noncomputable def m_waits : FSpec := mFn 6 b_waits
noncomputable def ce_asked_1 : M := (mTup (mCons (mVar 4) (mCons (mIx (mVar 3) (mVar 4)) mNil)))
noncomputable def lc_asked_1 : M := mLc (mItS (mCalW oSorted2 (mCons (mVar 3) mNil))) [4] (gNm 4) mYes ce_asked_1
noncomputable def lb_asked_2 : MS :=
  (mSeq (mPut (mVar 3) (mVar 4) (mOp2 fAdd (mIx (mVar 3) (mVar 4)) (mC (.int 1))))
  (mSeq (mAsg (gNm 5) (mCall m_content_of (mCons (mVar 0) (mCons (mVar 4) mNil))))
  (mIfS (mTest (mInK k_BEATS (mIx (mVar 5) (mC (.int 0))))) (mPut (mVar 3) (mIx (mVar 5) (mC (.int 1))) (mOp2 fAdd (mIx (mVar 3) (mIx (mVar 5) (mC (.int 1)))) (mC (.int 1)))) mSkip)))
noncomputable def ce_asked_3 : M := (mTup (mCons (mVar 4) (mCons (mC (.int 0)) mNil)))
noncomputable def lc_asked_3 : M := mLc (mItS (mCall m_names (mCons (mVar 0) mNil))) [4] (gNm 4) mYes ce_asked_3
noncomputable def b_asked : MS :=
  (mSeq (mAsg (gNm 3) (mCalW oDict (mCons lc_asked_3 mNil)))
  (mSeq (mFor (mItS (mCall m_path (mCons (mVar 0) (mCons (mVar 1) (mCons (mVar 2) mNil))))) (gNm 4) lb_asked_2)
  (mRet (mCal fTuple (mCons lc_asked_1 mNil)))))
noncomputable def m_asked : FSpec := mFn 6 b_asked
noncomputable def ce_turned_1 : M := (mTup (mCons (mVar 3) (mCons (mOp2 fMod (mOp2 fAdd (mVar 4) (mVar 2)) (mIx (mVar 0) (mC (.int 0)))) mNil)))
noncomputable def lc_turned_1 : M := mLc (mItS (mVar 1)) [3, 4] (gTp 2 (gsCons (gNm 3) (gsCons (gNm 4) gsNil))) mYes ce_turned_1
noncomputable def b_turned : MS :=
  (mRet (mCal fTuple (mCons lc_turned_1 mNil)))
noncomputable def m_turned : FSpec := mFn 5 b_turned
noncomputable def ce_by_names_1 : M := (mTup (mCons (mVar 2) (mCons (mVar 1) mNil)))
noncomputable def lc_by_names_1 : M := mLc (mItE (mCons (mCall m_names (mCons (mVar 0) mNil)) mNil)) [1, 2] (gTp 2 (gsCons (gNm 1) (gsCons (gNm 2) gsNil))) mYes ce_by_names_1
noncomputable def b_by_names : MS :=
  (mRet (mCal fTuple (mCons lc_by_names_1 mNil)))
noncomputable def m_by_names : FSpec := mFn 3 b_by_names
noncomputable def ce_free_spots_1 : M := (mVar 4)
noncomputable def ct_free_spots_1 : MT := (mTest (mIn fNotIn (fun k => !k) (mVar 4) (mVar 2)))
noncomputable def lc_free_spots_1 : M := mLc (mItR1 (mCons (mIx (mVar 0) (mC (.int 0))) mNil)) [4] (gNm 4) ct_free_spots_1 ce_free_spots_1
noncomputable def ce_free_spots_2 : M := (mVar 4)
noncomputable def lc_free_spots_2 : M := mLc (mItS (mVar 1)) [3, 4] (gTp 2 (gsCons (gNm 3) (gsCons (gNm 4) gsNil))) mYes ce_free_spots_2
noncomputable def b_free_spots : MS :=
  (mSeq (mAsg (gNm 2) lc_free_spots_2)
  (mRet (mCal fTuple (mCons lc_free_spots_1 mNil))))
noncomputable def m_free_spots : FSpec := mFn 5 b_free_spots
noncomputable def b_end_time : MS :=
  (mRet (mIx (mCall m_run (mCons (mVar 0) (mCons (mVar 1) (mCons (mVar 2) (mCons (mVar 3) (mCons (mC (.int 0)) (mCons (mVar 4) mNil))))))) (mC (.int 2))))
noncomputable def m_end_time : FSpec := mFn 5 b_end_time
noncomputable def b_is_better : MS :=
  (mSeq (mAsg (gNm 6) (mCall m_end_time (mCons (mVar 0) (mCons (mVar 1) (mCons (mVar 2) (mCons (mVar 4) (mCons (mVar 5) mNil)))))))
  (mSeq (mAsg (gNm 7) (mCall m_end_time (mCons (mVar 0) (mCons (mVar 1) (mCons (mVar 3) (mCons (mVar 4) (mCons (mVar 5) mNil)))))))
  (mRet (mOp2 fLt (mTup (mCons (mVar 6) (mCons (mVar 2) mNil))) (mTup (mCons (mVar 7) (mCons (mVar 3) mNil)))))))
noncomputable def m_is_better : FSpec := mFn 8 b_is_better
noncomputable def b_Placer___init__ : MS :=
  (mSeq (mSetF "Placer" "drum" (mVar 0) (mVar 1))
  (mSetF "Placer" "laid" (mVar 0) mDict))
noncomputable def m_Placer___init__ : FSpec := mFn 2 b_Placer___init__
noncomputable def ce_as_wanted_1 : M := (mTup (mCons (mVar 5) (mCons (mIx (mFld "Placer" "laid" (mVar 4)) (mVar 5)) mNil)))
noncomputable def lc_as_wanted_1 : M := mLc (mItS (mCall m_names (mCons (mVar 1) mNil))) [5] (gNm 5) mYes ce_as_wanted_1
noncomputable def lb_as_wanted_2 : MS :=
  (mIfS (mTest (mIn fNotIn (fun k => !k) (mVar 5) (mFld "Placer" "laid" (mVar 4)))) (mPut (mFld "Placer" "laid" (mVar 4)) (mVar 5) (mCal fMin (mCons (mCall m_free_spots (mCons (mVar 0) (mCons (mTupItems (mFld "Placer" "laid" (mVar 4))) mNil))) mNil))) mSkip)
noncomputable def b_as_wanted : MS :=
  (mSeq (mIfS (mTest (mOp2 fGt (mCal fLen (mCons (mCall m_names (mCons (mVar 1) mNil)) mNil)) (mIx (mVar 0) (mC (.int 0))))) (mRaise "NoRoom") mSkip)
  (mSeq (mAsg (gNm 4) (mMake "Placer" m_Placer___init__ (mCons (mVar 0) mNil)))
  (mSeq (mExpr (mCall m_work (mCons (mVar 1) (mCons (mVar 2) (mCons (mC (.int 1)) mNil)))))
  (mSeq (mExpr (mCallHO m_steps_of 3 [4] (mCons (mVar 1) (mCons (mVar 2) (mCons (mC (.int 0)) (mCons (mVar 3) mNil))))))
  (mSeq (mFor (mItS (mCall m_names (mCons (mVar 1) mNil))) (gNm 5) lb_as_wanted_2)
  (mRet (mCal fTuple (mCons lc_as_wanted_1 mNil))))))))
noncomputable def m_as_wanted : FSpec := mFn 6 b_as_wanted
noncomputable def lb_changed_ones_1 : MS :=
  (mSeq (mAsg (gTp 2 (gsCons (gNm 8) (gsCons (gNm 9) gsNil))) (mIx (mVar 1) (mVar 7)))
  (mSeq (mAsg (gNm 10) (mCalW oListR (mCons (mVar 1) mNil)))
  (mSeq (mPut (mVar 10) (mVar 3) (mTup (mCons (mVar 4) (mCons (mVar 9) mNil))))
  (mSeq (mPut (mVar 10) (mVar 7) (mTup (mCons (mVar 8) (mCons (mVar 5) mNil))))
  (mExpr (mMet isLst oApp (mVar 2) (mCons (mCal fTuple (mCons (mVar 10) mNil)) mNil)))))))
noncomputable def lb_changed_ones_2 : MS :=
  (mExpr (mMet isLst oApp (mVar 2) (mCons (mOp2 fAdd (mOp2 fAdd (mSl (mVar 1) none (some (mVar 3))) (mTup (mCons (mTup (mCons (mVar 4) (mCons (mVar 6) mNil))) mNil))) (mSl (mVar 1) (some (mOp2 fAdd (mVar 3) (mC (.int 1)))) none)) mNil)))
noncomputable def lb_changed_ones_3 : MS :=
  (mSeq (mFor (mItS (mCall m_free_spots (mCons (mVar 0) (mCons (mVar 1) mNil)))) (gNm 6) lb_changed_ones_2)
  (mFor (mItR2 (mCons (mOp2 fAdd (mVar 3) (mC (.int 1))) (mCons (mCal fLen (mCons (mVar 1) mNil)) mNil))) (gNm 7) lb_changed_ones_1))
noncomputable def b_changed_ones : MS :=
  (mSeq (mAsg (gNm 2) (mLstR mNil))
  (mSeq (mFor (mItE (mCons (mVar 1) mNil)) (gTp 2 (gsCons (gNm 3) (gsCons (gTp 2 (gsCons (gNm 4) (gsCons (gNm 5) gsNil))) gsNil))) lb_changed_ones_3)
  (mRet (mVar 2))))
noncomputable def m_changed_ones : FSpec := mFn 11 b_changed_ones
noncomputable def lb_bettered_1 : MS :=
  (mIfS (mTest (mCall m_is_better (mCons (mVar 0) (mCons (mVar 1) (mCons (mVar 6) (mCons (mVar 5) (mCons (mVar 3) (mCons (mVar 4) mNil)))))))) (mAsg (gNm 5) (mVar 6)) mSkip)
noncomputable def b_bettered : MS :=
  (mSeq (mIfS (mNotT (mTest (mCall m_is_laying (mCons (mVar 0) (mCons (mVar 1) (mCons (mVar 2) mNil)))))) (mRaise "BadLaying") mSkip)
  (mSeq (mAsg (gNm 5) (mVar 2))
  (mSeq (mFor (mItS (mCall m_changed_ones (mCons (mVar 0) (mCons (mVar 2) mNil)))) (gNm 6) lb_bettered_1)
  (mRet (mVar 5)))))
noncomputable def m_bettered : FSpec := mFn 7 b_bettered
noncomputable def wt_settled_1 : MT := (mTest (mOp2 fNe (mVar 5) (mVar 2)))
noncomputable def wb_settled_1 : MS :=
  (mSeq (mAsg (gNm 2) (mVar 5))
  (mAsg (gNm 5) (mCall m_bettered (mCons (mVar 0) (mCons (mVar 1) (mCons (mVar 2) (mCons (mVar 3) (mCons (mVar 4) mNil))))))))
noncomputable def b_settled : MS :=
  (mSeq (mAsg (gNm 5) (mCall m_bettered (mCons (mVar 0) (mCons (mVar 1) (mCons (mVar 2) (mCons (mVar 3) (mCons (mVar 4) mNil)))))))
  (mSeq (mWhile wt_settled_1 wb_settled_1)
  (mRet (mVar 2))))
noncomputable def m_settled : FSpec := mFn 6 b_settled
noncomputable def ce_all_layings_1 : M := (mOp2 fAdd (mVar 5) (mTup (mCons (mTup (mCons (mVar 3) (mCons (mVar 6) mNil))) mNil)))
noncomputable def lc_all_layings_1 : M := mLc (mItS (mCall m_free_spots (mCons (mVar 0) (mCons (mVar 5) mNil)))) [6] (gNm 6) mYes ce_all_layings_1
noncomputable def lb_all_layings_2 : MS :=
  (mExpr (mMet isLst oExt (mVar 4) (mCons lc_all_layings_1 mNil)))
noncomputable def lb_all_layings_3 : MS :=
  (mSeq (mAsg (gNm 4) (mLstR mNil))
  (mSeq (mFor (mItS (mVar 2)) (gNm 5) lb_all_layings_2)
  (mAsg (gNm 2) (mVar 4))))
noncomputable def b_all_layings : MS :=
  (mSeq (mAsg (gNm 2) (mLst (mCons (mTup mNil) mNil)))
  (mSeq (mFor (mItS (mVar 1)) (gNm 3) lb_all_layings_3)
  (mRet (mVar 2))))
noncomputable def m_all_layings : FSpec := mFn 7 b_all_layings
noncomputable def lb_layings_many_1 : MS :=
  (mAsg (gNm 2) (mOp2 fMul (mVar 2) (mCal fMax (mCons (mC (.int 0)) (mCons (mOp2 fSub (mIx (mVar 0) (mC (.int 0))) (mVar 3)) mNil)))))
noncomputable def b_layings_many : MS :=
  (mSeq (mAsg (gNm 2) (mC (.int 1)))
  (mSeq (mFor (mItR1 (mCons (mCal fLen (mCons (mCall m_names (mCons (mVar 1) mNil)) mNil)) mNil)) (gNm 3) lb_layings_many_1)
  (mRet (mVar 2))))
noncomputable def m_layings_many : FSpec := mFn 4 b_layings_many
noncomputable def lb_best_1 : MS :=
  (mIfS (mOrT (mTest (mOp2 fIs (mVar 4) (mC .none))) (mTest (mCall m_is_better (mCons (mVar 0) (mCons (mVar 1) (mCons (mVar 5) (mCons (mVar 4) (mCons (mVar 2) (mCons (mVar 3) mNil))))))))) (mAsg (gNm 4) (mVar 5)) mSkip)
noncomputable def b_best : MS :=
  (mSeq (mIfS (mTest (mOp2 fGt (mCal fLen (mCons (mCall m_names (mCons (mVar 1) mNil)) mNil)) (mIx (mVar 0) (mC (.int 0))))) (mRaise "NoRoom") mSkip)
  (mSeq (mIfS (mTest (mOp2 fGt (mCall m_layings_many (mCons (mVar 0) (mCons (mVar 1) mNil))) (mC c_LAYINGS_MOST))) (mRaise "TooMany") mSkip)
  (mSeq (mExpr (mCall m_work (mCons (mVar 1) (mCons (mVar 2) (mCons (mC (.int 1)) mNil)))))
  (mSeq (mAsg (gNm 4) (mC .none))
  (mSeq (mFor (mItS (mCall m_all_layings (mCons (mVar 0) (mCons (mCall m_names (mCons (mVar 1) mNil)) mNil)))) (gNm 5) lb_best_1)
  (mRet (mVar 4)))))))
noncomputable def m_best : FSpec := mFn 6 b_best
noncomputable def ce_head_sets_1 : M := (mOp2 fAdd (mVar 5) (mTup (mCons (mVar 7) mNil)))
noncomputable def lc_head_sets_1 : M := mLc (mItR2 (mCons (mVar 6) (mCons (mVar 0) mNil))) [7] (gNm 7) mYes ce_head_sets_1
noncomputable def lb_head_sets_2 : MS :=
  (mSeq (mAsg (gNm 6) (mC (.int 0)))
  (mSeq (mIfS (mTest (mVar 5)) (mAsg (gNm 6) (mOp2 fAdd (mIx (mVar 5) (mNeg (mC (.int 1)))) (mC (.int 1)))) mSkip)
  (mExpr (mMet isLst oExt (mVar 4) (mCons lc_head_sets_1 mNil)))))
noncomputable def lb_head_sets_3 : MS :=
  (mSeq (mAsg (gNm 4) (mLstR mNil))
  (mSeq (mFor (mItS (mVar 2)) (gNm 5) lb_head_sets_2)
  (mAsg (gNm 2) (mVar 4))))
noncomputable def b_head_sets : MS :=
  (mSeq (mAsg (gNm 2) (mLst (mCons (mTup mNil) mNil)))
  (mSeq (mFor (mItR1 (mCons (mVar 1) mNil)) (gNm 3) lb_head_sets_3)
  (mRet (mVar 2))))
noncomputable def m_head_sets : FSpec := mFn 8 b_head_sets
noncomputable def lb_best_heads_1 : MS :=
  (mSeq (mAsg (gNm 8) (mTup (mCons (mIx (mCall m_run (mCons (mTup (mCons (mVar 0) (mCons (mVar 7) mNil))) (mCons (mVar 2) (mCons (mVar 3) (mCons (mVar 4) (mCons (mC (.int 0)) (mCons (mVar 5) mNil))))))) (mC (.int 2))) (mCons (mVar 7) mNil))))
  (mIfS (mOrT (mTest (mOp2 fIs (mVar 6) (mC .none))) (mTest (mOp2 fLt (mVar 8) (mVar 6)))) (mAsg (gNm 6) (mVar 8)) mSkip))
noncomputable def b_best_heads : MS :=
  (mSeq (mIfS (mNotT (mTest (mCall m_is_laying (mCons (mTup (mCons (mVar 0) (mCons (mTup (mCons (mC (.int 0)) mNil)) mNil))) (mCons (mVar 2) (mCons (mVar 3) mNil)))))) (mRaise "BadLaying") mSkip)
  (mSeq (mAsg (gNm 6) (mC .none))
  (mSeq (mFor (mItS (mCall m_head_sets (mCons (mVar 0) (mCons (mVar 1) mNil)))) (gNm 7) lb_best_heads_1)
  (mRet (mIx (mVar 6) (mC (.int 1)))))))
noncomputable def m_best_heads : FSpec := mFn 9 b_best_heads
noncomputable def lb_ring_1 : MS :=
  (mSeq (mAsg (gNm 11) (mTupK (mCons (mVar 8) (mCons (mOp2 fMod (mVar 9) (mIx (mVar 0) (mC (.int 0)))) mNil))))
  (mSeq (mIfS (mTest (mInT (mVar 11) (mVar 5))) (mSeq (mAsg (gNm 12) (mIxTk (mVar 5) (mVar 11)))
  (mRet (mTup (mCons (mVar 12) (mCons (mVar 7) (mCons (mOp2 fSub (mVar 9) (mIx (mIx (mVar 6) (mVar 12)) (mC (.int 1)))) mNil)))))) mSkip)
  (mPutT (mVar 5) (mVar 11) (mVar 7))))
noncomputable def b_ring : MS :=
  (mSeq (mAsg (gNm 5) mDictT)
  (mSeq (mAsg (gNm 6) (mIx (mCall m_run (mCons (mVar 0) (mCons (mVar 1) (mCons (mVar 2) (mCons (mVar 3) (mCons (mC (.int 0)) (mCons (mVar 4) mNil))))))) (mC (.int 0))))
  (mSeq (mFor (mItE (mCons (mVar 6) mNil)) (gTp 2 (gsCons (gNm 7) (gsCons (gTp 3 (gsCons (gNm 8) (gsCons (gNm 9) (gsCons (gNm 10) gsNil)))) gsNil))) lb_ring_1)
  (mRet (mC .none)))))
noncomputable def m_ring : FSpec := mFn 13 b_ring
noncomputable def b_turns : MS :=
  (mSeq (mAsg (gNm 5) (mIx (mCall m_run (mCons (mVar 0) (mCons (mVar 1) (mCons (mVar 2) (mCons (mVar 3) (mCons (mC (.int 0)) (mCons (mVar 4) mNil))))))) (mC (.int 2))))
  (mRet (mOp2 fDiv (mOp2 fSub (mOp2 fAdd (mVar 5) (mIx (mVar 0) (mC (.int 0)))) (mC (.int 1))) (mIx (mVar 0) (mC (.int 0))))))
noncomputable def m_turns : FSpec := mFn 6 b_turns
noncomputable def ce_number_in_1 : M := (mIn fIn id (mVar 2) (mC c_FIGURES))
noncomputable def lc_number_in_1 : M := mLc (mItS (mVar 1)) [2] (gNm 2) mYes ce_number_in_1
noncomputable def b_number_in : MS :=
  (mSeq (mAsg (gNm 1) (mVar 0))
  (mSeq (mIfS (mTest (mOp2 fEq (mSl (mVar 0) none (some (mC (.int 1)))) (mC (.str "-")))) (mAsg (gNm 1) (mSl (mVar 0) (some (mC (.int 1))) none)) mSkip)
  (mSeq (mIfS (mOrT (mTest (mOp2 fEq (mVar 1) (mC (.str "")))) (mOrT (mTest (mOp2 fGt (mCal fLen (mCons (mVar 1) mNil)) (mC (.int 2)))) (mNotT (mTest (mCal fAll (mCons lc_number_in_1 mNil)))))) (mRaise "NoText") mSkip)
  (mSeq (mIfS (mTest (mOp2 fNe (mVar 1) (mVar 0))) (mRet (mOp2 fSub (mC (.int 0)) (mCal fInt (mCons (mVar 1) mNil)))) mSkip)
  (mRet (mCal fInt (mCons (mVar 1) mNil)))))))
noncomputable def m_number_in : FSpec := mFn 3 b_number_in
noncomputable def ce__law_same_1 (self : FSpec) : M := (mCall self (mCons (mVar 2) (mCons (mVar 3) mNil)))
noncomputable def lc__law_same_1 (self : FSpec) : M := mLc (mItZ (mCons (mVar 0) (mCons (mVar 1) mNil))) [2, 3] (gTp 2 (gsCons (gNm 2) (gsCons (gNm 3) gsNil))) mYes (ce__law_same_1 self)
noncomputable def b__law_same (self : FSpec) : MS :=
  (mSeq (mIfS (mTest (mOp2 fIs (mVar 1) (mC .none))) (mRet (mOp2 fIs (mVar 0) (mC .none))) mSkip)
  (mSeq (mIfS (mTest (mIsa "bool" (mVar 1))) (mRet (mAndV (mIsa "bool" (mVar 0)) (mOp2 fEq (mVar 0) (mVar 1)))) mSkip)
  (mSeq (mIfS (mTest (mIsa "tuple" (mVar 1))) (mSeq (mIfS (mOrT (mNotT (mTest (mIsa "tuple" (mVar 0)))) (mTest (mOp2 fNe (mCal fLen (mCons (mVar 0) mNil)) (mCal fLen (mCons (mVar 1) mNil))))) (mRet (mC (.bool false))) mSkip)
  (mRet (mCal fAll (mCons (lc__law_same_1 self) mNil)))) mSkip)
  (mSeq (mIfS (mTest (mIsa "str" (mVar 1))) (mRet (mAndV (mIsa "str" (mVar 0)) (mOp2 fEq (mVar 0) (mVar 1)))) mSkip)
  (mRet (mAndV (mIsa "int" (mVar 0)) (mAndV (mNotV (mIsa "bool" (mVar 0))) (mOp2 fEq (mVar 0) (mVar 1)))))))))
noncomputable def m__law_same : Nat → FSpec
  | 0 => mStuck
  | d + 1 => mFn 4 (b__law_same (m__law_same d))
noncomputable def b__law_draw : MS :=
  (mSeq (mExpr (mMet isLst oApp (mVar 1) (mCons (mC (.int 0)) mNil)))
  (mSeq (mAsg (gNm 3) (mCal fLen (mCons (mVar 1) mNil)))
  (mSeq (mAsg (gNm 4) (mC (.int 0)))
  (mSeq (mIfS (mTest (mVar 0)) (mAsg (gNm 4) (mIx (mVar 0) (mOp2 fMod (mVar 3) (mCal fLen (mCons (mVar 0) mNil))))) mSkip)
  (mSeq (mAsg (gNm 5) (mOp2 fMod (mOp2 fAdd (mVar 4) (mOp2 fMul (mC (.int 104729)) (mVar 3))) (mC (.int 4294967291))))
  (mSeq (mAsg (gNm 5) (mOp2 fMod (mOp2 fMul (mOp2 fMod (mOp2 fMul (mVar 5) (mVar 5)) (mC (.int 4294967279))) (mC (.int 48271))) (mC (.int 4294967291))))
  (mSeq (mAsg (gNm 6) (mOp2 fMod (mOp2 fMul (mOp2 fMod (mOp2 fMul (mVar 5) (mVar 5)) (mC (.int 4294967279))) (mC (.int 69621))) (mC (.int 4294967291))))
  (mRet (mOp2 fMod (mOp2 fAdd (mOp2 fMul (mOp2 fDiv (mVar 5) (mC (.int 64))) (mC (.int 67108864))) (mOp2 fDiv (mVar 6) (mC (.int 64)))) (mVar 2))))))))))
noncomputable def m__law_draw : FSpec := mFn 7 b__law_draw
noncomputable def b__law_pick : MS :=
  (mRet (mIx (mVar 2) (mCall m__law_draw (mCons (mVar 0) (mCons (mVar 1) (mCons (mCal fLen (mCons (mVar 2) mNil)) mNil))))))
noncomputable def m__law_pick : FSpec := mFn 3 b__law_pick
noncomputable def lb__law_drum_1 : MS :=
  (mPut (mVar 5) (mCall m__law_draw (mCons (mVar 0) (mCons (mVar 1) (mCons (mVar 4) mNil)))) (mC (.int 0)))
noncomputable def b__law_drum : MS :=
  (mSeq (mAsg (gNm 4) (mOp2 fAdd (mVar 2) (mCall m__law_draw (mCons (mVar 0) (mCons (mVar 1) (mCons (mOp2 fAdd (mOp2 fSub (mVar 3) (mVar 2)) (mC (.int 1))) mNil))))))
  (mSeq (mAsg (gNm 5) mDict)
  (mSeq (mFor (mItR1 (mCons (mOp2 fAdd (mC (.int 1)) (mCall m__law_draw (mCons (mVar 0) (mCons (mVar 1) (mCons (mC (.int 3)) mNil))))) mNil)) (gNm 6) lb__law_drum_1)
  (mRet (mTup (mCons (mVar 4) (mCons (mCal fTuple (mCons (mCalW oSorted2 (mCons (mVar 5) mNil)) mNil)) mNil)))))))
noncomputable def m__law_drum : FSpec := mFn 7 b__law_drum
noncomputable def ce__law_read_1 : M := (mOp2 fMod (mOp2 fAdd (mVar 2) (mVar 3)) (mIx (mVar 0) (mC (.int 0))))
noncomputable def lc__law_read_1 : M := mLc (mItS (mIx (mVar 0) (mC (.int 1)))) [3] (gNm 3) mYes ce__law_read_1
noncomputable def wt__law_read_2 : MT := (mTest (mIn fNotIn (fun k => !k) (mVar 1) lc__law_read_1))
noncomputable def wb__law_read_2 : MS :=
  (mAsg (gNm 2) (mOp2 fAdd (mVar 2) (mC (.int 1))))
noncomputable def b__law_read : MS :=
  (mSeq (mWhile wt__law_read_2 wb__law_read_2)
  (mRet (mVar 2)))
noncomputable def m__law_read : FSpec := mFn 4 b__law_read
noncomputable def b__law_order : MS :=
  (mSeq (mAsg (gNm 4) (mCall m__law_draw (mCons (mVar 0) (mCons (mVar 1) (mCons (mC (.int 9)) mNil)))))
  (mSeq (mIfS (mOrT (mTest (mOp2 fEq (mVar 4) (mC (.int 0)))) (mAndT (mNotT (mTest (mVar 2))) (mTest (mOp2 fLt (mVar 4) (mC (.int 6)))))) (mRet (mTup (mCons (mC (.str "stop")) mNil))) mSkip)
  (mSeq (mIfS (mOrT (mTest (mOp2 fGt (mVar 4) (mC (.int 6)))) (mNotT (mTest (mVar 2)))) (mRet (mTup (mCons (mC (.str "less")) (mCons (mCall m__law_pick (mCons (mVar 0) (mCons (mVar 1) (mCons (mVar 3) mNil)))) (mCons (mCall m__law_pick (mCons (mVar 0) (mCons (mVar 1) (mCons (mVar 3) mNil)))) mNil))))) mSkip)
  (mSeq (mAsg (gNm 5) (mIx (mLst (mCons (mC (.str "put")) (mCons (mC (.str "add")) (mCons (mC (.str "add")) (mCons (mC (.str "sub")) (mCons (mC (.str "sub")) (mCons (mC (.str "save")) mNil))))))) (mOp2 fSub (mVar 4) (mC (.int 1)))))
  (mRet (mTup (mCons (mVar 5) (mCons (mCall m__law_pick (mCons (mVar 0) (mCons (mVar 1) (mCons (mVar 2) mNil)))) (mCons (mCall m__law_pick (mCons (mVar 0) (mCons (mVar 1) (mCons (mVar 3) mNil)))) mNil)))))))))
noncomputable def m__law_order : FSpec := mFn 6 b__law_order
noncomputable def lb__law_program_1 : MS :=
  (mSeq (mIfS (mTest (mIx (mVar 7) (mVar 11))) (mAsg (gNm 13) (mCall m__law_pick (mCons (mVar 0) (mCons (mVar 1) (mCons (mLst (mCons (mC (.int 0)) (mCons (mC (.int 1)) (mCons (mNeg (mC (.int 1))) (mCons (mC (.int 7)) (mCons (mNeg (mC (.int 99))) (mCons (mC (.int 99)) mNil))))))) mNil))))) (mAsg (gNm 13) (mCall m__law_order (mCons (mVar 0) (mCons (mVar 1) (mCons (mVar 8) (mCons (mVar 9) mNil)))))))
  (mAsg (gNm 10) (mOp2 fAdd (mVar 10) (mTup (mCons (mTup (mCons (mVar 12) (mCons (mVar 13) mNil))) mNil)))))
noncomputable def ce__law_program_2 : M := (mVar 12)
noncomputable def ct__law_program_2 : MT := (mNotT (mTest (mIx (mVar 7) (mVar 11))))
noncomputable def lc__law_program_2 : M := mLc (mItE (mCons (mVar 6) mNil)) [11, 12] (gTp 2 (gsCons (gNm 11) (gsCons (gNm 12) gsNil))) ct__law_program_2 ce__law_program_2
noncomputable def ce__law_program_3 : M := (mVar 12)
noncomputable def ct__law_program_3 : MT := (mTest (mIx (mVar 7) (mVar 11)))
noncomputable def lc__law_program_3 : M := mLc (mItE (mCons (mVar 6) mNil)) [11, 12] (gTp 2 (gsCons (gNm 11) (gsCons (gNm 12) gsNil))) ct__law_program_3 ce__law_program_3
noncomputable def ce__law_program_4 : M := (mOp2 fEq (mCall m__law_draw (mCons (mVar 0) (mCons (mVar 1) (mCons (mC (.int 3)) mNil)))) (mC (.int 0)))
noncomputable def lc__law_program_4 : M := mLcR (mItR1 (mCons (mVar 4) mNil)) [11] (gNm 11) mYes ce__law_program_4
noncomputable def ce__law_program_5 : M := (mIx (mVar 3) (mOp2 fMul (mVar 11) (mVar 5)))
noncomputable def lc__law_program_5 : M := mLc (mItR1 (mCons (mVar 4) mNil)) [11] (gNm 11) mYes ce__law_program_5
noncomputable def b__law_program : MS :=
  (mSeq (mAsg (gNm 3) (mC (.str "abcdefghijklmnopqrstuvwxyz")))
  (mSeq (mAsg (gNm 4) (mOp2 fAdd (mC (.int 2)) (mCall m__law_draw (mCons (mVar 0) (mCons (mVar 1) (mCons (mOp2 fSub (mVar 2) (mC (.int 1))) mNil))))))
  (mSeq (mAsg (gNm 5) (mOp2 fAdd (mC (.int 1)) (mCall m__law_draw (mCons (mVar 0) (mCons (mVar 1) (mCons (mC (.int 2)) mNil))))))
  (mSeq (mAsg (gNm 6) lc__law_program_5)
  (mSeq (mAsg (gNm 7) lc__law_program_4)
  (mSeq (mPut (mVar 7) (mCall m__law_draw (mCons (mVar 0) (mCons (mVar 1) (mCons (mVar 4) mNil)))) (mC (.bool false)))
  (mSeq (mAsg (gNm 8) lc__law_program_3)
  (mSeq (mAsg (gNm 9) lc__law_program_2)
  (mSeq (mAsg (gNm 10) (mTup mNil))
  (mSeq (mFor (mItE (mCons (mVar 6) mNil)) (gTp 2 (gsCons (gNm 11) (gsCons (gNm 12) gsNil))) lb__law_program_1)
  (mRet (mVar 10))))))))))))
noncomputable def m__law_program : FSpec := mFn 14 b__law_program
noncomputable def ce__law_orders_1 : M := (mVar 1)
noncomputable def ct__law_orders_1 : MT := (mTest (mIsa "tuple" (mVar 2)))
noncomputable def lc__law_orders_1 : M := mLc (mItS (mVar 0)) [1, 2] (gTp 2 (gsCons (gNm 1) (gsCons (gNm 2) gsNil))) ct__law_orders_1 ce__law_orders_1
noncomputable def b__law_orders : MS :=
  (mRet lc__law_orders_1)
noncomputable def m__law_orders : FSpec := mFn 3 b__law_orders
noncomputable def lb__law_laying_1 : MS :=
  (mSeq (mAsg (gNm 8) (mMet isLst oPop (mVar 4) (mCons (mCall m__law_draw (mCons (mVar 0) (mCons (mVar 1) (mCons (mCal fLen (mCons (mVar 4) mNil)) mNil)))) mNil)))
  (mAsg (gNm 5) (mOp2 fAdd (mVar 5) (mTup (mCons (mTup (mCons (mVar 6) (mCons (mVar 8) mNil))) mNil)))))
noncomputable def b__law_laying : MS :=
  (mSeq (mPar 4 5 (mCons (mLstRg1R (mIx (mVar 2) (mC (.int 0)))) (mCons (mTup mNil) mNil)))
  (mSeq (mFor (mItS (mVar 3)) (gTp 2 (gsCons (gNm 6) (gsCons (gNm 7) gsNil))) lb__law_laying_1)
  (mRet (mVar 5))))
noncomputable def m__law_laying : FSpec := mFn 9 b__law_laying
end Dw
namespace Dw
open PySem PySem.Spec PyProof.Rows L2
local macro_rules | `(tactic| walk_at "dw") => `(tactic| (repeat (first
  | ((with_reducible refine' w_var ?e ?_); (case e => rfl))
  | with_reducible refine w_c ?_
  | with_reducible refine s_seq ?_
  | with_reducible refine s_set ?_
  | with_reducible refine w_op2 ?_
  | with_reducible refine w_add ?_
  | with_reducible refine w_sub ?_
  | with_reducible refine w_eq ?_
  | with_reducible refine w_ne ?_
  | with_reducible refine w_lt ?_
  | with_reducible refine w_gt ?_
  | with_reducible refine w_le ?_
  | with_reducible refine w_ge ?_
  | with_reducible refine w_eqb ?_
  | with_reducible refine w_neb ?_
  | with_reducible refine w_cons ?_
  | with_reducible refine w_isN ?_
  | with_reducible refine w_isNotN ?_
  | with_reducible refine w_nil ?_
  | with_reducible refine w_call ?_
  | with_reducible refine w_calW ?_
  | with_reducible refine w_cal ?_
  | with_reducible refine w_ix ?_
  | with_reducible refine w_sl ?_
  | with_reducible refine w_pn ?_
  | with_reducible refine w_rev ?_
  | with_reducible refine w_ps ?_
  | with_reducible refine w_chain ?_
  | with_reducible refine w_tup ?_
  | with_reducible refine w_lst ?_
  | with_reducible refine w_lstR ?_
  | with_reducible refine w_dict ?_
  | with_reducible refine w_isa ?_
  | with_reducible refine w_itR1 ?_
  | with_reducible refine w_itS ?_
  | ((with_reducible refine' w_ixt0 ?e ?_); (case e => rfl))
  | ((with_reducible refine' w_ixl0 ?e ?_); (case e => rfl))
  | ((with_reducible refine' w_ixt ?e ?_); (case e => rfl))
  | ((with_reducible refine' w_ixl ?e ?_); (case e => rfl))
  | with_reducible refine w_itR2 ?_
  | with_reducible refine w_itZ ?_
  | with_reducible refine w_itE ?_
  | with_reducible refine w_lc ?_
  | with_reducible refine s_par ?_
  | with_reducible refine s_par3 ?_
  | with_reducible refine s_asg ?_
  | with_reducible refine s_put ?_
  | with_reducible refine s_for ?_
  | with_reducible refine s_if ?_
  | with_reducible refine w_test ?_
  | with_reducible refine w_andT ?_
  | with_reducible refine w_orT ?_
  | with_reducible refine w_notT ?_
  | with_reducible refine w_ifE ?_
  | with_reducible refine w_andV ?_
  | with_reducible refine w_orV ?_
  | with_reducible refine w_notV ?_
  | with_reducible refine w_neg ?_
  | with_reducible refine s_ret ?_
  | with_reducible refine s_retN ?_
  | with_reducible refine s_skip ?_
  | with_reducible refine s_brk ?_
  | with_reducible refine s_cnt ?_
  | with_reducible refine s_expr ?_
  | with_reducible refine w_met ?_
  | with_reducible refine wp_ok.mpr ?_
  | with_reducible refine wps_rt.mpr ?_
  | with_reducible refine wps_nx.mpr ?_
  | with_reducible refine ite_t ?_
  | with_reducible refine ite_f ?_
  | ((with_reducible refine' w_mod ?e ?_); (case e => first | assumption | omega))
  | ((with_reducible refine' w_div ?e ?_); (case e => omega))
  | ((with_reducible refine' w_mul ?e ?_); (case e => omega))
  | ((with_reducible refine' Exists.intro _ (And.intro ?e ?_)); (case e => rfl))
  | ((with_reducible refine' Exists.intro _ (Exists.intro _ (And.intro ?e ?_))); (case e => rfl))
  | ((with_reducible refine' Exists.intro _ (Exists.intro _ (Exists.intro _ (And.intro ?e ?_)))); (case e => rfl))
  | ((with_reducible refine' ite_yes ?e ?_); (case e => rfl))
  | ((with_reducible refine' ite_no ?e ?_); (case e => rfl))
  | ((with_reducible refine And.intro ?e ?_); (case e => first | rfl | exact small_len _ (Nat.le_of_ble_eq_true rfl))))))
theorem draw_ok (ns : List Int) (zs : List D) (hs : MH) (many : Int) (hm : 0 < many) (hz : zs.length < 1000000) : ∃ r : Int, 0 ≤ r ∧ r < many ∧
    m__law_draw [.d (.list (iD ns)), .ref 0, .d (.int many)] (.lst zs :: hs) = .ok (.d (.int r)) (.lst (zs ++ [.int 0]) :: hs) := by
  suffices H : wp (m__law_draw [.d (.list (iD ns)), .ref 0, .d (.int many)] (.lst zs :: hs)) (fun w h => ∃ r : Int, 0 ≤ r ∧ r < many ∧ w = .d (.int r) ∧ h = .lst (zs ++ [.int 0]) :: hs) by
    obtain ⟨w, h, e, r, h1, h2, rfl, rfl⟩ := wp_get H
    exact ⟨r, h1, h2, e⟩
  have hsz : zs.length < sizeLine := by rw [sizeLine_eq]; omega
  refine wp_fn ?_
  unfold b__law_draw
  walk_at "dw"
  refine w_app0 hsz ?_
  walk_at "dw"
  refine ite_b (fun hb => ?_) (fun hb => ?_)
  · have hne : 0 < ns.length := by
      cases ns with
      | nil => simp at hb
      | cons _ _ => simp
    have hlen : (0 : Int) < ((iD ns).length : Nat) := by simpa using hne
    walk_at "dw"
    obtain ⟨d, hd, _, e⟩ := atI_get (xs := iD ns) (Int.emod_nonneg _ (Int.ne_of_gt hlen)) (Int.emod_lt_of_pos (((zs ++ [PyData.int 0]).length : Nat) : Int) hlen)
    obtain ⟨c, _, rfl⟩ := List.mem_map.mp hd
    refine w_ixl e ?_
    walk_at "dw"
    rw [retW_town0, wp_ok]
    exact ⟨_, Int.emod_nonneg _ (Int.ne_of_gt hm), Int.emod_lt_of_pos _ hm, rfl, rfl⟩
  · walk_at "dw"
    rw [retW_town0, wp_ok]
    exact ⟨_, Int.emod_nonneg _ (Int.ne_of_gt hm), Int.emod_lt_of_pos _ hm, rfl, rfl⟩
theorem w_draw {Q : W → MH → Prop} {ns : List Int} {zs : List D} {hs : MH} {many : Int} (hm : 0 < many) (hz : zs.length < 1000000) (q : ∀ r : Int, 0 ≤ r → r < many → Q (.d (.int r)) (.lst (zs ++ [.int 0]) :: hs)) :
    wp (m__law_draw [.d (.list (iD ns)), .ref 0, .d (.int many)] (.lst zs :: hs)) Q := by
  obtain ⟨r, h0, h1, e⟩ := draw_ok ns zs hs many hm hz
  exact w_of e (q r h0 h1)
theorem w_pick {Q : W → MH → Prop} {ns : List Int} {zs ds : List D} {hs : MH} (hm : 0 < ds.length) (hz : zs.length < 1000000) (q : ∀ d ∈ ds, Q (.d d) (.lst (zs ++ [.int 0]) :: hs)) :
    wp (m__law_pick [.d (.list (iD ns)), .ref 0, .d (.list ds)] (.lst zs :: hs)) Q := by
  refine wp_fn ?_
  unfold b__law_pick
  walk_at "dw"
  refine w_draw (by omega) hz fun r h0 h1 => ?_
  obtain ⟨d, hd, _, e⟩ := atI_get (xs := ds) h0 h1
  refine w_ixl e ?_
  rw [retW_town0, wp_ok]
  exact q d hd
theorem w_drum {Q : W → MH → Prop} {ns : List Int} {zs : List D} {hs : MH} {lo hi : Int} (hl : 0 < lo) (hh : lo ≤ hi) (hz : zs.length < 900000)
    (q : ∀ sp heads zs', lo ≤ sp → sp ≤ hi → Drum sp heads → zs'.length ≤ zs.length + 5 → Q (.d (drumD sp heads)) (.lst zs' :: hs)) :
    wp (m__law_drum [.d (.list (iD ns)), .ref 0, .d (.int lo), .d (.int hi)] (.lst zs :: hs)) Q := by
  refine wp_fn ?_
  unfold b__law_drum
  walk_at "dw"
  refine w_draw (by omega) (by omega) fun r h0 h1 => ?_
  walk_at "dw"
  refine w_draw (by omega) (by simp; omega) fun r2 h02 h12 => ?_
  walk_at "dw"
  refine ⟨by omega, ?_⟩
  refine loop_inv (fun i ρ h => ∃ zs' kvs ks v, ρ = [some (.d (.list (iD ns))), some (.ref 0), some (.d (.int lo)), some (.d (.int hi)), some (.d (.int (lo + r))), some (.ref (hs.length + 1)), v] ∧ h = .lst zs' :: (hs ++ [.dk kvs]) ∧
    KeysI kvs ks ∧ ks.Nodup ∧ (∀ k ∈ ks, 0 ≤ k ∧ k < lo + r) ∧ zs'.length = zs.length + 2 + i ∧ ks.length ≤ i ∧ (0 < i → ks ≠ [])) ?_ (fun _ _ _ _ _ => any_keep) ?_ ?_
  · exact ⟨_, [], [], none, rfl, rfl, rfl, List.nodup_nil, fun k hk => (List.not_mem_nil hk).elim, by simp, Nat.le_refl _, fun z => absurd z (by decide)⟩
  · rintro i w ρ h ew ⟨zs', kvs, ks, v, rfl, rfl, hk, nd, hr, hz', hlk, hne⟩
    obtain ⟨hi', rfl⟩ := rng_at ew
    refine ⟨_, rfl, ?_⟩
    unfold lb__law_drum_1
    walk_at "dw"
    refine w_draw (by omega) (by omega) fun r3 h03 h13 => ?_
    obtain ⟨ks', hk', nd', hm', hl'⟩ := hk.put (k := r3) (d := .int 0) nd
    refine ⟨.lst (zs' ++ [.int 0]) :: (hs ++ [.dk (putD kvs (.inl r3) (.int 0))]), ?_, ?_⟩
    · unfold putW
      simp only [dk_at, rd, Option.bind_some, keyD]
      have : kvs.length < sizeLine := by
        have := congrArg List.length hk
        simp at this
        rw [sizeLine_eq]
        omega
      rw [if_pos this, dk_set]
    · refine ⟨_, _, ks', _, rfl, rfl, hk', nd', fun k hk2 => ?_, by simp; omega, by omega, fun _ z => ?_⟩
      · rcases (hm' k).mp hk2 with rfl | z
        · omega
        · exact hr k z
      · subst z
        exact absurd ((hm' r3).mpr (.inl rfl)) (by simp)
  · rintro ρ h ⟨zs', kvs, ks, v, rfl, rfl, hk, nd, hr, hz', hlk, hne⟩
    rw [rng_len] at hz' hlk hne
    walk_at "dw"
    refine w_sortedK dk_at hk (by omega) ?_
    walk_at "dw"
    rw [retW_town, wp_ok]
    have hl2 : (sortI ks).length = ks.length := (sortI_perm ks).length_eq
    refine q (lo + r) (sortI ks) zs' (by omega) (by omega) ⟨fun z => ?_, by omega, fun x hx => hr x ((sortI_perm ks).mem_iff.mp hx), sortI_strict nd⟩ (by omega)
    have := hne (by omega)
    rw [z] at hl2
    exact this (List.length_eq_zero_iff.mp hl2.symm)
end Dw
namespace Dw
open PySem PySem.Spec PyProof.Rows L2
local macro_rules | `(tactic| walk_at "dw") => `(tactic| (repeat (first
  | ((with_reducible refine' w_var ?e ?_); (case e => rfl))
  | with_reducible refine w_c ?_
  | with_reducible refine s_seq ?_
  | with_reducible refine s_set ?_
  | with_reducible refine w_op2 ?_
  | with_reducible refine w_add ?_
  | with_reducible refine w_sub ?_
  | with_reducible refine w_eq ?_
  | with_reducible refine w_ne ?_
  | with_reducible refine w_lt ?_
  | with_reducible refine w_gt ?_
  | with_reducible refine w_le ?_
  | with_reducible refine w_ge ?_
  | with_reducible refine w_eqb ?_
  | with_reducible refine w_neb ?_
  | with_reducible refine w_cons ?_
  | with_reducible refine w_isN ?_
  | with_reducible refine w_isNotN ?_
  | with_reducible refine w_nil ?_
  | with_reducible refine w_call ?_
  | with_reducible refine w_calW ?_
  | with_reducible refine w_cal ?_
  | with_reducible refine w_ix ?_
  | with_reducible refine w_sl ?_
  | with_reducible refine w_pn ?_
  | with_reducible refine w_rev ?_
  | with_reducible refine w_ps ?_
  | with_reducible refine w_chain ?_
  | with_reducible refine w_tup ?_
  | with_reducible refine w_lst ?_
  | with_reducible refine w_lstR ?_
  | with_reducible refine w_dict ?_
  | with_reducible refine w_isa ?_
  | with_reducible refine w_itR1 ?_
  | with_reducible refine w_itS ?_
  | ((with_reducible refine' w_ixt0 ?e ?_); (case e => rfl))
  | ((with_reducible refine' w_ixl0 ?e ?_); (case e => rfl))
  | ((with_reducible refine' w_ixt ?e ?_); (case e => rfl))
  | ((with_reducible refine' w_ixl ?e ?_); (case e => rfl))
  | with_reducible refine w_itR2 ?_
  | with_reducible refine w_itZ ?_
  | with_reducible refine w_itE ?_
  | with_reducible refine w_lc ?_
  | with_reducible refine s_par ?_
  | with_reducible refine s_par3 ?_
  | with_reducible refine s_asg ?_
  | with_reducible refine s_put ?_
  | with_reducible refine s_for ?_
  | with_reducible refine s_if ?_
  | with_reducible refine w_test ?_
  | with_reducible refine w_andT ?_
  | with_reducible refine w_orT ?_
  | with_reducible refine w_notT ?_
  | with_reducible refine w_ifE ?_
  | with_reducible refine w_andV ?_
  | with_reducible refine w_orV ?_
  | with_reducible refine w_notV ?_
  | with_reducible refine w_neg ?_
  | with_reducible refine s_ret ?_
  | with_reducible refine s_retN ?_
  | with_reducible refine s_skip ?_
  | with_reducible refine s_brk ?_
  | with_reducible refine s_cnt ?_
  | with_reducible refine s_expr ?_
  | with_reducible refine w_met ?_
  | with_reducible refine wp_ok.mpr ?_
  | with_reducible refine wps_rt.mpr ?_
  | with_reducible refine wps_nx.mpr ?_
  | with_reducible refine ite_t ?_
  | with_reducible refine ite_f ?_
  | ((with_reducible refine' w_mod ?e ?_); (case e => first | assumption | omega))
  | ((with_reducible refine' w_div ?e ?_); (case e => omega))
  | ((with_reducible refine' w_mul ?e ?_); (case e => omega))
  | ((with_reducible refine' Exists.intro _ (And.intro ?e ?_)); (case e => rfl))
  | ((with_reducible refine' Exists.intro _ (Exists.intro _ (And.intro ?e ?_))); (case e => rfl))
  | ((with_reducible refine' Exists.intro _ (Exists.intro _ (Exists.intro _ (And.intro ?e ?_)))); (case e => rfl))
  | ((with_reducible refine' ite_yes ?e ?_); (case e => rfl))
  | ((with_reducible refine' ite_no ?e ?_); (case e => rfl))
  | ((with_reducible refine And.intro ?e ?_); (case e => first | rfl | exact small_len _ (Nat.le_of_ble_eq_true rfl))))))
theorem read_lc {sp : Int} {heads : List Int} {spot time : Int} {h : MH} (hp : 0 < sp) (hl : heads.length ≤ 1000) (v : Option W) :
    lc_read_time_1 [some (.d (drumD sp heads)), some (.d (.int spot)), some (.d (.int time)), v] h = .ok (.d (.list (iD (heads.map (fun hd => time + (spot - hd - time) % sp))))) h := by
  refine wp_congr_of ?_
  unfold lc_read_time_1 drumD
  walk_at "dw"
  refine w_mapI (fun hd => .int (time + (spot - hd - time) % sp)) trivial (by omega) (fun x _ => ⟨_, rfl, ?_⟩) ?_
  · unfold ce_read_time_1
    walk_at "dw"
    rfl
  · simp [iD]
theorem read_ok {sp : Int} {heads : List Int} {spot time : Int} {h : MH} (hp : 0 < sp) (hl : heads.length ≤ 1000) (hne : heads ≠ []) :
    m_read_time [.d (drumD sp heads), .d (.int spot), .d (.int time)] h = .ok (.d (.int (readT sp heads spot time))) h := by
  refine wp_congr_of (wp_fn ?_)
  unfold b_read_time
  walk_at "dw"
  refine w_of (read_lc hp hl _) ?_
  walk_at "dw"
  cases heads with
  | nil => exact absurd rfl hne
  | cons x xs =>
    refine ⟨_, fMin_l _ _, ?_⟩
    rw [retW_same, wp_ok]
    exact ⟨rfl, rfl⟩
end Dw
namespace Dw
open PySem PySem.Spec PyProof.Rows L2
local macro_rules | `(tactic| walk_at "dw") => `(tactic| (repeat (first
  | ((with_reducible refine' w_var ?e ?_); (case e => rfl))
  | with_reducible refine w_c ?_
  | with_reducible refine s_seq ?_
  | with_reducible refine s_set ?_
  | with_reducible refine w_op2 ?_
  | with_reducible refine w_add ?_
  | with_reducible refine w_sub ?_
  | with_reducible refine w_eq ?_
  | with_reducible refine w_ne ?_
  | with_reducible refine w_lt ?_
  | with_reducible refine w_gt ?_
  | with_reducible refine w_le ?_
  | with_reducible refine w_ge ?_
  | with_reducible refine w_eqb ?_
  | with_reducible refine w_neb ?_
  | with_reducible refine w_cons ?_
  | with_reducible refine w_isN ?_
  | with_reducible refine w_isNotN ?_
  | with_reducible refine w_nil ?_
  | with_reducible refine w_call ?_
  | with_reducible refine w_calW ?_
  | with_reducible refine w_cal ?_
  | with_reducible refine w_ix ?_
  | with_reducible refine w_sl ?_
  | with_reducible refine w_pn ?_
  | with_reducible refine w_rev ?_
  | with_reducible refine w_ps ?_
  | with_reducible refine w_chain ?_
  | with_reducible refine w_tup ?_
  | with_reducible refine w_lst ?_
  | with_reducible refine w_lstR ?_
  | with_reducible refine w_dict ?_
  | with_reducible refine w_isa ?_
  | with_reducible refine w_itR1 ?_
  | with_reducible refine w_itS ?_
  | ((with_reducible refine' w_ixt0 ?e ?_); (case e => rfl))
  | ((with_reducible refine' w_ixl0 ?e ?_); (case e => rfl))
  | ((with_reducible refine' w_ixt ?e ?_); (case e => rfl))
  | ((with_reducible refine' w_ixl ?e ?_); (case e => rfl))
  | with_reducible refine w_itR2 ?_
  | with_reducible refine w_itZ ?_
  | with_reducible refine w_itE ?_
  | with_reducible refine w_lc ?_
  | with_reducible refine s_par ?_
  | with_reducible refine s_par3 ?_
  | with_reducible refine s_asg ?_
  | with_reducible refine s_put ?_
  | with_reducible refine s_for ?_
  | with_reducible refine s_if ?_
  | with_reducible refine w_test ?_
  | with_reducible refine w_andT ?_
  | with_reducible refine w_orT ?_
  | with_reducible refine w_notT ?_
  | with_reducible refine w_ifE ?_
  | with_reducible refine w_andV ?_
  | with_reducible refine w_orV ?_
  | with_reducible refine w_notV ?_
  | with_reducible refine w_neg ?_
  | with_reducible refine s_ret ?_
  | with_reducible refine s_retN ?_
  | with_reducible refine s_skip ?_
  | with_reducible refine s_brk ?_
  | with_reducible refine s_cnt ?_
  | with_reducible refine s_expr ?_
  | with_reducible refine w_met ?_
  | with_reducible refine wp_ok.mpr ?_
  | with_reducible refine wps_rt.mpr ?_
  | with_reducible refine wps_nx.mpr ?_
  | with_reducible refine ite_t ?_
  | with_reducible refine ite_f ?_
  | ((with_reducible refine' w_mod ?e ?_); (case e => first | assumption | omega))
  | ((with_reducible refine' w_div ?e ?_); (case e => omega))
  | ((with_reducible refine' w_mul ?e ?_); (case e => omega))
  | ((with_reducible refine' Exists.intro _ (And.intro ?e ?_)); (case e => rfl))
  | ((with_reducible refine' Exists.intro _ (Exists.intro _ (And.intro ?e ?_))); (case e => rfl))
  | ((with_reducible refine' Exists.intro _ (Exists.intro _ (Exists.intro _ (And.intro ?e ?_)))); (case e => rfl))
  | ((with_reducible refine' ite_yes ?e ?_); (case e => rfl))
  | ((with_reducible refine' ite_no ?e ?_); (case e => rfl))
  | ((with_reducible refine And.intro ?e ?_); (case e => first | rfl | exact small_len _ (Nat.le_of_ble_eq_true rfl))))))
theorem long_ok {sp : Int} {heads : List Int} {h : MH} (hl : heads.length ≤ 1000) (hne : heads ≠ []) :
    m_longest_wait [.d (drumD sp heads)] h = .ok (.d (.int (longW sp heads))) h := by
  refine wp_congr_of (wp_fn ?_)
  unfold b_longest_wait drumD
  cases heads with
  | nil => exact absurd rfl hne
  | cons x xs =>
  walk_at "dw"
  refine w_addt (by simp; have := small_len 1001; simp at hl; rw [sizeLine_eq]; omega) ?_
  walk_at "dw"
  have el : lc_longest_wait_1 [some (.d (drumD sp (x :: xs))), some (.d (.tuple (iD (x :: xs) ++ iD [x + sp]))), none, none] h = .ok (.d (.list (iD (gapsOf sp (x :: xs))))) h := by
    refine wp_congr_of ?_
    unfold lc_longest_wait_1
    walk_at "dw"
    have e1 : cutD (iD (x :: xs) ++ iD [x + sp]) none (some (-1)) = iD (x :: xs) := by rw [cut_init]; exact List.dropLast_concat
    have e2 : cutD (iD (x :: xs) ++ iD [x + sp]) (some 1) none = iD (xs ++ [x + sp]) := by rw [cut_tail]; simp [iD]
    rw [show (-(1 : Int)) = -1 from rfl, e1, e2]
    refine w_mapZ (fun p => .int (p.2 - p.1)) trivial (by omega) (fun p _ => ⟨_, rfl, ?_⟩) ?_
    · unfold ce_longest_wait_1
      walk_at "dw"
      rfl
    · simp [iD, gapsOf]
  refine w_of el ?_
  walk_at "dw"
  have hg : ∃ n ns, gapsOf sp (x :: xs) = n :: ns := by
    unfold gapsOf
    cases xs with
    | nil => exact ⟨_, _, rfl⟩
    | cons y ys => exact ⟨_, _, rfl⟩
  obtain ⟨n, ns, eg⟩ := hg
  rw [eg]
  refine ⟨_, fMax_l _ _, ?_⟩
  walk_at "dw"
  rw [retW_same, wp_ok]
  refine ⟨?_, rfl⟩
  unfold longW
  rw [eg]
end Dw
namespace Dw
open PySem PySem.Spec PyProof.Rows L2
local macro_rules | `(tactic| walk_at "dw") => `(tactic| (repeat (first
  | ((with_reducible refine' w_var ?e ?_); (case e => rfl))
  | with_reducible refine w_c ?_
  | with_reducible refine s_seq ?_
  | with_reducible refine s_set ?_
  | with_reducible refine w_op2 ?_
  | with_reducible refine w_add ?_
  | with_reducible refine w_sub ?_
  | with_reducible refine w_eq ?_
  | with_reducible refine w_ne ?_
  | with_reducible refine w_lt ?_
  | with_reducible refine w_gt ?_
  | with_reducible refine w_le ?_
  | with_reducible refine w_ge ?_
  | with_reducible refine w_eqb ?_
  | with_reducible refine w_neb ?_
  | with_reducible refine w_cons ?_
  | with_reducible refine w_isN ?_
  | with_reducible refine w_isNotN ?_
  | with_reducible refine w_nil ?_
  | with_reducible refine w_call ?_
  | with_reducible refine w_calW ?_
  | with_reducible refine w_cal ?_
  | with_reducible refine w_ix ?_
  | with_reducible refine w_sl ?_
  | with_reducible refine w_pn ?_
  | with_reducible refine w_rev ?_
  | with_reducible refine w_ps ?_
  | with_reducible refine w_chain ?_
  | with_reducible refine w_tup ?_
  | with_reducible refine w_lst ?_
  | with_reducible refine w_lstR ?_
  | with_reducible refine w_dict ?_
  | with_reducible refine w_isa ?_
  | with_reducible refine w_itR1 ?_
  | with_reducible refine w_itS ?_
  | ((with_reducible refine' w_ixt0 ?e ?_); (case e => rfl))
  | ((with_reducible refine' w_ixl0 ?e ?_); (case e => rfl))
  | ((with_reducible refine' w_ixt ?e ?_); (case e => rfl))
  | ((with_reducible refine' w_ixl ?e ?_); (case e => rfl))
  | with_reducible refine w_itR2 ?_
  | with_reducible refine w_itZ ?_
  | with_reducible refine w_itE ?_
  | with_reducible refine w_lc ?_
  | with_reducible refine s_par ?_
  | with_reducible refine s_par3 ?_
  | with_reducible refine s_asg ?_
  | with_reducible refine s_put ?_
  | with_reducible refine s_for ?_
  | with_reducible refine s_if ?_
  | with_reducible refine w_test ?_
  | with_reducible refine w_andT ?_
  | with_reducible refine w_orT ?_
  | with_reducible refine w_notT ?_
  | with_reducible refine w_ifE ?_
  | with_reducible refine w_andV ?_
  | with_reducible refine w_orV ?_
  | with_reducible refine w_notV ?_
  | with_reducible refine w_neg ?_
  | with_reducible refine s_ret ?_
  | with_reducible refine s_retN ?_
  | with_reducible refine s_skip ?_
  | with_reducible refine s_brk ?_
  | with_reducible refine s_cnt ?_
  | with_reducible refine s_expr ?_
  | with_reducible refine w_met ?_
  | with_reducible refine wp_ok.mpr ?_
  | with_reducible refine wps_rt.mpr ?_
  | with_reducible refine wps_nx.mpr ?_
  | with_reducible refine ite_t ?_
  | with_reducible refine ite_f ?_
  | ((with_reducible refine' w_mod ?e ?_); (case e => first | assumption | omega))
  | ((with_reducible refine' w_div ?e ?_); (case e => omega))
  | ((with_reducible refine' w_mul ?e ?_); (case e => omega))
  | ((with_reducible refine' Exists.intro _ (And.intro ?e ?_)); (case e => rfl))
  | ((with_reducible refine' Exists.intro _ (Exists.intro _ (And.intro ?e ?_))); (case e => rfl))
  | ((with_reducible refine' Exists.intro _ (Exists.intro _ (Exists.intro _ (And.intro ?e ?_)))); (case e => rfl))
  | ((with_reducible refine' ite_yes ?e ?_); (case e => rfl))
  | ((with_reducible refine' ite_no ?e ?_); (case e => rfl))
  | ((with_reducible refine And.intro ?e ?_); (case e => first | rfl | exact small_len _ (Nat.le_of_ble_eq_true rfl))))))
/-! times_of -/
theorem times_ok {sp : Int} {hd : List Int} (d : Drum sp hd) {s a b : Int} {h : MH} (hb : b - a ≤ 1000000) :
    m_times_of [.d (drumD sp hd), .d (.int s), .d (.int a), .d (.int b)] h = .ok (.d (.tuple (iD (beats (under sp hd s) a b)))) h := by
  refine wp_congr_of (wp_fn ?_)
  unfold b_times_of
  walk_at "dw"
  refine w_of (read_ok d.pos d.short d.ne) ?_
  walk_at "dw"
  have hp := d.pos
  refine while_inv (n := (b - readT sp hd s a).toNat) (fun k ρ h' => ∃ t a' done, k = (b - t).toNat ∧ ρ = [some (.d (drumD sp hd)), some (.d (.int s)), some (.d (.int a)), some (.d (.int b)), some (.ref h.length), some (.d (.int t))] ∧ h' = h ++ [.lst (iD done)] ∧
    First (under sp hd s) a' t ∧ beats (under sp hd s) a b = done ++ beats (under sp hd s) a' b) ⟨_, a, [], rfl, rfl, rfl, read_first hp d.ne s a, rfl⟩ ?_
  rintro k ρ h' ⟨t, a', done, rfl, rfl, rfl, hf, hb'⟩
  unfold wt_times_of_1
  walk_at "dw"
  refine ite_b (fun hc => ?_) (fun hc => ?_)
  · have hlt : t < b := of_decide_eq_true hc
    have hdl : done.length < sizeLine := by
      have h1 := beats_len (p := under sp hd s) (a := a) (b := b)
      rw [hb', List.length_append] at h1
      rw [sizeLine_eq]
      omega
    unfold wb_times_of_1
    walk_at "dw"
    refine ⟨isLst_at app_at, ?_⟩
    walk_at "dw"
    refine w_app app_at (by rw [List.length_map]; exact hdl) ?_
    walk_at "dw"
    refine w_of (read_ok d.pos d.short d.ne) ?_
    have hf2 := read_first hp d.ne s (t + 1)
    refine ⟨(b - readT sp hd s (t + 1)).toNat, ?_, readT sp hd s (t + 1), t + 1, done ++ [t], rfl, rfl, ?_, hf2, ?_⟩
    · have : t + 1 ≤ readT sp hd s (t + 1) := hf2.le
      omega
    · rw [app_set]
      simp [iD]
    · rw [hb', beats_step hf hlt, List.append_assoc]
      rfl
  · have hge : b ≤ t := by
      have := of_decide_eq_false hc
      omega
    walk_at "dw"
    refine ⟨_, rds_at app_at, _, rfl, ?_⟩
    rw [retW_app, wp_ok, hb', beats_end hf hge, List.append_nil]
    exact ⟨rfl, rfl⟩
end Dw
namespace Dw
open PySem PySem.Spec PyProof.Rows L2
local macro_rules | `(tactic| walk_at "dw") => `(tactic| (repeat (first
  | ((with_reducible refine' w_var ?e ?_); (case e => rfl))
  | with_reducible refine w_c ?_
  | with_reducible refine s_seq ?_
  | with_reducible refine s_set ?_
  | with_reducible refine w_op2 ?_
  | with_reducible refine w_add ?_
  | with_reducible refine w_sub ?_
  | with_reducible refine w_eq ?_
  | with_reducible refine w_ne ?_
  | with_reducible refine w_lt ?_
  | with_reducible refine w_gt ?_
  | with_reducible refine w_le ?_
  | with_reducible refine w_ge ?_
  | with_reducible refine w_eqb ?_
  | with_reducible refine w_neb ?_
  | with_reducible refine w_cons ?_
  | with_reducible refine w_isN ?_
  | with_reducible refine w_isNotN ?_
  | with_reducible refine w_nil ?_
  | with_reducible refine w_call ?_
  | with_reducible refine w_calW ?_
  | with_reducible refine w_cal ?_
  | with_reducible refine w_ix ?_
  | with_reducible refine w_sl ?_
  | with_reducible refine w_pn ?_
  | with_reducible refine w_rev ?_
  | with_reducible refine w_ps ?_
  | with_reducible refine w_chain ?_
  | with_reducible refine w_tup ?_
  | with_reducible refine w_lst ?_
  | with_reducible refine w_lstR ?_
  | with_reducible refine w_dict ?_
  | with_reducible refine w_isa ?_
  | with_reducible refine w_itR1 ?_
  | with_reducible refine w_itS ?_
  | ((with_reducible refine' w_ixt0 ?e ?_); (case e => rfl))
  | ((with_reducible refine' w_ixl0 ?e ?_); (case e => rfl))
  | ((with_reducible refine' w_ixt ?e ?_); (case e => rfl))
  | ((with_reducible refine' w_ixl ?e ?_); (case e => rfl))
  | with_reducible refine w_itR2 ?_
  | with_reducible refine w_itZ ?_
  | with_reducible refine w_itE ?_
  | with_reducible refine w_lc ?_
  | with_reducible refine s_par ?_
  | with_reducible refine s_par3 ?_
  | with_reducible refine s_asg ?_
  | with_reducible refine s_put ?_
  | with_reducible refine s_for ?_
  | with_reducible refine s_if ?_
  | with_reducible refine w_test ?_
  | with_reducible refine w_andT ?_
  | with_reducible refine w_orT ?_
  | with_reducible refine w_notT ?_
  | with_reducible refine w_ifE ?_
  | with_reducible refine w_andV ?_
  | with_reducible refine w_orV ?_
  | with_reducible refine w_notV ?_
  | with_reducible refine w_neg ?_
  | with_reducible refine s_ret ?_
  | with_reducible refine s_retN ?_
  | with_reducible refine s_skip ?_
  | with_reducible refine s_brk ?_
  | with_reducible refine s_cnt ?_
  | with_reducible refine s_expr ?_
  | with_reducible refine w_met ?_
  | with_reducible refine wp_ok.mpr ?_
  | with_reducible refine wps_rt.mpr ?_
  | with_reducible refine wps_nx.mpr ?_
  | with_reducible refine ite_t ?_
  | with_reducible refine ite_f ?_
  | ((with_reducible refine' w_mod ?e ?_); (case e => first | assumption | omega))
  | ((with_reducible refine' w_div ?e ?_); (case e => omega))
  | ((with_reducible refine' w_mul ?e ?_); (case e => omega))
  | ((with_reducible refine' Exists.intro _ (And.intro ?e ?_)); (case e => rfl))
  | ((with_reducible refine' Exists.intro _ (Exists.intro _ (And.intro ?e ?_))); (case e => rfl))
  | ((with_reducible refine' Exists.intro _ (Exists.intro _ (Exists.intro _ (And.intro ?e ?_)))); (case e => rfl))
  | ((with_reducible refine' ite_yes ?e ?_); (case e => rfl))
  | ((with_reducible refine' ite_no ?e ?_); (case e => rfl))
  | ((with_reducible refine And.intro ?e ?_); (case e => first | rfl | exact small_len _ (Nat.le_of_ble_eq_true rfl))))))
/-! spots_under -/
theorem spots_ok {sp : Int} {hd : List Int} (d : Drum sp hd) {t : Int} {h : MH} : m_spots_under [.d (drumD sp hd), .d (.int t)] h = .ok (.d (.tuple (iD (spotsAt sp hd t)))) h := by
  have hp := d.pos
  refine wp_congr_of (wp_fn ?_)
  unfold b_spots_under lc_spots_under_1 drumD
  walk_at "dw"
  refine w_mapI (fun x => .int ((t + x) % sp)) trivial (by have := d.few; omega) (fun x _ => ⟨_, rfl, ?_⟩) ?_
  · unfold ce_spots_under_1
    walk_at "dw"
    rfl
  · walk_at "dw"
    rw [retW_same, wp_ok]
    refine ⟨?_, rfl⟩
    rw [iDm]
    rfl
end Dw
namespace Dw
open PySem PySem.Spec PyProof.Rows L2
local macro_rules | `(tactic| walk_at "dw") => `(tactic| (repeat (first
  | ((with_reducible refine' w_var ?e ?_); (case e => rfl))
  | with_reducible refine w_c ?_
  | with_reducible refine s_seq ?_
  | with_reducible refine s_set ?_
  | with_reducible refine w_op2 ?_
  | with_reducible refine w_add ?_
  | with_reducible refine w_sub ?_
  | with_reducible refine w_eq ?_
  | with_reducible refine w_ne ?_
  | with_reducible refine w_lt ?_
  | with_reducible refine w_gt ?_
  | with_reducible refine w_le ?_
  | with_reducible refine w_ge ?_
  | with_reducible refine w_eqb ?_
  | with_reducible refine w_neb ?_
  | with_reducible refine w_cons ?_
  | with_reducible refine w_isN ?_
  | with_reducible refine w_isNotN ?_
  | with_reducible refine w_nil ?_
  | with_reducible refine w_call ?_
  | with_reducible refine w_calW ?_
  | with_reducible refine w_cal ?_
  | with_reducible refine w_ix ?_
  | with_reducible refine w_sl ?_
  | with_reducible refine w_pn ?_
  | with_reducible refine w_rev ?_
  | with_reducible refine w_ps ?_
  | with_reducible refine w_chain ?_
  | with_reducible refine w_tup ?_
  | with_reducible refine w_lst ?_
  | with_reducible refine w_lstR ?_
  | with_reducible refine w_dict ?_
  | with_reducible refine w_isa ?_
  | with_reducible refine w_itR1 ?_
  | with_reducible refine w_itS ?_
  | ((with_reducible refine' w_ixt0 ?e ?_); (case e => rfl))
  | ((with_reducible refine' w_ixl0 ?e ?_); (case e => rfl))
  | ((with_reducible refine' w_ixt ?e ?_); (case e => rfl))
  | ((with_reducible refine' w_ixl ?e ?_); (case e => rfl))
  | with_reducible refine w_itR2 ?_
  | with_reducible refine w_itZ ?_
  | with_reducible refine w_itE ?_
  | with_reducible refine w_lc ?_
  | with_reducible refine s_par ?_
  | with_reducible refine s_par3 ?_
  | with_reducible refine s_asg ?_
  | with_reducible refine s_put ?_
  | with_reducible refine s_for ?_
  | with_reducible refine s_if ?_
  | with_reducible refine w_test ?_
  | with_reducible refine w_andT ?_
  | with_reducible refine w_orT ?_
  | with_reducible refine w_notT ?_
  | with_reducible refine w_ifE ?_
  | with_reducible refine w_andV ?_
  | with_reducible refine w_orV ?_
  | with_reducible refine w_notV ?_
  | with_reducible refine w_neg ?_
  | with_reducible refine s_ret ?_
  | with_reducible refine s_retN ?_
  | with_reducible refine s_skip ?_
  | with_reducible refine s_brk ?_
  | with_reducible refine s_cnt ?_
  | with_reducible refine s_expr ?_
  | with_reducible refine w_met ?_
  | with_reducible refine wp_ok.mpr ?_
  | with_reducible refine wps_rt.mpr ?_
  | with_reducible refine wps_nx.mpr ?_
  | with_reducible refine ite_t ?_
  | with_reducible refine ite_f ?_
  | ((with_reducible refine' w_mod ?e ?_); (case e => first | assumption | omega))
  | ((with_reducible refine' w_div ?e ?_); (case e => omega))
  | ((with_reducible refine' w_mul ?e ?_); (case e => omega))
  | ((with_reducible refine' Exists.intro _ (And.intro ?e ?_)); (case e => rfl))
  | ((with_reducible refine' Exists.intro _ (Exists.intro _ (And.intro ?e ?_))); (case e => rfl))
  | ((with_reducible refine' Exists.intro _ (Exists.intro _ (Exists.intro _ (And.intro ?e ?_)))); (case e => rfl))
  | ((with_reducible refine' ite_yes ?e ?_); (case e => rfl))
  | ((with_reducible refine' ite_no ?e ?_); (case e => rfl))
  | ((with_reducible refine And.intro ?e ?_); (case e => first | rfl | exact small_len _ (Nat.le_of_ble_eq_true rfl))))))
/-! is_drum -/
theorem whole_ok {x : D} {lo hi : Int} {h : MH} : m_is_whole [.d x, .d (.int lo), .d (.int hi)] h = .ok (.d (.bool (isWholeD x lo hi))) h := by
  refine wp_congr_of (wp_fn ?_)
  unfold b_is_whole
  cases x with
  | int i =>
    walk_at "dw"
    refine ite_b (fun hc => ?_) (fun hc => ?_)
    · walk_at "dw"
      rw [retW_same, wp_ok]
      refine ⟨?_, rfl⟩
      have := of_decide_eq_true hc
      simp [isWholeD, this]
    · walk_at "dw"
      rw [retW_same, wp_ok]
      refine ⟨?_, rfl⟩
      have := of_decide_eq_false hc
      simp [isWholeD, this]
  | bool b =>
    walk_at "dw"
    rw [retW_same, wp_ok]
    exact ⟨rfl, rfl⟩
  | none =>
    walk_at "dw"
    rw [retW_same, wp_ok]
    exact ⟨rfl, rfl⟩
  | str s =>
    walk_at "dw"
    rw [retW_same, wp_ok]
    exact ⟨rfl, rfl⟩
  | list s =>
    walk_at "dw"
    rw [retW_same, wp_ok]
    exact ⟨rfl, rfl⟩
  | tuple s =>
    walk_at "dw"
    rw [retW_same, wp_ok]
    exact ⟨rfl, rfl⟩
  | dict s =>
    walk_at "dw"
    rw [retW_same, wp_ok]
    exact ⟨rfl, rfl⟩

theorem len_ne2 {α : Type} (xs : List α) (h : xs.length ≠ 2) : (((xs.length : Nat) : Int) != 2) = true := by
  rw [bne_iff_ne]
  omega
theorem is_drum_no {x : D} (h : MH) (e : isDrumD x = false) {Q : W → MH → Prop} (q : Q (.d (.bool false)) h) : wp (retW h (.d (.bool false)) h) Q := by
  rw [retW_same, wp_ok]
  exact q
theorem is_drum_ok (x : D) (h : MH) (hx : ∀ ds, x = .tuple ds → ds.length ≤ 1000 ∧ ∀ es, .tuple es ∈ ds → es.length ≤ 1000) : m_is_drum [.d x] h = .ok (.d (.bool (isDrumD x))) h := by
  refine wp_congr_of (wp_fn ?_)
  unfold b_is_drum c_SPOTS_LEAST c_SPOTS_MOST c_HEADS_MOST
  cases x with
  | tuple ds =>
    obtain ⟨hl, hes⟩ := hx ds rfl
    by_cases h2 : ds.length = 2
    · match ds, h2 with
      | [a, b], _ =>
        walk_at "dw"
        refine w_of whole_ok ?_
        walk_at "dw"
        cases ha : isWholeD a 4 24 with
        | false =>
          walk_at "dw"
          rw [retW_same, wp_ok]
          refine ⟨?_, rfl⟩
          cases a <;> first | rfl | skip
          rename_i sp
          simp only [isWholeD] at ha
          cases b <;> first | rfl | skip
          simp only [isDrumD, ha, Bool.false_and]
        | true =>
          obtain ⟨sp, rfl⟩ : ∃ sp, a = .int sp := by cases a <;> first | exact ⟨_, rfl⟩ | cases ha
          have ha2 : 4 ≤ sp ∧ sp ≤ 24 := by simpa [isWholeD] using ha
          walk_at "dw"
          cases b with
          | tuple hs =>
            have hhl := hes hs (by simp)
            walk_at "dw"
            have no1 : ¬ (1 ≤ hs.length ∧ hs.length ≤ 3) → isDrumD (.tuple [.int sp, .tuple hs]) = false := fun z => by
              have : (decide (1 ≤ hs.length) && decide (hs.length ≤ 3)) = false := by
                rw [Bool.eq_false_iff]
                intro y
                simp at y
                exact z ⟨by omega, y.2⟩
              simp only [isDrumD, this, Bool.and_false, Bool.false_and]
            refine ite_b (fun hc => ?_) (fun hc => ?_)
            · have hc1 := of_decide_eq_true hc
              walk_at "dw"
              refine ite_b (fun hd => ?_) (fun hd => ?_)
              · walk_at "dw"
                have h3 := of_decide_eq_false (by simpa using hd : decide ((hs.length : Int) ≤ 3) = false)
                have e0 := no1 fun z => by omega
                exact is_drum_no h e0 ⟨by rw [e0], rfl⟩
              · have hd1 : (hs.length : Int) ≤ 3 := of_decide_eq_true (by simpa using hd)
                have hlen : (decide (1 ≤ hs.length) && decide (hs.length ≤ 3)) = true := by simp; omega
                walk_at "dw"
                have e2 : lc_is_drum_2 [some (.d (.tuple [.int sp, .tuple hs])), none, none] h = .ok (.d (.list (hs.map fun o => .bool (isWholeD o 0 (sp - 1))))) h := by
                  refine wp_congr_of ?_
                  unfold lc_is_drum_2
                  walk_at "dw"
                  refine w_map W.d (fun o => .bool (isWholeD o 0 (sp - 1))) trivial (by omega) (fun o _ => ⟨_, rfl, ?_⟩) ⟨rfl, rfl⟩
                  unfold ce_is_drum_2
                  walk_at "dw"
                  refine w_of whole_ok ?_
                  exact ⟨rfl, rfl⟩
                refine w_of e2 ?_
                walk_at "dw"
                refine ⟨_, fAll_b _ _, ?_⟩
                walk_at "dw"
                cases hall : hs.all fun o => isWholeD o 0 (sp - 1) with
                | false =>
                  walk_at "dw"
                  have : isDrumD (.tuple [.int sp, .tuple hs]) = false := by simp only [isDrumD, hall, Bool.and_false, Bool.false_and]
                  exact is_drum_no h this ⟨by rw [this], rfl⟩
                | true =>
                  obtain ⟨ns, rfl, hns⟩ := whole_ints hall
                  walk_at "dw"
                  have e1 : lc_is_drum_1 [some (.d (.tuple [.int sp, .tuple (iD ns)])), none, none] h = .ok (.d (.list ((ns.zip ns.tail).map fun p => .bool (decide (p.1 < p.2))))) h := by
                    refine wp_congr_of ?_
                    unfold lc_is_drum_1
                    walk_at "dw"
                    have c1 : cutD (iD ns) none (some (-1)) = iD ns.dropLast := by rw [cut_init]; simp [iD]
                    have c2 : cutD (iD ns) (some 1) none = iD ns.tail := by rw [cut_tail]; simp [iD]
                    rw [show (-(1 : Int)) = -1 from rfl, c1, c2]
                    refine w_mapZ (fun p => .bool (decide (p.1 < p.2))) trivial (by simp at hhl ⊢; omega) (fun p _ => ⟨_, rfl, ?_⟩) ?_
                    · unfold ce_is_drum_1
                      walk_at "dw"
                      rfl
                    · rw [zip_init]
                      exact ⟨rfl, rfl⟩
                  refine w_of e1 ?_
                  walk_at "dw"
                  refine ⟨_, fAll_b _ _, ?_⟩
                  rw [retW_same, wp_ok]
                  refine ⟨?_, rfl⟩
                  simp only [isDrumD, hall, hlen, intsOf_ints, Bool.and_true, Bool.true_and]
                  rw [show (decide (4 ≤ sp) && decide (sp ≤ 24)) = true by simp; exact ha2]
                  rfl
            · walk_at "dw"
              have hc1 := of_decide_eq_false hc
              have e0 := no1 fun z => by omega
              exact is_drum_no h e0 ⟨by rw [e0], rfl⟩
          | _ =>
            walk_at "dw"
            rw [retW_same, wp_ok]
            exact ⟨rfl, rfl⟩
    · walk_at "dw"
      refine ite_yes (len_ne2 _ h2) ?_
      walk_at "dw"
      rw [retW_same, wp_ok]
      refine ⟨?_, rfl⟩
      match ds, h2 with
      | [], _ => rfl
      | [_], _ => simp [isDrumD]
      | [_, _], h2 => exact absurd rfl h2
      | _ :: _ :: _ :: _, _ => simp [isDrumD]
  | _ =>
    walk_at "dw"
    rw [retW_same, wp_ok]
    exact ⟨rfl, rfl⟩
theorem upB_iff : ∀ {ns : List Int}, upB ns = true ↔ ns.Pairwise (· < ·)
  | [] => by simp [upB]
  | [x] => by simp [upB]
  | x :: y :: ns => by
    have ih := upB_iff (ns := y :: ns)
    unfold upB at ih ⊢
    simp only [List.tail_cons, List.zip_cons_cons, List.all_cons, Bool.and_eq_true, decide_eq_true_eq] at ih ⊢
    rw [ih, List.pairwise_cons (a := x)]
    constructor
    · rintro ⟨h1, h2⟩
      refine ⟨fun z hz => ?_, h2⟩
      rcases List.mem_cons.mp hz with rfl | hz
      · exact h1
      · have := List.rel_of_pairwise_cons h2 hz
        omega
    · rintro ⟨h1, h2⟩
      exact ⟨h1 y (by simp), h2⟩
theorem is_drum_yes {sp : Int} {hd : List Int} (d : Drum sp hd) (h4 : 4 ≤ sp) (h24 : sp ≤ 24) (h : MH) : m_is_drum [.d (drumD sp hd)] h = .ok (.d (.bool true)) h := by
  have few := d.few
  rw [drumD, is_drum_ok _ _ (fun ds e => by
    cases e
    refine ⟨by simp, fun es he => ?_⟩
    simp at he
    subst he
    rw [List.length_map]
    omega)]
  have : isDrumD (.tuple [.int sp, .tuple (iD hd)]) = true := by
    have hne : 1 ≤ hd.length := by
      cases hd with
      | nil => exact absurd rfl d.ne
      | cons _ _ => simp
    simp only [isDrumD, intsOf_ints, upB_iff.mpr d.up, Bool.and_true, Bool.and_eq_true, decide_eq_true_eq, List.length_map]
    refine ⟨⟨⟨h4, h24⟩, hne, few⟩, ?_⟩
    rw [List.all_map, List.all_eq_true]
    intro x hx
    have := d.lo x hx
    simp [isWholeD, this]
    omega
  rw [this]
end Dw
namespace Dw
open PySem PySem.Spec PyProof.Rows L2
local macro_rules | `(tactic| walk_at "dw") => `(tactic| (repeat (first
  | ((with_reducible refine' w_var ?e ?_); (case e => rfl))
  | with_reducible refine w_c ?_
  | with_reducible refine s_seq ?_
  | with_reducible refine s_set ?_
  | with_reducible refine w_op2 ?_
  | with_reducible refine w_add ?_
  | with_reducible refine w_sub ?_
  | with_reducible refine w_eq ?_
  | with_reducible refine w_ne ?_
  | with_reducible refine w_lt ?_
  | with_reducible refine w_gt ?_
  | with_reducible refine w_le ?_
  | with_reducible refine w_ge ?_
  | with_reducible refine w_eqb ?_
  | with_reducible refine w_neb ?_
  | with_reducible refine w_cons ?_
  | with_reducible refine w_isN ?_
  | with_reducible refine w_isNotN ?_
  | with_reducible refine w_nil ?_
  | with_reducible refine w_call ?_
  | with_reducible refine w_calW ?_
  | with_reducible refine w_cal ?_
  | with_reducible refine w_ix ?_
  | with_reducible refine w_sl ?_
  | with_reducible refine w_pn ?_
  | with_reducible refine w_rev ?_
  | with_reducible refine w_ps ?_
  | with_reducible refine w_chain ?_
  | with_reducible refine w_tup ?_
  | with_reducible refine w_lst ?_
  | with_reducible refine w_lstR ?_
  | with_reducible refine w_dict ?_
  | with_reducible refine w_isa ?_
  | with_reducible refine w_itR1 ?_
  | with_reducible refine w_itS ?_
  | ((with_reducible refine' w_ixt0 ?e ?_); (case e => rfl))
  | ((with_reducible refine' w_ixl0 ?e ?_); (case e => rfl))
  | ((with_reducible refine' w_ixt ?e ?_); (case e => rfl))
  | ((with_reducible refine' w_ixl ?e ?_); (case e => rfl))
  | with_reducible refine w_itR2 ?_
  | with_reducible refine w_itZ ?_
  | with_reducible refine w_itE ?_
  | with_reducible refine w_lc ?_
  | with_reducible refine s_par ?_
  | with_reducible refine s_par3 ?_
  | with_reducible refine s_asg ?_
  | with_reducible refine s_put ?_
  | with_reducible refine s_for ?_
  | with_reducible refine s_if ?_
  | with_reducible refine w_test ?_
  | with_reducible refine w_andT ?_
  | with_reducible refine w_orT ?_
  | with_reducible refine w_notT ?_
  | with_reducible refine w_ifE ?_
  | with_reducible refine w_andV ?_
  | with_reducible refine w_orV ?_
  | with_reducible refine w_notV ?_
  | with_reducible refine w_neg ?_
  | with_reducible refine s_ret ?_
  | with_reducible refine s_retN ?_
  | with_reducible refine s_skip ?_
  | with_reducible refine s_brk ?_
  | with_reducible refine s_cnt ?_
  | with_reducible refine s_expr ?_
  | with_reducible refine w_met ?_
  | with_reducible refine wp_ok.mpr ?_
  | with_reducible refine wps_rt.mpr ?_
  | with_reducible refine wps_nx.mpr ?_
  | with_reducible refine ite_t ?_
  | with_reducible refine ite_f ?_
  | ((with_reducible refine' w_mod ?e ?_); (case e => first | assumption | omega))
  | ((with_reducible refine' w_div ?e ?_); (case e => omega))
  | ((with_reducible refine' w_mul ?e ?_); (case e => omega))
  | ((with_reducible refine' Exists.intro _ (And.intro ?e ?_)); (case e => rfl))
  | ((with_reducible refine' Exists.intro _ (Exists.intro _ (And.intro ?e ?_))); (case e => rfl))
  | ((with_reducible refine' Exists.intro _ (Exists.intro _ (Exists.intro _ (And.intro ?e ?_)))); (case e => rfl))
  | ((with_reducible refine' ite_yes ?e ?_); (case e => rfl))
  | ((with_reducible refine' ite_no ?e ?_); (case e => rfl))
  | ((with_reducible refine And.intro ?e ?_); (case e => first | rfl | exact small_len _ (Nat.le_of_ble_eq_true rfl))))))
/-! _law_same of a thing and itself -/
theorem same_b (d : Nat) (x : Bool) (h : MH) : m__law_same (d + 1) [.d (.bool x), .d (.bool x)] h = .ok (.d (.bool true)) h := by
  refine wp_congr_of (wp_fn ?_)
  unfold b__law_same
  walk_at "dw"
  rw [retW_same, wp_ok]
  refine ⟨?_, rfl⟩
  simp
theorem same_i (d : Nat) (x : Int) (h : MH) : m__law_same (d + 1) [.d (.int x), .d (.int x)] h = .ok (.d (.bool true)) h := by
  refine wp_congr_of (wp_fn ?_)
  unfold b__law_same
  walk_at "dw"
  rw [retW_same, wp_ok]
  refine ⟨?_, rfl⟩
  simp
theorem same_t (d : Nat) (xs : List Int) (hl : xs.length ≤ 16000000) (h : MH) : m__law_same (d + 2) [.d (.tuple (iD xs)), .d (.tuple (iD xs))] h = .ok (.d (.bool true)) h := by
  refine wp_congr_of (wp_fn ?_)
  unfold b__law_same
  walk_at "dw"
  refine ite_no (bne_self_eq_false _) ?_
  walk_at "dw"
  unfold lc__law_same_1
  walk_at "dw"
  refine w_mapZ (fun _ => .bool true) trivial hl (fun p hp => ⟨_, rfl, ?_⟩) ?_
  · unfold ce__law_same_1
    walk_at "dw"
    have : p.1 = p.2 := by
      obtain ⟨a, b⟩ := p
      have : ∀ {ys : List Int}, (a, b) ∈ ys.zip ys → a = b := by
        intro ys
        induction ys with
        | nil => intro h; simp at h
        | cons y ys ih =>
          intro h
          simp at h
          rcases h with ⟨rfl, rfl⟩ | h
          · rfl
          · exact ih h
      exact this hp
    rw [this]
    refine w_of (same_i d p.2 _) ?_
    exact ⟨rfl, rfl⟩
  walk_at "dw"
  refine ⟨_, fAll_b (fun _ => true) _, ?_⟩
  rw [retW_same, wp_ok]
  refine ⟨?_, rfl⟩
  simp
end Dw
/-! programs, layings, machines in plain words -/
namespace Dw
open PySem PySem.Spec PyProof.Rows L2
inductive Wk where | put | add | sub | save
  deriving DecidableEq
inductive Od where | stop | less (a b : Str) | wd (k : Wk) (w b : Str)
  deriving DecidableEq
inductive Ct where | num (i : Int) | ord (o : Od)
  deriving DecidableEq
abbrev Prog := List (Str × Ct)
abbrev Lay := List (Str × Int)
def Wk.nm : Wk → Str
  | .put => "put" | .add => "add" | .sub => "sub" | .save => "save"
def Wk.bt : Wk → Int
  | .put => 0 | .add => 1 | .sub => 1 | .save => 0
def Od.nm : Od → Str
  | .stop => "stop" | .less _ _ => "less" | .wd k _ _ => k.nm
def Od.args : Od → List Str
  | .stop => [] | .less a b => [a, b] | .wd _ w b => [w, b]
def sD (s : Str) : D := .str s
abbrev sDs (ns : List Str) : List D := ns.map .str
def odD (o : Od) : D := .tuple (.str o.nm :: sDs o.args)
def ctD : Ct → D
  | .num i => .int i
  | .ord o => odD o
@[reducible] def cellD (c : Str × Ct) : D := .tuple [.str c.1, ctD c.2]
@[reducible] def progD (p : Prog) : D := .tuple (p.map cellD)
@[reducible] def spotD (c : Str × Int) : D := .tuple [.str c.1, .int c.2]
@[reducible] def layD (l : Lay) : D := .tuple (l.map spotD)
def namesP (p : Prog) : List Str := p.map (·.1)
def isO : Ct → Bool
  | .ord _ => true
  | .num _ => false
def ordersP (p : Prog) : List Str := (p.filter fun c => isO c.2).map (·.1)
def wordsP (p : Prog) : List Str := (p.filter fun c => !isO c.2).map (·.1)
def IsOrd (p : Prog) (a : Str) : Prop := ∃ o, p.lookup a = some (.ord o)
def IsNum (p : Prog) (a : Str) : Prop := ∃ i, p.lookup a = some (.num i)
def OdOk (p : Prog) : Od → Prop
  | .stop => True
  | .less a b => IsOrd p a ∧ IsOrd p b
  | .wd _ w b => IsNum p w ∧ IsOrd p b
def slt (a b : Str) : Prop := sle a b ∧ a ≠ b
/-- a program -/
structure PrOk (p : Prog) : Prop where
  up : (namesP p).Pairwise slt
  few : p.length < 60
  od : ∀ n o, p.lookup n = some (.ord o) → OdOk p o
def setP (p : Prog) (n : Str) (c : Ct) : Prog := p.map fun x => if x.1 = n then (x.1, c) else x
theorem slt_nd {ns : List Str} (h : ns.Pairwise slt) : ns.Nodup := h.imp fun h => h.2
theorem PrOk.nd {p : Prog} (h : PrOk p) : (namesP p).Nodup := slt_nd h.up
theorem lookup_mem {α : Type} {p : List (Str × α)} {n : Str} {c : α} (h : p.lookup n = some c) : (n, c) ∈ p := by
  induction p with
  | nil => cases h
  | cons x p ih =>
    obtain ⟨a, b⟩ := x
    by_cases hn : n = a
    · subst hn
      simp only [List.lookup, beq_self_eq_true] at h
      cases h
      exact List.mem_cons_self ..
    · simp only [List.lookup, beq_eq_false_iff_ne.mpr hn] at h
      exact List.mem_cons_of_mem _ (ih h)
theorem mem_lookup {α : Type} {p : List (Str × α)} {n : Str} {c : α} (nd : (p.map (·.1)).Nodup) (h : (n, c) ∈ p) : p.lookup n = some c := by
  induction p with
  | nil => cases h
  | cons x p ih =>
    obtain ⟨a, b⟩ := x
    simp only [List.map_cons, List.nodup_cons] at nd
    rcases List.mem_cons.mp h with e | h
    · cases e
      simp [List.lookup]
    · have hn : n ≠ a := fun z => nd.1 (z ▸ List.mem_map_of_mem (f := fun x : Str × α => x.1) h)
      simp only [List.lookup, beq_eq_false_iff_ne.mpr hn]
      exact ih nd.2 h
theorem lookup_none {α : Type} {p : List (Str × α)} {n : Str} (h : n ∉ p.map (·.1)) : p.lookup n = none := by
  induction p with
  | nil => rfl
  | cons x p ih =>
    obtain ⟨a, b⟩ := x
    simp only [List.map_cons, List.mem_cons, not_or] at h
    simp only [List.lookup, beq_eq_false_iff_ne.mpr h.1]
    exact ih h.2
theorem lookup_some {α : Type} {p : List (Str × α)} {n : Str} (h : n ∈ p.map (·.1)) : ∃ c, p.lookup n = some c := by
  cases e : p.lookup n with
  | some c => exact ⟨c, rfl⟩
  | none =>
    exfalso
    induction p with
    | nil => cases h
    | cons x p ih =>
      obtain ⟨a, b⟩ := x
      by_cases hn : n = a
      · subst hn
        simp [List.lookup] at e
      · simp only [List.lookup, beq_eq_false_iff_ne.mpr hn] at e
        simp only [List.map_cons, List.mem_cons] at h
        exact ih (h.resolve_left hn) e
theorem PrOk.nums {p : Prog} (_ : PrOk p) {n : Str} (h : n ∈ ordersP p) (nd : (namesP p).Nodup) : IsOrd p n := by
  unfold ordersP at h
  obtain ⟨c, hc, rfl⟩ := List.mem_map.mp h
  obtain ⟨hm, ho⟩ := List.mem_filter.mp hc
  obtain ⟨a, b⟩ := c
  cases b with
  | num i => cases ho
  | ord o => exact ⟨o, mem_lookup nd hm⟩
theorem ord_mem {p : Prog} {n : Str} (h : IsOrd p n) : n ∈ ordersP p := by
  obtain ⟨o, h⟩ := h
  exact List.mem_map.mpr ⟨(n, .ord o), List.mem_filter.mpr ⟨lookup_mem h, rfl⟩, rfl⟩
theorem num_mem {p : Prog} {n : Str} (h : IsNum p n) : n ∈ wordsP p := by
  obtain ⟨o, h⟩ := h
  exact List.mem_map.mpr ⟨(n, .num o), List.mem_filter.mpr ⟨lookup_mem h, rfl⟩, rfl⟩
theorem PrOk.ord {p : Prog} (h : PrOk p) {n : Str} : n ∈ ordersP p ↔ IsOrd p n := ⟨fun z => h.nums z h.nd, ord_mem⟩
theorem names_set (p : Prog) (n : Str) (c : Ct) : namesP (setP p n c) = namesP p := by
  unfold namesP setP
  rw [List.map_map]
  refine List.map_congr_left fun x _ => ?_
  show (if x.1 = n then (x.1, c) else x).1 = x.1
  split <;> rfl
theorem lookup_set {p : Prog} {n m : Str} {c : Ct} : (setP p n c).lookup m = if m = n then (p.lookup m).map fun _ => c else p.lookup m := by
  induction p with
  | nil => unfold setP; simp [List.lookup]
  | cons x p ih =>
    obtain ⟨a, b⟩ := x
    unfold setP at ih ⊢
    rw [List.map_cons]
    by_cases ha : a = n
    · subst ha
      rw [if_pos rfl]
      by_cases hm : m = a
      · subst hm
        simp [List.lookup]
      · simp only [List.lookup, beq_eq_false_iff_ne.mpr hm]
        exact ih
    · have : (if (a, b).1 = n then ((a, b).1, c) else (a, b)) = (a, b) := if_neg ha
      rw [this]
      by_cases hm : m = a
      · subst hm
        rw [if_neg ha]
        simp [List.lookup]
      · simp only [List.lookup, beq_eq_false_iff_ne.mpr hm]
        exact ih
theorem num_set {p : Prog} {n m : Str} {i : Int} (h : IsNum p m) : IsNum (setP p n (.num i)) m := by
  obtain ⟨j, h⟩ := h
  unfold IsNum
  rw [lookup_set, h]
  split
  · exact ⟨i, rfl⟩
  · exact ⟨j, rfl⟩
theorem ord_set {p : Prog} {n m : Str} {i : Int} {o : Od} (hn : IsNum p n) : (setP p n (.num i)).lookup m = some (.ord o) ↔ p.lookup m = some (.ord o) := by
  rw [lookup_set]
  split
  · rename_i e
    subst e
    obtain ⟨j, h⟩ := hn
    rw [h]
    simp
  · rfl
theorem isOrd_set {p : Prog} {n m : Str} {i : Int} (hn : IsNum p n) (h : IsOrd p m) : IsOrd (setP p n (.num i)) m := by
  obtain ⟨o, h⟩ := h
  exact ⟨o, (ord_set hn).mpr h⟩
theorem PrOk.set {p : Prog} (h : PrOk p) {n : Str} {i : Int} (hn : IsNum p n) : PrOk (setP p n (.num i)) := by
  refine ⟨by rw [names_set]; exact h.up, by unfold setP; rw [List.length_map]; exact h.few, fun m o e => ?_⟩
  have := h.od m o ((ord_set hn).mp e)
  cases o with
  | stop => trivial
  | less a b => exact ⟨isOrd_set hn this.1, isOrd_set hn this.2⟩
  | wd k w b => exact ⟨num_set this.1, isOrd_set hn this.2⟩
/-! the machine -/
def capd (x : Int) : Int := if (if x < 9999 then x else 9999) > 0 - 9999 then (if x < 9999 then x else 9999) else 0 - 9999
structure Ms where
  cells : Prog
  held : Int
  next : Option Str
  time : Int
def numOf (p : Prog) (w : Str) : Int := match p.lookup w with
  | some (.num i) => i
  | _ => 0
def doneM (m : Ms) (k : Wk) (w : Str) : Ms := match k with
  | .put => { m with held := numOf m.cells w }
  | .add => { m with held := capd (m.held + numOf m.cells w) }
  | .sub => { m with held := capd (m.held - numOf m.cells w) }
  | .save => { m with cells := setP m.cells w (.num m.held) }
abbrev Step := Str × Int × Option Int
section
variable {σ : Type} (wh : σ → Str → Int → Int × σ)
def oneM (s : σ) (m : Ms) (n : Str) : Od → Step × Ms × σ
  | .stop => let r := wh s n m.time; ((n, r.1, none), { m with time := r.1 + 1, next := none }, r.2)
  | .less a b => let r := wh s n m.time; ((n, r.1, none), { m with time := r.1 + 2, next := some (if 0 ≤ m.held then b else a) }, r.2)
  | .wd k w b => let r := wh s n m.time; let q := wh r.2 w (r.1 + 1); ((n, r.1, some q.1), { doneM m k w with time := q.1 + 1 + k.bt, next := some b }, q.2)
def goM : Nat → σ → Ms → List Step × Ms × σ
  | 0, s, m => ([], m, s)
  | k + 1, s, m => match m.next with
    | none => ([], m, s)
    | some n => match m.cells.lookup n with
      | some (.ord o) => let r := oneM wh s m n o; let t := goM k r.2.2 r.2.1; (r.1 :: t.1, t.2.1, t.2.2)
      | _ => ([], m, s)
end
structure MsOk (m : Ms) : Prop where
  pr : PrOk m.cells
  nx : ∀ n, m.next = some n → IsOrd m.cells n
theorem doneM_ok {m : Ms} {k : Wk} {w : Str} (h : PrOk m.cells) (hw : IsNum m.cells w) : PrOk (doneM m k w).cells := by
  cases k with
  | save => exact h.set hw
  | _ => exact h
theorem doneM_ord {m : Ms} {k : Wk} {w b : Str} (hw : IsNum m.cells w) (hb : IsOrd m.cells b) : IsOrd (doneM m k w).cells b := by
  cases k with
  | save => exact isOrd_set hw hb
  | _ => exact hb
theorem oneM_ok {σ : Type} {wh : σ → Str → Int → Int × σ} {s : σ} {m : Ms} {n : Str} {o : Od} (h : MsOk m) (e : m.cells.lookup n = some (.ord o)) : MsOk (oneM wh s m n o).2.1 := by
  have ho := h.pr.od n o e
  cases o with
  | stop => exact ⟨h.pr, fun n z => by cases z⟩
  | less a b =>
    refine ⟨h.pr, fun n z => ?_⟩
    have z : some (if 0 ≤ m.held then b else a) = some n := z
    cases z
    split
    · exact ho.2
    · exact ho.1
  | wd k w b =>
    refine ⟨doneM_ok h.pr ho.1, fun n z => ?_⟩
    have z : some b = some n := z
    cases z
    exact doneM_ord ho.1 ho.2
/-! how they are told -/
def optD : Option Int → D
  | none => .none
  | some i => .int i
@[reducible] def stepD (x : Step) : D := .tuple [.str x.1, .int x.2.1, optD x.2.2]
def nextD : Option Str → D
  | none => .none
  | some n => .str n
def wordsOf (p : Prog) : List (Str × Int) := p.filterMap fun c => match c.2 with
  | .num i => some (c.1, i)
  | .ord _ => none
def runD (r : List Step × Ms) : D := .tuple [.tuple (r.1.map stepD), .bool r.2.next.isNone, .int r.2.time, .int r.2.held, layD (wordsOf r.2.cells)]
end Dw
/-! steps: dicts by texts, objects, machines -/
namespace Dw
open PySem PySem.Spec PyProof.Rows L2
/-! ### dicts by texts -/
section
variable {α : Type} (f : α → D)
def kvG (p : List (Str × α)) : List (Key × D) := p.map fun c => (Sum.inr c.1, f c.2)
def pairG (c : Str × α) : D := .tuple [.str c.1, f c.2]
def setG (p : List (Str × α)) (n : Str) (c : α) : List (Str × α) := p.map fun x => if x.1 = n then (x.1, c) else x
variable {f} {p : List (Str × α)} {n : Str} {c : α}
theorem valD_kvG : valD (kvG f p) (.inr n) = (p.lookup n).map f := by
  unfold valD kvG
  induction p with
  | nil => rfl
  | cons x p ih =>
    obtain ⟨a, b⟩ := x
    rw [List.map_cons, List.find?_cons]
    by_cases hn : n = a
    · subst hn
      simp [List.lookup]
    · have h1 : decide ((Sum.inr a : Key) = Sum.inr n) = false := by simp; exact fun z => hn z.symm
      rw [h1]
      simp only [List.lookup, beq_eq_false_iff_ne.mpr hn]
      exact ih
theorem putD_kvG (h : n ∈ p.map (·.1)) : putD (kvG f p) (.inr n) (f c) = kvG f (setG p n c) := by
  unfold putD
  have : ((kvG f p).any fun kv => decide (kv.1 = Sum.inr n)) = true := by
    obtain ⟨x, hx, e⟩ := List.mem_map.mp h
    exact List.any_eq_true.mpr ⟨(Sum.inr x.1, f x.2), List.mem_map.mpr ⟨x, hx, rfl⟩, by simp [e]⟩
  rw [if_pos this]
  unfold kvG setG
  rw [List.map_map, List.map_map]
  refine List.map_congr_left fun x _ => ?_
  show (if (Sum.inr x.1 : Key) = Sum.inr n then _ else _) = _
  by_cases hx : x.1 = n
  · rw [if_pos (by rw [hx])]
    simp [hx]
  · rw [if_neg (by simpa using hx)]
    simp [hx]
theorem putD_new (h : n ∉ p.map (·.1)) : putD (kvG f p) (.inr n) (f c) = kvG f (p ++ [(n, c)]) := by
  unfold putD
  have : ¬ ((kvG f p).any fun kv => decide (kv.1 = Sum.inr n)) = true := by
    intro z
    obtain ⟨x, hx, e⟩ := List.any_eq_true.mp z
    obtain ⟨y, hy, rfl⟩ := List.mem_map.mp hx
    simp at e
    exact h (e ▸ List.mem_map_of_mem (f := fun x : Str × α => x.1) hy)
  rw [if_neg this]
  unfold kvG
  rw [List.map_append]
  rfl
theorem pairsD_G : ∀ p : List (Str × α), pairsD (p.map (pairG f)) = some (kvG f p)
  | [] => rfl
  | (a, b) :: p => by
    rw [List.map_cons]
    unfold pairsD
    rw [pairsD_G p]
    rfl
theorem mkD_go : ∀ (p q : List (Str × α)), ((q ++ p).map (·.1)).Nodup → (kvG f p).foldl (fun acc kv => putD acc kv.1 kv.2) (kvG f q) = kvG f (q ++ p)
  | [], q, _ => by simp [kvG]
  | (a, b) :: p, q, nd => by
    have na : a ∉ q.map (·.1) := by
      intro z
      rw [List.map_append, List.map_cons, List.nodup_append] at nd
      exact nd.2.2 a z a (by simp) rfl
    show (kvG f p).foldl _ (putD (kvG f q) (.inr a) (f b)) = _
    rw [putD_new na, mkD_go p (q ++ [(a, b)]) (by simpa using nd), List.append_assoc]
    rfl
theorem mkD_G (nd : (p.map (·.1)).Nodup) : mkD (kvG f p) = kvG f p := by
  have := mkD_go (f := f) p [] (by simpa using nd)
  rw [List.nil_append] at this
  exact this
theorem oDict_G {h : MH} (nd : (p.map (·.1)).Nodup) (hl : p.length ≤ 1000000) : oDict [.d (.tuple (p.map (pairG f)))] h = .ok (.ref h.length) (h ++ [.dk (kvG f p)]) := by
  unfold oDict
  show (if (p.map (pairG f)).length ≤ 1000000 then _ else _) = _
  rw [if_pos (by rw [List.length_map]; exact hl), pairsD_G]
  simp only
  rw [mkD_G nd]
theorem oDict_GL {h : MH} (nd : (p.map (·.1)).Nodup) (hl : p.length ≤ 1000000) : oDict [.d (.list (p.map (pairG f)))] h = .ok (.ref h.length) (h ++ [.dk (kvG f p)]) := oDict_G (f := f) (p := p) (h := h) nd hl
end
theorem cellD_is : cellD = pairG ctD := rfl
theorem spotD_is : spotD = pairG PyData.int := rfl
section
variable {α : Type} {f : α → D} {p : List (Str × α)} {n : Str} {c : α} {Q : W → MH → Prop} {h : MH} {i : Nat}
theorem w_dictT (nd : (p.map (·.1)).Nodup) (hl : p.length ≤ 1000000) (q : Q (.ref h.length) (h ++ [.dk (kvG f p)])) : wp (oDict [.d (.tuple (p.map (pairG f)))] h) Q := w_of (oDict_G nd hl) q
theorem w_dictL (nd : (p.map (·.1)).Nodup) (hl : p.length ≤ 1000000) (q : Q (.ref h.length) (h ++ [.dk (kvG f p)])) : wp (oDict [.d (.list (p.map (pairG f)))] h) Q := w_of (oDict_GL nd hl) q
theorem ixW_kv (e : h[i]? = some (.dk (kvG f p))) (l : p.lookup n = some c) : ixW (.ref i) (.d (.str n)) h = .ok (.d (f c)) h := by
  have : valD (kvG f p) (.inr n) = some (f c) := by rw [valD_kvG, l]; rfl
  unfold ixW
  simp only [e, rd, Option.bind_some, keyD, this]
theorem w_ixkv (e : h[i]? = some (.dk (kvG f p))) (l : p.lookup n = some c) (q : Q (.d (f c)) h) : wp (ixW (.ref i) (.d (.str n)) h) Q := w_of (ixW_kv e l) q
theorem putW_kv (e : h[i]? = some (.dk (kvG f p))) (hn : n ∈ p.map (·.1)) (hl : p.length ≤ 1000000) : putW (.ref i) (.d (.str n)) (.d (f c)) h = some (h.set i (.dk (kvG f (setG p n c)))) := by
  unfold putW
  simp only [e, rd, Option.bind_some, keyD]
  rw [if_pos (by unfold kvG; rw [List.length_map, sizeLine_eq]; omega), putD_kvG hn]
theorem putW_new (e : h[i]? = some (.dk (kvG f p))) (hn : n ∉ p.map (·.1)) (hl : p.length ≤ 1000000) : putW (.ref i) (.d (.str n)) (.d (f c)) h = some (h.set i (.dk (kvG f (p ++ [(n, c)])))) := by
  unfold putW
  simp only [e, rd, Option.bind_some, keyD]
  rw [if_pos (by unfold kvG; rw [List.length_map, sizeLine_eq]; omega), putD_new hn]
end
/-! ### texts -/
@[simp] theorem fEq_s {a b : Str} : fEq (.str a) (.str b) = some (.bool (decide (a = b))) := by unfold fEq; rw [if_pos (by simp [PyData.depth])]; simp only [PyData.eqv]; rfl
@[simp] theorem fNe_s {a b : Str} : fNe (.str a) (.str b) = some (.bool (!decide (a = b))) := by unfold fNe; rw [if_pos (by simp [PyData.depth])]; simp only [PyData.eqv]; rfl
section
variable {Q : W → MH → Prop} {QT : Bool → MH → Prop} {QA : List W → MH → Prop} {ρ : ME} {h : MH} {m mo : M} {ms : MA} {i j : Nat} {c f : Str} {fs : List (Str × W)} {x w : W} {N B C : PS} {R : W → MH → Prop}
theorem w_eqs {a b : Str} (q : Q (.d (.bool (decide (a = b)))) h) : wp (op2 fEq (.d (.str a)) (.d (.str b)) h) Q := w_op2d fEq_s q
theorem w_nes {a b : Str} (q : Q (.d (.bool (!decide (a = b)))) h) : wp (op2 fNe (.d (.str a)) (.d (.str b)) h) Q := w_op2d fNe_s q
theorem w_tupR (q : wp (ms ρ h) fun ws h1 => allD ws = none ∧ ws.length ≤ sizeLine ∧ Q (.tup ws) h1) : wp (mTup ms ρ h) Q := wp_tup.mpr (wp_mono q fun x h1 ⟨e, l, q⟩ => by rw [if_pos l, e]; exact q)
theorem w_ixT (q : wp (m ρ h) fun x h1 => ∃ ws, x = .tup ws ∧ ∃ k w, L2.atI ws k = some w ∧ k = (j : Int) ∧ Q w h1) : wp (mIxT m (j : Int) ρ h) Q := by
  unfold mIxT
  rw [wp_bind]
  refine wp_mono q fun x h1 ⟨ws, e, k, w, e2, ek, q⟩ => ?_
  subst e ek
  simp only [e2]
  exact wp_ok.mpr q
theorem w_inK {kvs : List (Str × Option Int)} (q : wp (m ρ h) fun x h1 => ∃ r, kLook kvs x = some r ∧ Q (.d (.bool r.isSome)) h1) : wp (mInK kvs m ρ h) Q := by
  unfold mInK
  rw [wp_bind]
  refine wp_mono q fun x h1 ⟨r, e, q⟩ => ?_
  rw [e]
  exact wp_ok.mpr q
theorem w_ixK {kvs : List (Str × Option Int)} (q : wp (m ρ h) fun x h1 => ∃ i, kLook kvs x = some (some i) ∧ Q (.d (.int i)) h1) : wp (mIxK kvs m ρ h) Q := by
  unfold mIxK
  rw [wp_bind]
  refine wp_mono q fun x h1 ⟨r, e, q⟩ => ?_
  rw [e]
  exact wp_ok.mpr q
theorem insOf_at (e : h[i]? = some (.ins c fs)) : insOf c (.ref i) h = some (i, fs) := by
  unfold insOf
  simp only [e, if_pos]
theorem w_fld (e0 : ρ[j]? = some (some (.ref i))) (e : h[i]? = some (.ins c fs)) (e2 : fs.lookup f = some x) (q : Q x h) : wp (mFld c f (mVar j) ρ h) Q := by
  unfold mFld
  rw [wp_bind]
  refine w_var e0 ?_
  rw [insOf_at e]
  simp only [e2]
  exact wp_ok.mpr q
theorem s_setF (q : wp (m ρ h) fun w h1 => ρ[j]? = some (some (.ref i)) ∧ ∃ fs, h1[i]? = some (.ins c fs) ∧ w.noclo = true ∧ fs.length < 1000 ∧ N ρ (h1.set i (.ins c (putFW f w fs)))) : wps (mSetF c f (mVar j) m ρ h) N R B C := by
  unfold mSetF
  rw [wps_toS]
  refine wp_mono q fun w h1 ⟨e0, fs, e, hn, hl, q⟩ => ?_
  rw [wps_toS]
  refine w_var e0 ?_
  rw [insOf_at e]
  simp only
  rw [if_pos ⟨hn, hl⟩]
  exact wps_nx.mpr q
theorem wp_noExc {α : Type} {r : Res α} {Q : α → MH → Prop} (q : wp r Q) : wp (noExc r) Q := by
  obtain ⟨a, h, e, q⟩ := q.out
  rw [e]
  exact wp_ok.mpr q
theorem wp_noClo {r : Res W} (q : wp r fun w h => w.noclo = true ∧ Q w h) : wp (noClo r) Q := by
  obtain ⟨a, h, e, n, q⟩ := q.out
  rw [e]
  show wp (if a.noclo = true then Res.ok a h else Res.stuck) Q
  rw [if_pos n]
  exact wp_ok.mpr q
theorem w_meth {S : FSpec} (e0 : ρ[j]? = some (some (.ref i))) (e : h[i]? = some (.ins c fs)) (e2 : fs.lookup f = none) (q : wp (ms ρ h) fun ws h1 => wp (S (.ref i :: ws) h1) Q) : wp (mMeth c f S (mVar j) ms ρ h) Q := by
  unfold mMeth
  rw [wp_bind]
  refine w_var e0 ?_
  rw [insOf_at e]
  simp only [e2, if_pos]
  rw [wp_bind]
  exact wp_mono q fun ws h1 q => wp_noExc q
theorem w_make {S : FSpec} (q : wp (ms ρ h) fun ws h1 => wp (S (.ref h1.length :: ws) (h1 ++ [.ins c []])) fun w h2 => w = .d .none ∧ Q (.ref h1.length) h2) : wp (mMake c S ms ρ h) Q := by
  unfold mMake
  rw [wp_bind]
  refine wp_mono q fun ws h1 q => ?_
  obtain ⟨a, h2, e, ea, q⟩ := q.out
  subst ea
  rw [e]
  exact wp_ok.mpr q
theorem w_callV {T : Nat → List W → FSpec} {k : Nat} {caps : List W} (e : ρ[i]? = some (some (.clo k caps))) (q : wp (ms ρ h) fun ws h1 => (W.nocloAll ws && W.nocloAll caps) = true ∧ wp (T k caps ws h1) fun w h2 => w.noclo = true ∧ Q w h2) : wp (mCallV T i ms ρ h) Q := by
  unfold mCallV
  rw [e]
  simp only
  rw [wp_bind]
  refine wp_mono q fun ws h1 ⟨n, q⟩ => ?_
  rw [if_pos n]
  exact wp_noClo q
theorem w_callHO {S : FSpec} {k : Nat} {js : List Nat} {caps : List W} (e : capsOf ρ js = some caps) (n : W.nocloAll caps = true) (q : wp (ms ρ h) fun ws h1 => wp (S (ws ++ [.clo k caps]) h1) fun w h2 => w.noclo = true ∧ Q w h2) : wp (mCallHO S k js ms ρ h) Q := by
  unfold mCallHO
  rw [wp_bind]
  refine wp_mono q fun ws h1 q => ?_
  rw [e]
  simp only
  rw [if_pos n]
  exact wp_noClo q
theorem w_isIn {g : D → D → Option D} {b : Bool → Bool} {ma mb : M} (q : wp (ma ρ h) fun y h1 => wp (mb ρ h1) fun x h2 => wp (inW g b y x h2) Q) : wp (mIn g b ma mb ρ h) Q := by
  unfold mIn
  rw [wp_bind]
  refine wp_mono q fun x h1 q => ?_
  rw [wp_bind]
  exact q
theorem w_inD {g : D → D → Option D} {b : Bool → Bool} {x y z : D} (e : g y x = some z) (q : Q (.d z) h) : wp (inW g b (.d y) (.d x) h) Q := by
  rw [inW_no rfl]
  exact w_op2d e q
end
end Dw
/-! what is asked of programs -/
namespace Dw
open PySem PySem.Spec PyProof.Rows L2
local macro_rules | `(tactic| walk_at "dw") => `(tactic| (repeat (first
  | ((with_reducible refine' w_var ?e ?_); (case e => rfl))
  | with_reducible refine w_c ?_
  | with_reducible refine s_seq ?_
  | with_reducible refine s_set ?_
  | with_reducible refine w_op2 ?_
  | with_reducible refine w_add ?_
  | with_reducible refine w_sub ?_
  | with_reducible refine w_eq ?_
  | with_reducible refine w_ne ?_
  | with_reducible refine w_lt ?_
  | with_reducible refine w_gt ?_
  | with_reducible refine w_le ?_
  | with_reducible refine w_ge ?_
  | with_reducible refine w_eqb ?_
  | with_reducible refine w_neb ?_
  | with_reducible refine w_cons ?_
  | with_reducible refine w_eqs ?_
  | with_reducible refine w_nes ?_
  | with_reducible refine w_isIn ?_
  | with_reducible refine w_isN ?_
  | with_reducible refine w_isNotN ?_
  | with_reducible refine w_nil ?_
  | with_reducible refine w_call ?_
  | with_reducible refine w_calW ?_
  | with_reducible refine w_cal ?_
  | with_reducible refine w_ix ?_
  | with_reducible refine w_sl ?_
  | with_reducible refine w_pn ?_
  | with_reducible refine w_rev ?_
  | with_reducible refine w_ps ?_
  | with_reducible refine w_chain ?_
  | with_reducible refine w_tup ?_
  | with_reducible refine w_lst ?_
  | with_reducible refine w_lstR ?_
  | with_reducible refine w_dict ?_
  | with_reducible refine w_isa ?_
  | with_reducible refine w_itR1 ?_
  | with_reducible refine w_itS ?_
  | ((with_reducible refine' w_ixt0 ?e ?_); (case e => rfl))
  | ((with_reducible refine' w_ixl0 ?e ?_); (case e => rfl))
  | ((with_reducible refine' w_ixt ?e ?_); (case e => rfl))
  | ((with_reducible refine' w_ixl ?e ?_); (case e => rfl))
  | with_reducible refine w_itR2 ?_
  | with_reducible refine w_itZ ?_
  | with_reducible refine w_itE ?_
  | with_reducible refine w_lc ?_
  | with_reducible refine s_par ?_
  | with_reducible refine s_par3 ?_
  | with_reducible refine s_asg ?_
  | with_reducible refine s_put ?_
  | with_reducible refine s_for ?_
  | with_reducible refine s_if ?_
  | with_reducible refine w_test ?_
  | with_reducible refine w_andT ?_
  | with_reducible refine w_orT ?_
  | with_reducible refine w_notT ?_
  | with_reducible refine w_ifE ?_
  | with_reducible refine w_andV ?_
  | with_reducible refine w_orV ?_
  | with_reducible refine w_notV ?_
  | with_reducible refine w_neg ?_
  | with_reducible refine s_ret ?_
  | with_reducible refine s_retN ?_
  | with_reducible refine s_skip ?_
  | with_reducible refine s_brk ?_
  | with_reducible refine s_cnt ?_
  | with_reducible refine s_expr ?_
  | with_reducible refine w_met ?_
  | with_reducible refine wp_ok.mpr ?_
  | with_reducible refine wps_rt.mpr ?_
  | with_reducible refine wps_nx.mpr ?_
  | with_reducible refine ite_t ?_
  | with_reducible refine ite_f ?_
  | ((with_reducible refine' w_mod ?e ?_); (case e => first | assumption | omega))
  | ((with_reducible refine' w_div ?e ?_); (case e => omega))
  | ((with_reducible refine' w_mul ?e ?_); (case e => omega))
  | ((with_reducible refine' Exists.intro _ (And.intro ?e ?_)); (case e => rfl))
  | ((with_reducible refine' Exists.intro _ (Exists.intro _ (And.intro ?e ?_))); (case e => rfl))
  | ((with_reducible refine' Exists.intro _ (Exists.intro _ (Exists.intro _ (And.intro ?e ?_)))); (case e => rfl))
  | ((with_reducible refine' ite_yes ?e ?_); (case e => rfl))
  | ((with_reducible refine' ite_no ?e ?_); (case e => rfl))
  | ((with_reducible refine And.intro ?e ?_); (case e => first | rfl | exact small_len _ (Nat.le_of_ble_eq_true rfl))))))
section
variable {g : GF} {t : MT} {elt : M} {keep : MH → Prop} {ρw : ME} {h : MH}
theorem w_selF {α : Type} {Q : List D → MH → Prop} {xs : List α} (f : α → D) (p : α → Bool) (e : α → D) (hk : keep h) (hl : xs.length ≤ 16000000)
    (H : ∀ x ∈ xs, ∃ ρ', g (.d (f x)) ρw = some ρ' ∧ wp (t ρ' h) fun b h' => h' = h ∧ b = p x ∧ (p x = true → wp (elt ρ' h) fun w h'' => w = .d (e x) ∧ h'' = h)) (q : Q ((xs.filter p).map e) h) : wp (lcRun g t elt keep ρw (List.map W.d (xs.map f)) [] h) Q := by
  rw [List.map_map]
  exact w_sel (fun x => W.d (f x)) p e hk hl H q
theorem w_mapF {α : Type} {Q : List D → MH → Prop} {xs : List α} (f : α → D) (e : α → D) (hk : keep h) (hl : xs.length ≤ 16000000)
    (H : ∀ x ∈ xs, ∃ ρ', g (.d (f x)) ρw = some ρ' ∧ wp (elt ρ' h) fun w h'' => w = .d (e x) ∧ h'' = h) (q : Q (xs.map e) h) : wp (lcRun g mYes elt keep ρw (List.map W.d (xs.map f)) [] h) Q := by
  rw [List.map_map]
  exact w_map (fun x => W.d (f x)) e hk hl H q
end
theorem ct_tup (c : Ct) : (ctD c).isTuple = isO c := by cases c <;> rfl
theorem ct_int (c : Ct) : (ctD c).isInt = !isO c := by cases c <;> rfl
section
variable {Q : W → MH → Prop} {h : MH} {p : Prog} {n : Str}
theorem names_ok (hp : p.length ≤ 1000) : m_names [.d (progD p)] h = .ok (.d (.tuple (sDs (namesP p)))) h := wp_congr_of <| by
  refine wp_fn ?_
  unfold b_names progD
  walk_at "dw"
  unfold lc_names_1
  walk_at "dw"
  refine w_mapF cellD (fun c => .str c.1) trivial (by omega) (fun x _ => ⟨_, rfl, ?_⟩) ?_
  · unfold ce_names_1
    walk_at "dw"
    rfl
  walk_at "dw"
  rw [retW_same, wp_ok]
  unfold sDs namesP
  rw [List.map_map]
  exact ⟨rfl, rfl⟩
theorem orders_ok (hp : p.length ≤ 1000) : m_orders [.d (progD p)] h = .ok (.d (.tuple (sDs (ordersP p)))) h := wp_congr_of <| by
  refine wp_fn ?_
  unfold b_orders progD
  walk_at "dw"
  unfold lc_orders_1
  walk_at "dw"
  refine w_selF cellD (fun c => isO c.2) (fun c => .str c.1) trivial (by omega) (fun x _ => ⟨_, rfl, ?_⟩) ?_
  · unfold ct_orders_1
    walk_at "dw"
    refine ⟨ct_tup _, fun _ => ?_⟩
    unfold ce_orders_1
    walk_at "dw"
    rfl
  walk_at "dw"
  rw [retW_same, wp_ok]
  unfold sDs ordersP
  rw [List.map_map]
  exact ⟨rfl, rfl⟩
theorem words_ok (hp : p.length ≤ 1000) : m_words [.d (progD p)] h = .ok (.d (.tuple (sDs (wordsP p)))) h := wp_congr_of <| by
  refine wp_fn ?_
  unfold b_words progD
  walk_at "dw"
  unfold lc_words_1
  walk_at "dw"
  refine w_selF cellD (fun c => !isO c.2) (fun c => .str c.1) trivial (by omega) (fun x _ => ⟨_, rfl, ?_⟩) ?_
  · unfold ct_words_1
    walk_at "dw"
    refine ⟨ct_int _, fun _ => ?_⟩
    unfold ce_words_1
    walk_at "dw"
    rfl
  walk_at "dw"
  rw [retW_same, wp_ok]
  unfold sDs wordsP
  rw [List.map_map]
  exact ⟨rfl, rfl⟩
end
end Dw
/-! what is asked of programs: contents, layings -/
namespace Dw
open PySem PySem.Spec PyProof.Rows L2
local macro_rules | `(tactic| walk_at "dw") => `(tactic| (repeat (first
  | ((with_reducible refine' w_var ?e ?_); (case e => rfl))
  | with_reducible refine w_c ?_
  | with_reducible refine s_seq ?_
  | with_reducible refine s_set ?_
  | with_reducible refine w_op2 ?_
  | with_reducible refine w_add ?_
  | with_reducible refine w_sub ?_
  | with_reducible refine w_eq ?_
  | with_reducible refine w_ne ?_
  | with_reducible refine w_lt ?_
  | with_reducible refine w_gt ?_
  | with_reducible refine w_le ?_
  | with_reducible refine w_ge ?_
  | with_reducible refine w_eqb ?_
  | with_reducible refine w_neb ?_
  | with_reducible refine w_cons ?_
  | with_reducible refine w_eqs ?_
  | with_reducible refine w_nes ?_
  | with_reducible refine w_isIn ?_
  | with_reducible refine w_isN ?_
  | with_reducible refine w_isNotN ?_
  | with_reducible refine w_nil ?_
  | with_reducible refine w_call ?_
  | with_reducible refine w_calW ?_
  | with_reducible refine w_cal ?_
  | with_reducible refine w_ix ?_
  | with_reducible refine w_sl ?_
  | with_reducible refine w_pn ?_
  | with_reducible refine w_rev ?_
  | with_reducible refine w_ps ?_
  | with_reducible refine w_chain ?_
  | with_reducible refine w_tup ?_
  | with_reducible refine w_lst ?_
  | with_reducible refine w_lstR ?_
  | with_reducible refine w_dict ?_
  | with_reducible refine w_isa ?_
  | with_reducible refine w_itR1 ?_
  | with_reducible refine w_itS ?_
  | ((with_reducible refine' w_ixt0 ?e ?_); (case e => rfl))
  | ((with_reducible refine' w_ixl0 ?e ?_); (case e => rfl))
  | ((with_reducible refine' w_ixt ?e ?_); (case e => rfl))
  | ((with_reducible refine' w_ixl ?e ?_); (case e => rfl))
  | with_reducible refine w_itR2 ?_
  | with_reducible refine w_itZ ?_
  | with_reducible refine w_itE ?_
  | with_reducible refine w_lc ?_
  | with_reducible refine s_par ?_
  | with_reducible refine s_par3 ?_
  | with_reducible refine s_asg ?_
  | with_reducible refine s_put ?_
  | with_reducible refine s_for ?_
  | with_reducible refine s_if ?_
  | with_reducible refine w_test ?_
  | with_reducible refine w_andT ?_
  | with_reducible refine w_orT ?_
  | with_reducible refine w_notT ?_
  | with_reducible refine w_ifE ?_
  | with_reducible refine w_andV ?_
  | with_reducible refine w_orV ?_
  | with_reducible refine w_notV ?_
  | with_reducible refine w_neg ?_
  | with_reducible refine s_ret ?_
  | with_reducible refine s_retN ?_
  | with_reducible refine s_skip ?_
  | with_reducible refine s_brk ?_
  | with_reducible refine s_cnt ?_
  | with_reducible refine s_expr ?_
  | with_reducible refine w_met ?_
  | with_reducible refine wp_ok.mpr ?_
  | with_reducible refine wps_rt.mpr ?_
  | with_reducible refine wps_nx.mpr ?_
  | with_reducible refine ite_t ?_
  | with_reducible refine ite_f ?_
  | ((with_reducible refine' w_mod ?e ?_); (case e => first | assumption | omega))
  | ((with_reducible refine' w_div ?e ?_); (case e => omega))
  | ((with_reducible refine' w_mul ?e ?_); (case e => omega))
  | ((with_reducible refine' Exists.intro _ (And.intro ?e ?_)); (case e => rfl))
  | ((with_reducible refine' Exists.intro _ (Exists.intro _ (And.intro ?e ?_))); (case e => rfl))
  | ((with_reducible refine' Exists.intro _ (Exists.intro _ (Exists.intro _ (And.intro ?e ?_)))); (case e => rfl))
  | ((with_reducible refine' ite_yes ?e ?_); (case e => rfl))
  | ((with_reducible refine' ite_no ?e ?_); (case e => rfl))
  | ((with_reducible refine And.intro ?e ?_); (case e => first | rfl | exact small_len _ (Nat.le_of_ble_eq_true rfl))))))
/-! ### loops, one turn after the other -/
section
variable {N B C : PS} {R : W → MH → Prop} {ρ : ME} {h : MH} {a : MS} {g : GF} {keep : MH → Prop} {w : W} {ws : List W}
theorem loop_nil (hk : keep h) (q : N ρ h) : wps (mLoop g a keep [] ρ h) N R B C := by
  unfold mLoop
  rw [if_pos hk]
  exact wps_nx.mpr q
theorem loop_cons {ρ1 : ME} (hk : keep h) (e : g w ρ = some ρ1) (p : wps (a ρ1 h) (fun ρ2 h2 => wps (mLoop g a keep ws ρ2 h2) N R B C) R N (fun ρ2 h2 => wps (mLoop g a keep ws ρ2 h2) N R B C)) : wps (mLoop g a keep (w :: ws) ρ h) N R B C := by
  unfold mLoop
  rw [if_pos hk, e]
  show wps (match a ρ1 h with
      | .nx ρ2 h2 => mLoop g a keep ws ρ2 h2
      | .ct ρ2 h2 => mLoop g a keep ws ρ2 h2
      | .bk ρ2 h2 => .nx ρ2 h2
      | r => r) N R B C
  cases q : a ρ1 h with
  | nx ρ2 h2 => rw [q] at p; exact wps_nx.mp p
  | ct ρ2 h2 => rw [q] at p; exact wps_ct.mp p
  | bk ρ2 h2 => rw [q] at p; exact wps_nx.mpr (wps_bk.mp p)
  | rt w h2 => rw [q] at p; exact wps_rt.mpr (wps_rt.mp p)
  | exc c r h2 => rw [q] at p; exact (wps_exc.mp p).elim
  | stuck => rw [q] at p; exact (wps_stuck.mp p).elim
end
/-! ### lists of texts -/
theorem depth_strs : ∀ ns : List Str, PyData.depthAll (sDs ns) ≤ 1
  | [] => by simp [PyData.depthAll]
  | n :: ns => by
    have := depth_strs ns
    simp [sDs, PyData.depthAll, PyData.depth] at *
    omega
@[simp] theorem anyEqv_strs (ns : List Str) (i : Str) : anyEqv (sDs ns) (.str i) = decide (i ∈ ns) := by
  unfold anyEqv
  rw [Bool.eq_iff_iff]
  simp only [List.any_eq_true, decide_eq_true_eq, sDs, List.mem_map]
  constructor
  · rintro ⟨x, ⟨j, hj, rfl⟩, e⟩
    simp [PyData.eqv] at e
    exact e ▸ hj
  · intro hi
    exact ⟨.str i, ⟨i, hi, rfl⟩, by simp [PyData.eqv]⟩
theorem fIn_ts (ns : List Str) (i : Str) : fIn (.str i) (.tuple (sDs ns)) = some (.bool (decide (i ∈ ns))) := by
  show (if _ then _ else _) = _
  rw [if_pos (by have : PyData.depth (.str i) = 0 := by simp [PyData.depth]
                 omega), anyEqv_strs]
theorem fIn_ls (ns : List Str) (i : Str) : fIn (.str i) (.list (sDs ns)) = some (.bool (decide (i ∈ ns))) := by
  show (if _ then _ else _) = _
  rw [if_pos (by have : PyData.depth (.str i) = 0 := by simp [PyData.depth]
                 omega), anyEqv_strs]
theorem fNotIn_ts (ns : List Str) (i : Str) : fNotIn (.str i) (.tuple (sDs ns)) = some (.bool (!decide (i ∈ ns))) := by
  show (if _ then _ else _) = _
  rw [if_pos (by have : PyData.depth (.str i) = 0 := by simp [PyData.depth]
                 omega), anyEqv_strs]
theorem fNotIn_ls (ns : List Str) (i : Str) : fNotIn (.str i) (.list (sDs ns)) = some (.bool (!decide (i ∈ ns))) := by
  show (if _ then _ else _) = _
  rw [if_pos (by have : PyData.depth (.str i) = 0 := by simp [PyData.depth]
                 omega), anyEqv_strs]
section
variable {Q : W → MH → Prop} {h : MH} {i : Nat} {n : Str} {α : Type} {f : α → D} {p : List (Str × α)}
theorem w_inTs {g : Bool → Bool} {ns : List Str} (q : Q (.d (.bool (decide (n ∈ ns)))) h) : wp (inW fIn g (.d (.str n)) (.d (.tuple (sDs ns))) h) Q := w_inD (fIn_ts _ _) q
theorem w_inLs {g : Bool → Bool} {ns : List Str} (q : Q (.d (.bool (decide (n ∈ ns)))) h) : wp (inW fIn g (.d (.str n)) (.d (.list (sDs ns))) h) Q := w_inD (fIn_ls _ _) q
theorem w_ninTs {g : Bool → Bool} {ns : List Str} (q : Q (.d (.bool (!decide (n ∈ ns)))) h) : wp (inW fNotIn g (.d (.str n)) (.d (.tuple (sDs ns))) h) Q := w_inD (fNotIn_ts _ _) q
theorem w_ninLs {g : Bool → Bool} {ns : List Str} (q : Q (.d (.bool (!decide (n ∈ ns)))) h) : wp (inW fNotIn g (.d (.str n)) (.d (.list (sDs ns))) h) Q := w_inD (fNotIn_ls _ _) q
theorem w_inTi {g : Bool → Bool} {ns : List Int} {n : Int} (q : Q (.d (.bool (decide (n ∈ ns)))) h) : wp (inW fIn g (.d (.int n)) (.d (.tuple (iD ns))) h) Q := w_inD (fIn_t _ _) q
theorem w_inLi {g : Bool → Bool} {ns : List Int} {n : Int} (q : Q (.d (.bool (decide (n ∈ ns)))) h) : wp (inW fIn g (.d (.int n)) (.d (.list (iD ns))) h) Q := w_inD (fIn_l _ _) q
theorem w_ninTi {g : Bool → Bool} {ns : List Int} {n : Int} (q : Q (.d (.bool (!decide (n ∈ ns)))) h) : wp (inW fNotIn g (.d (.int n)) (.d (.tuple (iD ns))) h) Q := w_inD (fNotIn_t _ _) q
theorem w_ninLi {g : Bool → Bool} {ns : List Int} {n : Int} (q : Q (.d (.bool (!decide (n ∈ ns)))) h) : wp (inW fNotIn g (.d (.int n)) (.d (.list (iD ns))) h) Q := w_inD (fNotIn_l _ _) q
theorem w_inKv {g : D → D → Option D} {b : Bool → Bool} (e : h[i]? = some (.dk (kvG f p))) (q : Q (.d (.bool (b (p.lookup n).isSome))) h) : wp (inW g b (.d (.str n)) (.ref i) h) Q := by
  unfold inW
  simp only [e, rd, Option.bind_some, keyD]
  refine wp_ok.mpr ?_
  rw [valD_kvG, Option.isSome_map]
  exact q
end
theorem look_isSome {α : Type} {p : List (Str × α)} {n : Str} : (p.lookup n).isSome = decide (n ∈ p.map (·.1)) := by
  rw [Bool.eq_iff_iff, decide_eq_true_eq]
  constructor
  · intro h
    obtain ⟨c, e⟩ := Option.isSome_iff_exists.mp h
    exact List.mem_map_of_mem (f := fun x : Str × α => x.1) (lookup_mem e)
  · intro h
    obtain ⟨c, e⟩ := lookup_some h
    rw [e]; rfl
/-! ### exceptions -/
theorem excW_same (h : MH) (c : Str) : excW h c h = .exc c h := by
  unfold excW
  rw [if_pos (Okt.refl h)]
  simp
theorem excW_app (h t : MH) (c : Str) : excW h c (h ++ t) = .exc c h := by
  unfold excW
  rw [if_pos okt_app]
  simp
theorem fn_exc {n : Nat} {b : MS} {ws : List W} {h h' : MH} {ρ : ME} {c : Str} (e : b (ws.map some ++ List.replicate (n - ws.length) none) h = .exc c ρ h') : mFn n b ws h = excW h c h' := by
  unfold mFn
  rw [e]
theorem seq_exc {a b : MS} {ρ ρ' : ME} {h h' : MH} {c : Str} (e : a ρ h = .exc c ρ' h') : mSeq a b ρ h = .exc c ρ' h' := by
  unfold mSeq
  rw [e]
theorem seq_nx {a b : MS} {ρ ρ' : ME} {h h' : MH} (e : a ρ h = .nx ρ' h') : mSeq a b ρ h = b ρ' h' := by
  unfold mSeq
  rw [e]
theorem if_t {t : MT} {a b : MS} {ρ : ME} {h h' : MH} (e : t ρ h = .ok true h') : mIfS t a b ρ h = a ρ h' := by
  unfold mIfS
  rw [e]
  rfl
theorem if_f {t : MT} {a b : MS} {ρ : ME} {h h' : MH} (e : t ρ h = .ok false h') : mIfS t a b ρ h = b ρ h' := by
  unfold mIfS
  rw [e]
  rfl
theorem nx_of {a : MS} {ρ ρ' : ME} {h h' : MH} (p : wps (a ρ h) (fun x y => x = ρ' ∧ y = h') (fun _ _ => False) (fun _ _ => False) (fun _ _ => False)) : a ρ h = .nx ρ' h' := by
  obtain ⟨p⟩ := p
  cases q : a ρ h with
  | nx x y => rw [q] at p; obtain ⟨rfl, rfl⟩ := p; rfl
  | rt _ _ => rw [q] at p; exact p.elim
  | bk _ _ => rw [q] at p; exact p.elim
  | ct _ _ => rw [q] at p; exact p.elim
  | exc _ _ _ => rw [q] at p; exact p.elim
  | stuck => rw [q] at p; exact p.elim
theorem expr_exc {m : M} {ρ : ME} {h h' : MH} {c : Str} (e : m ρ h = .exc c h') : mExpr m ρ h = .exc c ρ h' := by
  unfold mExpr
  rw [e]
section
variable {Q : W → MH → Prop} {h : MH} {p : Prog} {n : Str}
theorem need_test (hp : p.length ≤ 1000) {b : Bool} (hb : b = !decide (n ∈ ordersP p)) : (mTest (mIn fNotIn (fun k => !k) (mVar 1) (mCall m_orders (mCons (mVar 0) mNil)))) [some (.d (progD p)), some (.d (.str n))] h = .ok b h := wp_congr_of <| by
  walk_at "dw"
  refine w_of (orders_ok hp) ?_
  refine w_ninTs ?_
  exact ⟨_, rfl, hb.symm, rfl⟩
theorem need_ok (hp : p.length ≤ 1000) (hn : n ∈ ordersP p) : m_need_order [.d (progD p), .d (.str n)] h = .ok (.d .none) h := by
  show (match b_need_order [some (.d (progD p)), some (.d (.str n))] h with
    | .nx _ h' => retW h (.d .none) h'
    | .rt w h' => retW h w h'
    | .exc c _ h' => excW h c h'
    | _ => .stuck) = _
  unfold b_need_order
  rw [if_f (need_test hp (by simp [hn]))]
  exact retW_same h .none
theorem need_no (hp : p.length ≤ 1000) (hn : n ∉ ordersP p) : m_need_order [.d (progD p), .d (.str n)] h = .exc "NoName" h := by
  unfold m_need_order
  rw [fn_exc (h' := h) (ρ := [some (.d (progD p)), some (.d (.str n))]) (c := "NoName"), excW_same]
  show b_need_order [some (.d (progD p)), some (.d (.str n))] h = _
  unfold b_need_order
  rw [if_t (need_test hp (by simp [hn]))]
  rfl
theorem content_ok (hp : p.length ≤ 1000) (nd : (namesP p).Nodup) {c : Ct} (e : p.lookup n = some c) : m_content_of [.d (progD p), .d (.str n)] h = .ok (.d (ctD c)) h := wp_congr_of <| by
  refine wp_fn ?_
  unfold b_content_of progD
  walk_at "dw"
  refine w_dictT nd (by omega) ?_
  walk_at "dw"
  refine w_inKv app_at ?_
  rw [e]
  walk_at "dw"
  refine w_ixkv app_at e ?_
  rw [retW_app, wp_ok]
  exact ⟨rfl, rfl⟩
end
/-! ### layings -/
def spotsOf (sp : Int) : List Str → List D → Option (List Int)
  | [], [] => some []
  | n :: ns, .tuple [.str m, .int s] :: es => if m = n ∧ 0 ≤ s ∧ s < sp then (spotsOf sp ns es).map (s :: ·) else none
  | _, _ => none
def isLayB (sp : Int) (ns : List Str) (x : D) : Bool := match x with
  | .tuple es => (match spotsOf sp ns es with
    | some ss => decide ss.Nodup
    | none => false)
  | _ => false
theorem dedup_len : ∀ (ns acc : List Int), (ns.foldl step_dedup acc).length ≤ acc.length + ns.length ∧ ((ns.foldl step_dedup acc).length = acc.length + ns.length ↔ ns.Nodup ∧ ∀ x ∈ ns, x ∉ acc)
  | [], acc => by simp
  | n :: ns, acc => by
    rw [List.foldl_cons, show step_dedup acc n = if acc.any (· == n) then acc else acc ++ [n] from rfl]
    by_cases hn : n ∈ acc
    · rw [if_pos (by simpa using hn)]
      obtain ⟨h1, h2⟩ := dedup_len ns acc
      refine ⟨by rw [List.length_cons]; omega, fun z => ?_, fun z => absurd hn (z.2 n (by simp))⟩
      rw [List.length_cons] at z
      omega
    · rw [if_neg (by simpa using hn)]
      obtain ⟨h1, h2⟩ := dedup_len ns (acc ++ [n])
      rw [List.length_append, List.length_singleton] at h1 h2
      rw [List.length_cons, List.nodup_cons]
      refine ⟨by omega, ⟨fun z => ?_, fun z => ?_⟩⟩
      · obtain ⟨a, b⟩ := h2.mp (by omega)
        refine ⟨⟨fun y => ?_, a⟩, fun x hx => ?_⟩
        · exact b n y (by simp)
        · rcases List.mem_cons.mp hx with rfl | hx
          · exact hn
          · exact fun y => b x hx (by simp [y])
      · have := h2.mpr ⟨z.1.2, fun x hx y => ?_⟩
        · omega
        · rcases List.mem_append.mp y with y | y
          · exact z.2 x (by simp [hx]) y
          · simp at y
            subst y
            exact z.1.1 hx
theorem setLen_nd (ns : List Int) : ((setLen ns : Int) == (ns.length : Int)) = decide ns.Nodup := by
  have e : setLen ns = (ns.foldl step_dedup []).length := by
    unfold setLen firstMet
    congr 2
    refine List.ext_getElem (by simp) fun i h1 h2 => ?_
    simp [List.getD_eq_getElem?_getD, List.getElem?_eq_getElem h2]
  obtain ⟨h1, h2⟩ := dedup_len ns []
  rw [e, Bool.eq_iff_iff, decide_eq_true_eq]
  simp only [beq_iff_eq]
  simp at h2
  constructor
  · intro z
    exact h2.mp (by exact_mod_cast z)
  · intro z
    exact_mod_cast h2.mpr z
end Dw
/-! layings -/
namespace Dw
open PySem PySem.Spec PyProof.Rows L2
local macro_rules | `(tactic| walk_at "dw") => `(tactic| (repeat (first
  | ((with_reducible refine' w_var ?e ?_); (case e => rfl))
  | with_reducible refine w_c ?_
  | with_reducible refine s_seq ?_
  | with_reducible refine s_set ?_
  | with_reducible refine w_op2 ?_
  | with_reducible refine w_add ?_
  | with_reducible refine w_sub ?_
  | with_reducible refine w_eq ?_
  | with_reducible refine w_ne ?_
  | with_reducible refine w_lt ?_
  | with_reducible refine w_gt ?_
  | with_reducible refine w_le ?_
  | with_reducible refine w_ge ?_
  | with_reducible refine w_eqb ?_
  | with_reducible refine w_neb ?_
  | with_reducible refine w_cons ?_
  | with_reducible refine w_eqs ?_
  | with_reducible refine w_nes ?_
  | with_reducible refine w_isIn ?_
  | with_reducible refine w_isN ?_
  | with_reducible refine w_isNotN ?_
  | with_reducible refine w_nil ?_
  | with_reducible refine w_call ?_
  | with_reducible refine w_calW ?_
  | with_reducible refine w_cal ?_
  | with_reducible refine w_ix ?_
  | with_reducible refine w_sl ?_
  | with_reducible refine w_pn ?_
  | with_reducible refine w_rev ?_
  | with_reducible refine w_ps ?_
  | with_reducible refine w_chain ?_
  | with_reducible refine w_tup ?_
  | with_reducible refine w_lst ?_
  | with_reducible refine w_lstR ?_
  | with_reducible refine w_dict ?_
  | with_reducible refine w_isa ?_
  | with_reducible refine w_itR1 ?_
  | with_reducible refine w_itS ?_
  | ((with_reducible refine' w_ixt0 ?e ?_); (case e => rfl))
  | ((with_reducible refine' w_ixl0 ?e ?_); (case e => rfl))
  | ((with_reducible refine' w_ixt ?e ?_); (case e => rfl))
  | ((with_reducible refine' w_ixl ?e ?_); (case e => rfl))
  | with_reducible refine w_itR2 ?_
  | with_reducible refine w_itZ ?_
  | with_reducible refine w_itE ?_
  | with_reducible refine w_lc ?_
  | with_reducible refine s_par ?_
  | with_reducible refine s_par3 ?_
  | with_reducible refine s_asg ?_
  | with_reducible refine s_put ?_
  | with_reducible refine s_for ?_
  | with_reducible refine s_if ?_
  | with_reducible refine w_test ?_
  | with_reducible refine w_andT ?_
  | with_reducible refine w_orT ?_
  | with_reducible refine w_notT ?_
  | with_reducible refine w_ifE ?_
  | with_reducible refine w_andV ?_
  | with_reducible refine w_orV ?_
  | with_reducible refine w_notV ?_
  | with_reducible refine w_neg ?_
  | with_reducible refine s_ret ?_
  | with_reducible refine s_retN ?_
  | with_reducible refine s_skip ?_
  | with_reducible refine s_brk ?_
  | with_reducible refine s_cnt ?_
  | with_reducible refine s_expr ?_
  | with_reducible refine w_met ?_
  | with_reducible refine wp_ok.mpr ?_
  | with_reducible refine wps_rt.mpr ?_
  | with_reducible refine wps_nx.mpr ?_
  | with_reducible refine ite_t ?_
  | with_reducible refine ite_f ?_
  | ((with_reducible refine' w_mod ?e ?_); (case e => first | assumption | omega))
  | ((with_reducible refine' w_div ?e ?_); (case e => omega))
  | ((with_reducible refine' w_mul ?e ?_); (case e => omega))
  | ((with_reducible refine' Exists.intro _ (And.intro ?e ?_)); (case e => rfl))
  | ((with_reducible refine' Exists.intro _ (Exists.intro _ (And.intro ?e ?_))); (case e => rfl))
  | ((with_reducible refine' Exists.intro _ (Exists.intro _ (Exists.intro _ (And.intro ?e ?_)))); (case e => rfl))
  | ((with_reducible refine' ite_yes ?e ?_); (case e => rfl))
  | ((with_reducible refine' ite_no ?e ?_); (case e => rfl))
  | ((with_reducible refine And.intro ?e ?_); (case e => first | rfl | exact small_len _ (Nat.le_of_ble_eq_true rfl))))))
theorem spotsOf_len {sp : Int} : ∀ {ns : List Str} {es : List D} {ss : List Int}, spotsOf sp ns es = some ss → es.length = ns.length ∧ ss.length = ns.length
  | [], [], ss, e => by cases e; exact ⟨rfl, rfl⟩
  | [], _ :: _, ss, e => by simp [spotsOf] at e
  | n :: ns, [], ss, e => by simp [spotsOf] at e
  | n :: ns, x :: es, ss, e => by
    unfold spotsOf at e
    split at e
    · rename_i h; cases h
    · rename_i n' ns' m s es' h1 h2
      cases h1
      cases h2
      split at e
      · obtain ⟨r, e1, rfl⟩ := Option.map_eq_some_iff.mp e
        obtain ⟨h1, h2⟩ := spotsOf_len e1
        simp [h1, h2]
      · cases e
    · cases e
/-- one place of a laying is right -/
def spotB (sp : Int) (n : Str) (e : D) : Option Int := match e with
  | .tuple [.str m, .int s] => if m = n ∧ 0 ≤ s ∧ s < sp then some s else none
  | _ => none
theorem spotsOf_cons {sp : Int} {n : Str} {ns : List Str} {e : D} {es : List D} : spotsOf sp (n :: ns) (e :: es) = (spotB sp n e).bind fun s => (spotsOf sp ns es).map (s :: ·) := by
  conv => lhs; unfold spotsOf
  unfold spotB
  split
  · rename_i h; cases h
  · rename_i n' ns' m s es' h1 h2
    cases h1
    cases h2
    show _ = (if m = n ∧ 0 ≤ s ∧ s < sp then some s else none).bind _
    by_cases hc : m = n ∧ 0 ≤ s ∧ s < sp
    · rw [if_pos hc, if_pos hc]; rfl
    · rw [if_neg hc, if_neg hc]; rfl
  · rename_i h
    split
    · rename_i m s _
      exact absurd rfl (h n ns m s es rfl)
    · rfl
theorem spotB_is {sp s : Int} {n m : Str} : spotB sp n (.tuple [.str m, .int s]) = if m = n ∧ 0 ≤ s ∧ s < sp then some s else none := rfl
theorem spotB_one {sp : Int} {n : Str} {a : D} : spotB sp n (.tuple [a]) = none := by cases a <;> rfl
theorem spotB_three {sp : Int} {n : Str} {a b c : D} {r : List D} : spotB sp n (.tuple (a :: b :: c :: r)) = none := by cases a <;> first | rfl | (cases b <;> rfl)
section
variable {sp : Int} {hd : List Int} {n : Str} {e x : D} {h : MH} {N B C : PS} {R : W → MH → Prop} {v0 v1 v2 v5 v6 : Option W}
theorem lay_one (q : spotB sp n e = none → R (.d (.bool false)) h) (q' : ∀ s, spotB sp n e = some s → N [some (.d (drumD sp hd)), v1, v2, some (.d (.str n)), some (.d e), v5, v6] h) :
    wps (lb_is_laying_2 [some (.d (drumD sp hd)), v1, v2, some (.d (.str n)), some (.d e), v5, v6] h) N R B C := by
  have no : ∀ {P : Prop}, (spotB sp n e = none → P) → (∀ s, spotB sp n e = some s → P) → P := fun a b => by
    cases hs : spotB sp n e with
    | none => exact a hs
    | some s => exact b s hs
  unfold lb_is_laying_2 drumD
  cases e with
  | tuple es =>
    match es with
    | [] => walk_at "dw"; exact q rfl
    | [_] => walk_at "dw"; exact q spotB_one
    | a :: b :: c :: r =>
      walk_at "dw"
      exact q spotB_three
    | [a, b] =>
      cases a with
      | str m =>
        walk_at "dw"
        by_cases hm : m = n
        · subst hm
          refine ite_no (by simp) ?_
          walk_at "dw"
          cases b with
          | int s =>
            walk_at "dw"
            refine ite_b (fun h1 => ?_) (fun h1 => ?_)
            · walk_at "dw"
              refine ite_b (fun h2 => ?_) (fun h2 => ?_)
              · walk_at "dw"
                exact q (by simp at h1 h2; rw [spotB_is, if_neg (by omega)])
              · walk_at "dw"
                exact q' s (by simp at h1 h2; rw [spotB_is, if_pos ⟨rfl, h1, h2⟩])
            · walk_at "dw"
              exact q (by simp at h1; rw [spotB_is, if_neg (by omega)])
          | bool _ => walk_at "dw"; exact q rfl
          | none => walk_at "dw"; exact q rfl
          | str _ => walk_at "dw"; exact q rfl
          | list _ => walk_at "dw"; exact q rfl
          | tuple _ => walk_at "dw"; exact q rfl
          | dict _ => walk_at "dw"; exact q rfl
        · refine ite_yes (by simp [hm]) ?_
          walk_at "dw"
          exact q (by unfold spotB; split <;> simp_all)
      | int _ => walk_at "dw"; exact q rfl
      | bool _ => walk_at "dw"; exact q rfl
      | none => walk_at "dw"; exact q rfl
      | list _ => walk_at "dw"; exact q rfl
      | tuple _ => walk_at "dw"; exact q rfl
      | dict _ => walk_at "dw"; exact q rfl
  | int _ => walk_at "dw"; exact q rfl
  | bool _ => walk_at "dw"; exact q rfl
  | none => walk_at "dw"; exact q rfl
  | str _ => walk_at "dw"; exact q rfl
  | list _ => walk_at "dw"; exact q rfl
  | dict _ => walk_at "dw"; exact q rfl
theorem lay_loop : ∀ {ns : List Str} {es : List D} {v3 v4 : Option W}, es.length = ns.length → (spotsOf sp ns es = none → R (.d (.bool false)) h) →
    (∀ ss v3 v4, spotsOf sp ns es = some ss → N [some (.d (drumD sp hd)), v1, v2, v3, v4, v5, v6] h) →
    wps (mLoop (gTp 2 (gsCons (gNm 3) (gsCons (gNm 4) gsNil))) lb_is_laying_2 anyH (zipW (sDs ns) es) [some (.d (drumD sp hd)), v1, v2, v3, v4, v5, v6] h) N R B C
  | [], [], v3, v4, _, _, q' => loop_nil trivial (q' [] v3 v4 rfl)
  | n :: ns, e :: es, v3, v4, hl, q, q' => by
    refine loop_cons (w := .tup [.d (.str n), .d e]) trivial rfl ?_
    refine lay_one (fun z => q (by rw [spotsOf_cons, z]; rfl)) fun s z => ?_
    refine lay_loop (by simpa using hl) (fun y => q (by rw [spotsOf_cons, z, y]; rfl)) fun ss v3 v4 y => q' (s :: ss) v3 v4 (by rw [spotsOf_cons, z, y]; rfl)
end
theorem spots_map {sp : Int} : ∀ {ns : List Str} {es : List D} {ss : List Int}, spotsOf sp ns es = some ss → es = (ns.zip ss).map spotD
  | [], [], ss, e => by cases e; rfl
  | [], _ :: _, ss, e => by simp [spotsOf] at e
  | n :: ns, [], ss, e => by simp [spotsOf] at e
  | n :: ns, x :: es, ss, e => by
    rw [spotsOf_cons] at e
    obtain ⟨s, e1, e2⟩ := Option.bind_eq_some_iff.mp e
    obtain ⟨r, e3, rfl⟩ := Option.map_eq_some_iff.mp e2
    unfold spotB at e1
    split at e1
    · rename_i m t
      split at e1
      · rename_i hh
        cases e1
        rw [spots_map e3, hh.1]
        rfl
      · cases e1
    · cases e1
theorem intsD_iD : ∀ ns : List Int, intsD (iD ns) = some ns
  | [] => rfl
  | n :: ns => by
    simp only [iD, List.map_cons, intsD]
    have := intsD_iD ns
    unfold iD at this
    rw [this]
    rfl
theorem is_laying_ok {sp : Int} {hd : List Int} {p : Prog} (hp : p.length ≤ 1000) (x : D) (h : MH) : m_is_laying [.d (drumD sp hd), .d (progD p), .d x] h = .ok (.d (.bool (isLayB sp (namesP p) x))) h := wp_congr_of <| by
  refine wp_fn ?_
  unfold b_is_laying
  cases x with
  | tuple es =>
    walk_at "dw"
    refine w_of (names_ok hp) ?_
    walk_at "dw"
    refine ite_b (fun h1 => ?_) (fun h1 => ?_)
    · walk_at "dw"
      rw [retW_same, wp_ok]
      refine ⟨?_, rfl⟩
      unfold isLayB
      simp only
      cases hs : spotsOf sp (namesP p) es with
      | none => rfl
      | some ss =>
        have := (spotsOf_len hs).1
        simp [this] at h1
    · simp at h1
      have hl : es.length = (namesP p).length := by omega
      walk_at "dw"
      refine w_of (names_ok hp) ?_
      walk_at "dw"
      refine lay_loop hl (fun hs => ?_) (fun ss v3 v4 hs => ?_)
      · rw [retW_same, wp_ok]
        refine ⟨?_, rfl⟩
        unfold isLayB
        simp only [hs]
      · walk_at "dw"
        unfold lc_is_laying_1
        walk_at "dw"
        have e := spots_map hs
        obtain ⟨h2, h3⟩ := spotsOf_len hs
        have hz : ((namesP p).zip ss).length = ss.length := by rw [List.length_zip]; omega
        have hs1 : ss.length ≤ 1000 := by rw [h3]; unfold namesP; rw [List.length_map]; exact hp
        subst e
        refine w_mapF spotD (fun c => .int c.2) trivial (by omega) (fun x _ => ⟨_, rfl, ?_⟩) ?_
        · unfold ce_is_laying_1
          walk_at "dw"
          rfl
        have e2 : ((namesP p).zip ss).map (fun c : Str × Int => PyData.int c.2) = iD ss := by
          rw [show (fun c : Str × Int => PyData.int c.2) = PyData.int ∘ Prod.snd from rfl, ← List.map_map, List.map_snd_zip (by omega)]
        rw [e2]
        walk_at "dw"
        unfold mLenSet
        rw [wp_bind]
        walk_at "dw"
        simp only [rd_d, intsD_iD]
        rw [if_pos (by omega)]
        walk_at "dw"
        rw [retW_same, wp_ok]
        refine ⟨?_, rfl⟩
        unfold isLayB
        simp only [hs]
        have := setLen_nd ss
        simp only [iD, List.length_map]
        rw [← this]
  | int _ => walk_at "dw"; rw [retW_same, wp_ok]; exact ⟨rfl, rfl⟩
  | bool _ => walk_at "dw"; rw [retW_same, wp_ok]; exact ⟨rfl, rfl⟩
  | none => walk_at "dw"; rw [retW_same, wp_ok]; exact ⟨rfl, rfl⟩
  | str _ => walk_at "dw"; rw [retW_same, wp_ok]; exact ⟨rfl, rfl⟩
  | list _ => walk_at "dw"; rw [retW_same, wp_ok]; exact ⟨rfl, rfl⟩
  | dict _ => walk_at "dw"; rw [retW_same, wp_ok]; exact ⟨rfl, rfl⟩
/-- a laying -/
structure LayOk (sp : Int) (p : Prog) (l : Lay) : Prop where
  nm : l.map (·.1) = namesP p
  rg : ∀ x ∈ l, 0 ≤ x.2 ∧ x.2 < sp
  nd : (l.map (·.2)).Nodup
theorem spotsOf_lay {sp : Int} : ∀ {l : Lay}, (∀ x ∈ l, 0 ≤ x.2 ∧ x.2 < sp) → spotsOf sp (l.map (·.1)) (l.map spotD) = some (l.map (·.2))
  | [], _ => rfl
  | x :: l, h => by
    rw [List.map_cons, List.map_cons, spotsOf_cons, spotsOf_lay fun y hy => h y (by simp [hy])]
    have := h x (by simp)
    unfold spotB spotD
    simp only
    rw [if_pos ⟨trivial, this.1, this.2⟩]
    rfl
theorem LayOk.is {sp : Int} {p : Prog} {l : Lay} (h : LayOk sp p l) : isLayB sp (namesP p) (layD l) = true := by
  unfold isLayB layD
  simp only
  rw [← h.nm, spotsOf_lay h.rg]
  exact decide_eq_true h.nd
theorem lay_is {sp : Int} {p : Prog} {x : D} (h : isLayB sp (namesP p) x = true) : ∃ l, x = layD l ∧ LayOk sp p l := by
  unfold isLayB at h
  split at h
  · rename_i es
    split at h
    · rename_i ss hs
      have h := of_decide_eq_true h
      obtain ⟨h2, h3⟩ := spotsOf_len hs
      have rg : ∀ {ns : List Str} {es : List D} {ss : List Int}, spotsOf sp ns es = some ss → ∀ s ∈ ss, 0 ≤ s ∧ s < sp := by
        intro ns
        induction ns with
        | nil =>
          intro es ss e s hs
          cases es with
          | nil => cases e; cases hs
          | cons _ _ => simp [spotsOf] at e
        | cons n ns ih =>
          intro es ss e s hs
          cases es with
          | nil => simp [spotsOf] at e
          | cons x es =>
            rw [spotsOf_cons] at e
            obtain ⟨t, e1, e2⟩ := Option.bind_eq_some_iff.mp e
            obtain ⟨r, e3, rfl⟩ := Option.map_eq_some_iff.mp e2
            rcases List.mem_cons.mp hs with rfl | hs
            · unfold spotB at e1
              split at e1
              · split at e1
                · rename_i hh
                  cases e1
                  exact hh.2
                · cases e1
              · cases e1
            · exact ih e3 s hs
      refine ⟨(namesP p).zip ss, by unfold layD; rw [spots_map hs], ⟨List.map_fst_zip (by omega), fun x hx => rg hs _ (List.of_mem_zip hx).2, by rw [List.map_snd_zip (by omega)]; exact h⟩⟩
    · cases h
  · cases h
end Dw
/-! the machine -/
namespace Dw
open PySem PySem.Spec PyProof.Rows L2
local macro_rules | `(tactic| walk_at "dw") => `(tactic| (repeat (first
  | ((with_reducible refine' w_var ?e ?_); (case e => rfl))
  | with_reducible refine w_c ?_
  | with_reducible refine s_seq ?_
  | with_reducible refine s_set ?_
  | with_reducible refine w_op2 ?_
  | with_reducible refine w_add ?_
  | with_reducible refine w_sub ?_
  | with_reducible refine w_eq ?_
  | with_reducible refine w_ne ?_
  | with_reducible refine w_lt ?_
  | with_reducible refine w_gt ?_
  | with_reducible refine w_le ?_
  | with_reducible refine w_ge ?_
  | with_reducible refine w_eqb ?_
  | with_reducible refine w_neb ?_
  | with_reducible refine w_cons ?_
  | with_reducible refine w_eqs ?_
  | with_reducible refine w_nes ?_
  | with_reducible refine w_isIn ?_
  | with_reducible refine w_isN ?_
  | with_reducible refine w_isNotN ?_
  | with_reducible refine w_nil ?_
  | with_reducible refine w_call ?_
  | with_reducible refine w_calW ?_
  | with_reducible refine w_cal ?_
  | with_reducible refine w_ix ?_
  | with_reducible refine w_sl ?_
  | with_reducible refine w_pn ?_
  | with_reducible refine w_rev ?_
  | with_reducible refine w_ps ?_
  | with_reducible refine w_chain ?_
  | with_reducible refine w_tup ?_
  | with_reducible refine w_lst ?_
  | with_reducible refine w_lstR ?_
  | with_reducible refine w_dict ?_
  | with_reducible refine w_isa ?_
  | with_reducible refine w_itR1 ?_
  | with_reducible refine w_itS ?_
  | ((with_reducible refine' w_ixt0 ?e ?_); (case e => rfl))
  | ((with_reducible refine' w_ixl0 ?e ?_); (case e => rfl))
  | ((with_reducible refine' w_ixt ?e ?_); (case e => rfl))
  | ((with_reducible refine' w_ixl ?e ?_); (case e => rfl))
  | with_reducible refine w_itR2 ?_
  | with_reducible refine w_itZ ?_
  | with_reducible refine w_itE ?_
  | with_reducible refine w_lc ?_
  | with_reducible refine s_par ?_
  | with_reducible refine s_par3 ?_
  | with_reducible refine s_asg ?_
  | with_reducible refine s_put ?_
  | with_reducible refine s_for ?_
  | with_reducible refine s_if ?_
  | with_reducible refine w_test ?_
  | with_reducible refine w_andT ?_
  | with_reducible refine w_orT ?_
  | with_reducible refine w_notT ?_
  | with_reducible refine w_ifE ?_
  | with_reducible refine w_andV ?_
  | with_reducible refine w_orV ?_
  | with_reducible refine w_notV ?_
  | with_reducible refine w_neg ?_
  | with_reducible refine s_ret ?_
  | with_reducible refine s_retN ?_
  | with_reducible refine s_skip ?_
  | with_reducible refine s_brk ?_
  | with_reducible refine s_cnt ?_
  | with_reducible refine s_expr ?_
  | with_reducible refine w_met ?_
  | with_reducible refine wp_ok.mpr ?_
  | with_reducible refine wps_rt.mpr ?_
  | with_reducible refine wps_nx.mpr ?_
  | with_reducible refine ite_t ?_
  | with_reducible refine ite_f ?_
  | ((with_reducible refine' w_mod ?e ?_); (case e => first | assumption | omega))
  | ((with_reducible refine' w_div ?e ?_); (case e => omega))
  | ((with_reducible refine' w_mul ?e ?_); (case e => omega))
  | ((with_reducible refine' Exists.intro _ (And.intro ?e ?_)); (case e => rfl))
  | ((with_reducible refine' Exists.intro _ (Exists.intro _ (And.intro ?e ?_))); (case e => rfl))
  | ((with_reducible refine' Exists.intro _ (Exists.intro _ (Exists.intro _ (And.intro ?e ?_)))); (case e => rfl))
  | ((with_reducible refine' ite_yes ?e ?_); (case e => rfl))
  | ((with_reducible refine' ite_no ?e ?_); (case e => rfl))
  | ((with_reducible refine And.intro ?e ?_); (case e => first | rfl | exact small_len _ (Nat.le_of_ble_eq_true rfl))))))
theorem held_ok (x : Int) (h : MH) : m_held [.d (.int x)] h = .ok (.d (.int (capd x))) h := wp_congr_of <| by
  refine wp_fn ?_
  unfold b_held c_CAP
  walk_at "dw"
  rw [retW_same, wp_ok]
  exact ⟨rfl, rfl⟩
abbrev kvP (p : Prog) : List (Key × D) := kvG ctD p
def msF (n : Nat) (m : Ms) : List (Str × W) := [("cells", .ref (n + 1)), ("held", .d (.int m.held)), ("next", .d (nextD m.next)), ("time", .d (.int m.time))]
/-- a heap with a machine behind h -/
def mH (h : MH) (m : Ms) (t : MH) : MH := h ++ (.ins "Machine" (msF h.length m) :: .dk (kvP m.cells) :: t)
section
variable {h t : MH} {m : Ms} {Q : W → MH → Prop} {ρ : ME} {j : Nat} {N B C : PS} {R : W → MH → Prop} {mv : M} {n : Str} {x : Int}
theorem mH0 : (mH h m t)[h.length]? = some (.ins "Machine" (msF h.length m)) := by
  unfold mH
  rw [List.getElem?_append_right (Nat.le_refl _), Nat.sub_self]
  rfl
theorem mH1 : (mH h m t)[h.length + 1]? = some (.dk (kvP m.cells)) := by
  unfold mH
  rw [List.getElem?_append_right (Nat.le_succ _), show h.length.succ - h.length = 1 by omega]
  rfl
theorem mH_set {fs : List (Str × W)} : (mH h m t).set h.length (.ins "Machine" fs) = h ++ (.ins "Machine" fs :: .dk (kvP m.cells) :: t) := by
  unfold mH
  rw [List.set_append_right _ _ (Nat.le_refl _), Nat.sub_self]
  rfl
theorem mH_set1 {kvs : List (Key × D)} : (mH h m t).set (h.length + 1) (.dk kvs) = h ++ (.ins "Machine" (msF h.length m) :: .dk kvs :: t) := by
  unfold mH
  rw [List.set_append_right _ _ (Nat.le_succ _), show h.length.succ - h.length = 1 by omega]
  rfl
theorem w_mCells (e : ρ[j]? = some (some (.ref h.length))) (q : Q (.ref (h.length + 1)) (mH h m t)) : wp (mFld "Machine" "cells" (mVar j) ρ (mH h m t)) Q := w_fld e mH0 rfl q
theorem w_mHeld (e : ρ[j]? = some (some (.ref h.length))) (q : Q (.d (.int m.held)) (mH h m t)) : wp (mFld "Machine" "held" (mVar j) ρ (mH h m t)) Q := w_fld e mH0 rfl q
theorem w_mNext (e : ρ[j]? = some (some (.ref h.length))) (q : Q (.d (nextD m.next)) (mH h m t)) : wp (mFld "Machine" "next" (mVar j) ρ (mH h m t)) Q := w_fld e mH0 rfl q
theorem w_mTime (e : ρ[j]? = some (some (.ref h.length))) (q : Q (.d (.int m.time)) (mH h m t)) : wp (mFld "Machine" "time" (mVar j) ρ (mH h m t)) Q := w_fld e mH0 rfl q
theorem s_mHeld (e : ρ[j]? = some (some (.ref h.length))) (q : wp (mv ρ (mH h m t)) fun w h1 => h1 = mH h m t ∧ ∃ x, w = .d (.int x) ∧ N ρ (mH h { m with held := x } t)) : wps (mSetF "Machine" "held" (mVar j) mv ρ (mH h m t)) N R B C :=
  s_setF (wp_mono q fun w h1 ⟨e1, x, e2, q⟩ => by
    subst e1 e2
    refine ⟨e, _, mH0, rfl, (by show 4 < 1000; decide), ?_⟩
    rw [mH_set]
    exact q)
theorem s_mTime (e : ρ[j]? = some (some (.ref h.length))) (q : wp (mv ρ (mH h m t)) fun w h1 => h1 = mH h m t ∧ ∃ x, w = .d (.int x) ∧ N ρ (mH h { m with time := x } t)) : wps (mSetF "Machine" "time" (mVar j) mv ρ (mH h m t)) N R B C :=
  s_setF (wp_mono q fun w h1 ⟨e1, x, e2, q⟩ => by
    subst e1 e2
    refine ⟨e, _, mH0, rfl, (by show 4 < 1000; decide), ?_⟩
    rw [mH_set]
    exact q)
theorem s_mNext (e : ρ[j]? = some (some (.ref h.length))) (q : wp (mv ρ (mH h m t)) fun w h1 => h1 = mH h m t ∧ ∃ x, w = .d (nextD x) ∧ N ρ (mH h { m with next := x } t)) : wps (mSetF "Machine" "next" (mVar j) mv ρ (mH h m t)) N R B C :=
  s_setF (wp_mono q fun w h1 ⟨e1, x, e2, q⟩ => by
    subst e1 e2
    refine ⟨e, _, mH0, rfl, (by show 4 < 1000; decide), ?_⟩
    rw [mH_set]
    exact q)
theorem w_mIx {c : Ct} (e : m.cells.lookup n = some c) (q : Q (.d (ctD c)) (mH h m t)) : wp (ixW (.ref (h.length + 1)) (.d (.str n)) (mH h m t)) Q := w_ixkv mH1 e q
theorem w_mWord (e : IsNum m.cells n) (q : Q (.d (.int (numOf m.cells n))) (mH h m t)) : wp (ixW (.ref (h.length + 1)) (.d (.str n)) (mH h m t)) Q := by
  obtain ⟨i, e⟩ := e
  refine w_mIx e ?_
  unfold numOf at q
  rw [e] at q
  exact q
theorem mPutW (hl : m.cells.length ≤ 1000000) (hn : n ∈ namesP m.cells) : putW (.ref (h.length + 1)) (.d (.str n)) (.d (.int x)) (mH h m t) = some (mH h { m with cells := setP m.cells n (.num x) } t) := by
  have := putW_kv (f := ctD) (c := .num x) (mH1 (h := h) (m := m) (t := t)) hn hl
  rw [mH_set1] at this
  exact this
theorem okt_mH {m' : Ms} {t' : MH} : Okt (mH h m t) (mH h m' (t ++ t')) := by
  unfold mH
  refine ⟨by simp, fun i o hi e => ?_⟩
  by_cases h1 : i < h.length
  · rw [List.getElem?_append_left h1] at e
    exact .inl (by rw [List.getElem?_append_left h1]; exact e)
  · rw [List.getElem?_append_right (by omega)] at e
    generalize hk : i - h.length = k at e
    match k with
    | 0 =>
      cases e
      refine .inr ?_
      simp [MO.blw, msF, W.blw]
    | 1 => cases e; exact .inr rfl
    | k + 2 =>
      refine .inl ?_
      rw [List.getElem?_append_right (by omega), hk]
      simp only [List.getElem?_cons_succ] at e ⊢
      rw [List.length_append, List.length_cons, List.length_cons] at hi
      rw [List.getElem?_append_left (by omega)] at e
      exact e
theorem mH_len {m' : Ms} {t' : MH} : (mH h m' (t ++ t')).take (mH h m t).length = mH h m' t := by
  have : mH h m' (t ++ t') = mH h m' t ++ t' := by unfold mH; simp
  rw [this, show (mH h m t).length = (mH h m' t).length by unfold mH; simp, List.take_left]
theorem retW_mH {m' : Ms} {t' : MH} {x : D} : retW (mH h m t) (.d x) (mH h m' (t ++ t')) = .ok (.d x) (mH h m' t) := by
  unfold retW
  rw [if_pos okt_mH]
  simp only [mH_len]
theorem retW_mH0 {m' : Ms} {x : D} : retW (mH h m t) (.d x) (mH h m' t) = .ok (.d x) (mH h m' t) := by
  have := retW_mH (h := h) (m := m) (m' := m') (t := t) (t' := []) (x := x)
  rwa [List.append_nil] at this
end
theorem name_mem {p : Prog} {n : Str} {c : Ct} (e : p.lookup n = some c) : n ∈ namesP p := List.mem_map_of_mem (f := fun x : Str × Ct => x.1) (lookup_mem e)
theorem done_ok {h t : MH} {m : Ms} {k : Wk} {w b : Str} (hw : IsNum m.cells w) (hl : m.cells.length ≤ 1000) : m_Machine_done [.ref h.length, .d (odD (.wd k w b))] (mH h m t) = .ok (.d .none) (mH h (doneM m k w) t) := wp_congr_of <| by
  refine wp_fn ?_
  unfold b_Machine_done odD
  cases k with
  | put =>
    walk_at "dw"
    refine s_mHeld rfl ?_
    walk_at "dw"
    refine w_mCells rfl ?_
    walk_at "dw"
    refine w_mWord hw ?_
    refine ⟨rfl, _, rfl, ?_⟩
    rw [retW_mH0, wp_ok]
    exact ⟨rfl, rfl⟩
  | add =>
    walk_at "dw"
    refine s_mHeld rfl ?_
    walk_at "dw"
    refine w_mHeld rfl ?_
    walk_at "dw"
    refine w_mCells rfl ?_
    walk_at "dw"
    refine w_mWord hw ?_
    walk_at "dw"
    refine w_of (held_ok _ _) ?_
    refine ⟨rfl, _, rfl, ?_⟩
    rw [retW_mH0, wp_ok]
    exact ⟨rfl, rfl⟩
  | sub =>
    walk_at "dw"
    refine s_mHeld rfl ?_
    walk_at "dw"
    refine w_mHeld rfl ?_
    walk_at "dw"
    refine w_mCells rfl ?_
    walk_at "dw"
    refine w_mWord hw ?_
    walk_at "dw"
    refine w_of (held_ok _ _) ?_
    refine ⟨rfl, _, rfl, ?_⟩
    rw [retW_mH0, wp_ok]
    exact ⟨rfl, rfl⟩
  | save =>
    walk_at "dw"
    refine w_mHeld rfl ?_
    refine w_mCells rfl ?_
    walk_at "dw"
    obtain ⟨i, e⟩ := hw
    refine ⟨_, mPutW (by omega) (name_mem e), ?_⟩
    rw [retW_mH0, wp_ok]
    exact ⟨rfl, rfl⟩
def stepRes (m : Ms) (r : Int) (q : Option Int) : Od → Ms
  | .stop => { m with time := r + 1, next := none }
  | .less a b => { m with time := r + 2, next := some (if 0 ≤ m.held then b else a) }
  | .wd k w b => { doneM m k w with time := q.getD 0 + 1 + k.bt, next := some b }
theorem step_ok {h t : MH} {m : Ms} {n : Str} {o : Od} {r : Int} {q : Option Int} (hn : m.next = some n) (e : m.cells.lookup n = some (.ord o)) (hok : OdOk m.cells o) (hl : m.cells.length ≤ 1000)
    (hq : ∀ k w b, o = .wd k w b → ∃ y, q = some y) : m_Machine_step [.ref h.length, .d (.int r), .d (optD q)] (mH h m t) = .ok (.d .none) (mH h (stepRes m r q o) t) := wp_congr_of <| by
  refine wp_fn ?_
  unfold b_Machine_step
  walk_at "dw"
  refine w_mCells rfl ?_
  refine w_mNext rfl ?_
  rw [hn]
  refine w_mIx e ?_
  unfold ctD odD
  cases o with
  | stop =>
    walk_at "dw"
    refine s_mTime rfl ?_
    walk_at "dw"
    refine s_mNext rfl ?_
    walk_at "dw"
    refine ⟨none, rfl, ?_⟩
    rw [retW_mH0, wp_ok]
    exact ⟨rfl, rfl⟩
  | less a b =>
    walk_at "dw"
    refine s_mTime rfl ?_
    walk_at "dw"
    refine s_mNext rfl ?_
    walk_at "dw"
    refine w_mHeld rfl ?_
    walk_at "dw"
    by_cases hh : 0 ≤ m.held
    · refine w_ixt (d := .str b) (by simp only [hh]; rfl) ?_
      refine ⟨rfl, some b, rfl, ?_⟩
      rw [retW_mH0, wp_ok]
      refine ⟨rfl, ?_⟩
      simp only [stepRes, if_pos hh]
    · refine w_ixt (d := .str a) (by simp only [hh]; rfl) ?_
      refine ⟨rfl, some a, rfl, ?_⟩
      rw [retW_mH0, wp_ok]
      refine ⟨rfl, ?_⟩
      simp only [stepRes, if_neg hh]
  | wd k w b =>
    obtain ⟨y, rfl⟩ := hq k w b rfl
    cases k <;>
    · walk_at "dw"
      refine w_meth rfl mH0 rfl ?_
      walk_at "dw"
      refine w_of (done_ok hok.1 hl) ?_
      walk_at "dw"
      refine s_mTime rfl ?_
      unfold optD
      walk_at "dw"
      refine w_ixK ?_
      walk_at "dw"
      refine s_mNext rfl ?_
      walk_at "dw"
      refine ⟨some b, rfl, ?_⟩
      rw [retW_mH0, wp_ok]
      exact ⟨rfl, rfl⟩
end Dw
/-! words of a machine, steps_of -/
namespace Dw
open PySem PySem.Spec PyProof.Rows L2
local macro_rules | `(tactic| walk_at "dw") => `(tactic| (repeat (first
  | ((with_reducible refine' w_var ?e ?_); (case e => rfl))
  | with_reducible refine w_c ?_
  | with_reducible refine s_seq ?_
  | with_reducible refine s_set ?_
  | with_reducible refine w_op2 ?_
  | with_reducible refine w_add ?_
  | with_reducible refine w_sub ?_
  | with_reducible refine w_eq ?_
  | with_reducible refine w_ne ?_
  | with_reducible refine w_lt ?_
  | with_reducible refine w_gt ?_
  | with_reducible refine w_le ?_
  | with_reducible refine w_ge ?_
  | with_reducible refine w_eqb ?_
  | with_reducible refine w_neb ?_
  | with_reducible refine w_cons ?_
  | with_reducible refine w_eqs ?_
  | with_reducible refine w_nes ?_
  | with_reducible refine w_isIn ?_
  | with_reducible refine w_isN ?_
  | with_reducible refine w_isNotN ?_
  | with_reducible refine w_nil ?_
  | with_reducible refine w_call ?_
  | with_reducible refine w_calW ?_
  | with_reducible refine w_cal ?_
  | with_reducible refine w_ix ?_
  | with_reducible refine w_sl ?_
  | with_reducible refine w_pn ?_
  | with_reducible refine w_rev ?_
  | with_reducible refine w_ps ?_
  | with_reducible refine w_chain ?_
  | with_reducible refine w_tup ?_
  | with_reducible refine w_lst ?_
  | with_reducible refine w_lstR ?_
  | with_reducible refine w_dict ?_
  | with_reducible refine w_isa ?_
  | with_reducible refine w_itR1 ?_
  | with_reducible refine w_itS ?_
  | ((with_reducible refine' w_ixt0 ?e ?_); (case e => rfl))
  | ((with_reducible refine' w_ixl0 ?e ?_); (case e => rfl))
  | ((with_reducible refine' w_ixt ?e ?_); (case e => rfl))
  | ((with_reducible refine' w_ixl ?e ?_); (case e => rfl))
  | with_reducible refine w_itR2 ?_
  | with_reducible refine w_itZ ?_
  | with_reducible refine w_itE ?_
  | with_reducible refine w_lc ?_
  | with_reducible refine s_par ?_
  | with_reducible refine s_par3 ?_
  | with_reducible refine s_asg ?_
  | with_reducible refine s_put ?_
  | with_reducible refine s_for ?_
  | with_reducible refine s_if ?_
  | with_reducible refine w_test ?_
  | with_reducible refine w_andT ?_
  | with_reducible refine w_orT ?_
  | with_reducible refine w_notT ?_
  | with_reducible refine w_ifE ?_
  | with_reducible refine w_andV ?_
  | with_reducible refine w_orV ?_
  | with_reducible refine w_notV ?_
  | with_reducible refine w_neg ?_
  | with_reducible refine s_ret ?_
  | with_reducible refine s_retN ?_
  | with_reducible refine s_skip ?_
  | with_reducible refine s_brk ?_
  | with_reducible refine s_cnt ?_
  | with_reducible refine s_expr ?_
  | with_reducible refine w_met ?_
  | with_reducible refine wp_ok.mpr ?_
  | with_reducible refine wps_rt.mpr ?_
  | with_reducible refine wps_nx.mpr ?_
  | with_reducible refine ite_t ?_
  | with_reducible refine ite_f ?_
  | ((with_reducible refine' w_mod ?e ?_); (case e => first | assumption | omega))
  | ((with_reducible refine' w_div ?e ?_); (case e => omega))
  | ((with_reducible refine' w_mul ?e ?_); (case e => omega))
  | ((with_reducible refine' Exists.intro _ (And.intro ?e ?_)); (case e => rfl))
  | ((with_reducible refine' Exists.intro _ (Exists.intro _ (And.intro ?e ?_))); (case e => rfl))
  | ((with_reducible refine' Exists.intro _ (Exists.intro _ (Exists.intro _ (And.intro ?e ?_)))); (case e => rfl))
  | ((with_reducible refine' ite_yes ?e ?_); (case e => rfl))
  | ((with_reducible refine' ite_no ?e ?_); (case e => rfl))
  | ((with_reducible refine And.intro ?e ?_); (case e => first | rfl | exact small_len _ (Nat.le_of_ble_eq_true rfl))))))
section
variable {α : Type} {f : α → D} {p : List (Str × α)} {Q : W → MH → Prop} {h : MH} {i : Nat}
theorem keysI_kv : ∀ {p : List (Str × α)}, keysI (kvG f p) = if p = [] then some [] else none
  | [] => rfl
  | (a, b) :: p => by rw [if_neg (by simp)]; rfl
theorem keysS_kv : ∀ {p : List (Str × α)}, keysS (kvG f p) = some (p.map (·.1))
  | [] => rfl
  | (a, b) :: p => by
    show (keysS (kvG f p)).map (a :: ·) = _
    rw [keysS_kv]
    rfl
theorem sortS_self {ns : List Str} (h : ns.Pairwise sle) : sortS ns = ns :=
  ((List.mergeSort_perm ns _).symm.eq_of_pairwise (le := sle) (fun a b _ _ h1 h2 => str_ext (List.le_antisymm h1 h2)) h (sortS_pw ns)).symm
theorem w_sortedKv (e : h[i]? = some (.dk (kvG f p))) (hp : p.length < 64) (up : (p.map (·.1)).Pairwise sle) (q : Q (.d (.list (sDs (p.map (·.1))))) h) : wp (oSorted2 [.ref i] h) Q := by
  refine w_of (x := .d (.list (sDs (p.map (·.1))))) (h := h) ?_ q
  unfold oSorted2 dkOf
  simp only [e, keysI_kv, keysS_kv]
  by_cases hn : p = []
  · subst hn
    rw [if_pos rfl]
    simp only [sortI, List.mergeSort_nil, List.map_nil, List.length_nil, if_pos (show 0 < 64 by decide)]
  · rw [if_neg hn]
    simp only
    rw [if_pos (by rw [List.length_map]; exact hp), sortS_self up]
end
theorem slt_sle {ns : List Str} (h : ns.Pairwise slt) : ns.Pairwise sle := h.imp fun h => h.1
theorem words_list (p : Prog) (nd : (namesP p).Nodup) : ((namesP p).filter fun n => (p.lookup n).any fun c => !isO c).map (fun n => PyData.tuple [.str n, .int (numOf p n)]) = (wordsOf p).map spotD := by
  have H : ∀ q : Prog, (∀ x ∈ q, p.lookup x.1 = some x.2) → ((q.map (·.1)).filter fun n => (p.lookup n).any fun c => !isO c).map (fun n => PyData.tuple [.str n, .int (numOf p n)]) = (wordsOf q).map spotD := by
    intro q
    induction q with
    | nil => intro _; rfl
    | cons x q ih =>
      intro hq
      obtain ⟨a, c⟩ := x
      have e : p.lookup a = some c := hq (a, c) (by simp)
      have r := ih fun y hy => hq y (by simp [hy])
      rw [List.map_cons]
      cases c with
      | num i =>
        rw [List.filter_cons_of_pos (by rw [e]; rfl), List.map_cons, r]
        show _ = (spotD (a, i)) :: _
        unfold numOf
        rw [e]
        rfl
      | ord o =>
        rw [List.filter_cons_of_neg (by rw [e]; exact Bool.false_ne_true), r]
        rfl
  exact H p fun x hx => mem_lookup nd hx
theorem mwords_ok {h t : MH} {m : Ms} (hp : PrOk m.cells) : m_Machine_words [.ref h.length] (mH h m t) = .ok (.d (layD (wordsOf m.cells))) (mH h m t) := wp_congr_of <| by
  have hf := hp.few
  refine wp_fn ?_
  unfold b_Machine_words
  walk_at "dw"
  unfold lc_Machine_words_1
  walk_at "dw"
  refine w_mCells rfl ?_
  walk_at "dw"
  refine w_sortedKv mH1 (by omega) (slt_sle hp.up) ?_
  walk_at "dw"
  refine w_selF (xs := namesP m.cells) PyData.str (fun n => (m.cells.lookup n).any fun c => !isO c) (fun n => .tuple [.str n, .int (numOf m.cells n)]) trivial (by unfold namesP; rw [List.length_map]; omega) (fun n hn => ⟨_, rfl, ?_⟩) ?_
  · obtain ⟨c, e⟩ := lookup_some hn
    unfold ct_Machine_words_1
    walk_at "dw"
    refine w_mCells rfl ?_
    walk_at "dw"
    refine w_mIx e ?_
    walk_at "dw"
    refine ⟨by rw [e, ct_int]; rfl, fun hc => ?_⟩
    rw [e] at hc
    cases c with
    | ord o => cases hc
    | num i =>
      unfold ce_Machine_words_1
      walk_at "dw"
      refine w_mCells rfl ?_
      walk_at "dw"
      refine w_mWord ⟨i, e⟩ ?_
      walk_at "dw"
      rfl
  rw [words_list m.cells hp.nd]
  walk_at "dw"
  rw [retW_mH0, wp_ok]
  exact ⟨rfl, rfl⟩
end Dw
/-! steps_of -/
namespace Dw
open PySem PySem.Spec PyProof.Rows L2
local macro_rules | `(tactic| walk_at "dw") => `(tactic| (repeat (first
  | ((with_reducible refine' w_var ?e ?_); (case e => rfl))
  | with_reducible refine w_c ?_
  | with_reducible refine s_seq ?_
  | with_reducible refine s_set ?_
  | with_reducible refine w_op2 ?_
  | with_reducible refine w_add ?_
  | with_reducible refine w_sub ?_
  | with_reducible refine w_eq ?_
  | with_reducible refine w_ne ?_
  | with_reducible refine w_lt ?_
  | with_reducible refine w_gt ?_
  | with_reducible refine w_le ?_
  | with_reducible refine w_ge ?_
  | with_reducible refine w_eqb ?_
  | with_reducible refine w_neb ?_
  | with_reducible refine w_cons ?_
  | with_reducible refine w_eqs ?_
  | with_reducible refine w_nes ?_
  | with_reducible refine w_isIn ?_
  | with_reducible refine w_isN ?_
  | with_reducible refine w_isNotN ?_
  | with_reducible refine w_nil ?_
  | with_reducible refine w_call ?_
  | with_reducible refine w_calW ?_
  | with_reducible refine w_cal ?_
  | with_reducible refine w_ix ?_
  | with_reducible refine w_sl ?_
  | with_reducible refine w_pn ?_
  | with_reducible refine w_rev ?_
  | with_reducible refine w_ps ?_
  | with_reducible refine w_chain ?_
  | with_reducible refine w_tup ?_
  | with_reducible refine w_lst ?_
  | with_reducible refine w_lstR ?_
  | with_reducible refine w_dict ?_
  | with_reducible refine w_isa ?_
  | with_reducible refine w_itR1 ?_
  | with_reducible refine w_itS ?_
  | ((with_reducible refine' w_ixt0 ?e ?_); (case e => rfl))
  | ((with_reducible refine' w_ixl0 ?e ?_); (case e => rfl))
  | ((with_reducible refine' w_ixt ?e ?_); (case e => rfl))
  | ((with_reducible refine' w_ixl ?e ?_); (case e => rfl))
  | with_reducible refine w_itR2 ?_
  | with_reducible refine w_itZ ?_
  | with_reducible refine w_itE ?_
  | with_reducible refine w_lc ?_
  | with_reducible refine s_par ?_
  | with_reducible refine s_par3 ?_
  | with_reducible refine s_asg ?_
  | with_reducible refine s_put ?_
  | with_reducible refine s_for ?_
  | with_reducible refine s_if ?_
  | with_reducible refine w_test ?_
  | with_reducible refine w_andT ?_
  | with_reducible refine w_orT ?_
  | with_reducible refine w_notT ?_
  | with_reducible refine w_ifE ?_
  | with_reducible refine w_andV ?_
  | with_reducible refine w_orV ?_
  | with_reducible refine w_notV ?_
  | with_reducible refine w_neg ?_
  | with_reducible refine s_ret ?_
  | with_reducible refine s_retN ?_
  | with_reducible refine s_skip ?_
  | with_reducible refine s_brk ?_
  | with_reducible refine s_cnt ?_
  | with_reducible refine s_expr ?_
  | with_reducible refine w_met ?_
  | with_reducible refine wp_ok.mpr ?_
  | with_reducible refine wps_rt.mpr ?_
  | with_reducible refine wps_nx.mpr ?_
  | with_reducible refine ite_t ?_
  | with_reducible refine ite_f ?_
  | ((with_reducible refine' w_mod ?e ?_); (case e => first | assumption | omega))
  | ((with_reducible refine' w_div ?e ?_); (case e => omega))
  | ((with_reducible refine' w_mul ?e ?_); (case e => omega))
  | ((with_reducible refine' Exists.intro _ (And.intro ?e ?_)); (case e => rfl))
  | ((with_reducible refine' Exists.intro _ (Exists.intro _ (And.intro ?e ?_))); (case e => rfl))
  | ((with_reducible refine' Exists.intro _ (Exists.intro _ (Exists.intro _ (And.intro ?e ?_)))); (case e => rfl))
  | ((with_reducible refine' ite_yes ?e ?_); (case e => rfl))
  | ((with_reducible refine' ite_no ?e ?_); (case e => rfl))
  | ((with_reducible refine And.intro ?e ?_); (case e => first | rfl | exact small_len _ (Nat.le_of_ble_eq_true rfl))))))
theorem init_ok {h : MH} {p : Prog} {a : Str} {t : Int} (nd : (namesP p).Nodup) (hl : p.length ≤ 1000) : m_Machine___init__ [.ref h.length, .d (progD p), .d (.str a), .d (.int t)] (h ++ [.ins "Machine" []]) = .ok (.d .none) (mH h ⟨p, 0, some a, t⟩ []) := wp_congr_of <| by
  refine wp_fn ?_
  unfold b_Machine___init__ progD
  walk_at "dw"
  refine s_setF (i := h.length) ?_
  walk_at "dw"
  refine w_dictT nd (by omega) ?_
  walk_at "dw"
  refine ⟨[], by rw [List.append_assoc, List.getElem?_append_right (Nat.le_refl _), Nat.sub_self]; rfl, rfl, (by show 0 < 1000; decide), ?_⟩
  walk_at "dw"
  refine s_setF (i := h.length) ?_
  walk_at "dw"
  have at_ : ∀ {fs : List (Str × W)}, (((h ++ [MO.ins "Machine" []]) ++ [MO.dk (kvG ctD p)]).set h.length (.ins "Machine" fs)) = h ++ [.ins "Machine" fs, .dk (kvG ctD p)] := by
    intro fs
    rw [List.append_assoc, List.set_append_right _ _ (Nat.le_refl _), Nat.sub_self]
    rfl
  have at2 : ∀ {fs gs : List (Str × W)}, (h ++ [MO.ins "Machine" fs, .dk (kvG ctD p)]).set h.length (.ins "Machine" gs) = h ++ [.ins "Machine" gs, .dk (kvG ctD p)] := by
    intro fs gs
    rw [List.set_append_right _ _ (Nat.le_refl _), Nat.sub_self]
    rfl
  have at3 : ∀ {fs : List (Str × W)}, (h ++ [MO.ins "Machine" fs, .dk (kvG ctD p)])[h.length]? = some (.ins "Machine" fs) := by
    intro fs
    rw [List.getElem?_append_right (Nat.le_refl _), Nat.sub_self]
    rfl
  rw [at_]
  refine ⟨_, at3, rfl, (by show 1 < 1000; decide), ?_⟩
  rw [at2]
  walk_at "dw"
  refine s_setF (i := h.length) ?_
  walk_at "dw"
  refine ⟨_, at3, rfl, (by show 2 < 1000; decide), ?_⟩
  rw [at2]
  refine s_setF (i := h.length) ?_
  walk_at "dw"
  refine ⟨_, at3, rfl, (by show 3 < 1000; decide), ?_⟩
  rw [at2]
  have e : (h ++ [MO.ins "Machine" []]).length + 0 = h.length + 1 := by simp
  have no : ¬ Okt (h ++ [MO.ins "Machine" []]) (h ++ [MO.ins "Machine" (putFW "time" (.d (.int t)) (putFW "next" (.d (.str a)) (putFW "held" (.d (.int 0)) (putFW "cells" (.ref (h ++ [MO.ins "Machine" []]).length) [])))), MO.dk (kvG ctD p)]) := by
    intro z
    have := z.2 h.length _ (by simp) at3
    rw [List.getElem?_append_right (Nat.le_refl _), Nat.sub_self] at this
    rcases this with y | y
    · have y : some (MO.ins "Machine" []) = some _ := y
      injection y with y
      injection y with _ y
      cases y
    · have y : (W.blw (h ++ [MO.ins "Machine" []]).length (.ref (h ++ [MO.ins "Machine" []]).length) && _) = true := y
      rw [Bool.and_eq_true] at y
      exact absurd (of_decide_eq_true y.1) (Nat.lt_irrefl _)
  unfold retW
  rw [if_neg no, wp_ok]
  refine ⟨rfl, ?_⟩
  unfold mH msF
  simp only [List.length_append, List.length_singleton]
  rfl
section
variable {σ : Type} {wh : σ → Str → Int → Int × σ} {hp : σ → MH} {k : Nat} {caps : List W} {p : Prog} {a : Str} {time most : Int} {s0 : σ} {lv : Nat}
/-- what a `when` tells at its calls -/
structure WhOk (wh : σ → Str → Int → Int × σ) (hp : σ → MH) (k : Nat) (caps : List W) (ns : List Str) (lv : Nat) : Prop where
  len : ∀ s, (hp s).length = lv
  noclo : W.nocloAll caps = true
  run : ∀ s n t hs, n ∈ ns → lamT k caps [.d (.str n), .d (.int t)] (hp s ++ hs) = .ok (.d (.int (wh s n t).1)) (hp (wh s n t).2 ++ hs)
theorem WhOk.mH (H : WhOk wh hp k caps (namesP p) lv) {s : σ} {n : Str} {t : Int} {m : Ms} {hs : MH} (hn : n ∈ namesP p) :
    lamT k caps [.d (.str n), .d (.int t)] (Dw.mH (hp s) m hs) = .ok (.d (.int (wh s n t).1)) (Dw.mH (hp (wh s n t).2) m hs) := by
  unfold Dw.mH
  rw [H.run s n t _ hn, H.len, H.len]
theorem goM_nil {j : Nat} {s : σ} {m : Ms} (e : m.next = none) : goM wh j s m = ([], m, s) := by
  cases j with
  | zero => rfl
  | succ j => unfold goM; rw [e]
theorem step_is {s : σ} {m : Ms} {n : Str} {o : Od} : ∃ r q, (oneM wh s m n o).1 = (n, r, q) ∧ (oneM wh s m n o).2.1 = stepRes m r q o := by
  cases o <;> exact ⟨_, _, rfl, rfl⟩
theorem steps_ok (H : WhOk wh hp k caps (namesP p) lv) (hpr : PrOk p) (ha : IsOrd p a) (hm : most ≤ 1000) :
    m_steps_of [.d (progD p), .d (.str a), .d (.int time), .d (.int most), .clo k caps] (hp s0) =
      .ok (.tup [.d (.tuple ((goM wh most.toNat s0 ⟨p, 0, some a, time⟩).1.map stepD)), .ref lv]) (mH (hp (goM wh most.toNat s0 ⟨p, 0, some a, time⟩).2.2) (goM wh most.toNat s0 ⟨p, 0, some a, time⟩).2.1 []) := by
  have hf := hpr.few
  suffices S : wp (m_steps_of [.d (progD p), .d (.str a), .d (.int time), .d (.int most), .clo k caps] (hp s0)) (fun w h' => w = .tup [.d (.tuple ((goM wh most.toNat s0 ⟨p, 0, some a, time⟩).1.map stepD)), .ref lv] ∧ h' = mH (hp (goM wh most.toNat s0 ⟨p, 0, some a, time⟩).2.2) (goM wh most.toNat s0 ⟨p, 0, some a, time⟩).2.1 []) from wp_congr_of S
  generalize hg : goM wh most.toNat s0 ⟨p, 0, some a, time⟩ = G
  refine wp_fn ?_
  unfold b_steps_of
  walk_at "dw"
  refine w_make ?_
  walk_at "dw"
  refine w_of (init_ok hpr.nd (by omega)) ?_
  walk_at "dw"
  rw [H.len]
  refine while_inv (n := most.toNat) (fun j ρ h => ∃ fd s m v7 v8 v9 v10, ρ = [some (.d (progD p)), some (.d (.str a)), some (.d (.int time)), some (.d (.int most)), some (.clo k caps), some (.ref lv), some (.d (.tuple (fd.map stepD))), v7, v8, v9, v10] ∧ h = mH (hp s) m [] ∧ MsOk m ∧ namesP m.cells = namesP p ∧
    fd.length + j = most.toNat ∧ fd ++ (goM wh j s m).1 = G.1 ∧ (goM wh j s m).2 = G.2) ?_ ?_
  · exact ⟨[], s0, _, none, none, none, none, rfl, rfl, ⟨hpr, fun n z => by cases z; exact ha⟩, rfl, by simp, by rw [hg]; rfl, by rw [hg]⟩
  rintro j ρ h ⟨fd, s, m, v7, v8, v9, v10, rfl, rfl, hok, hnm, hl, hg1, hg2⟩
  have out : (goM wh j s m) = ([], m, s) → wp (retW (hp s0) (.tup [.d (.tuple (fd.map stepD)), .ref lv]) (mH (hp s) m [])) fun w h' => w = .tup [.d (.tuple (G.1.map stepD)), .ref lv] ∧ h' = mH (hp G.2.2) G.2.1 [] := by
    intro e
    rw [e] at hg1 hg2
    rw [List.append_nil] at hg1
    have hg2 : (m, s) = G.2 := hg2
    rw [← hg2, ← hg1]
    unfold retW
    split <;> exact wp_ok.mpr ⟨rfl, rfl⟩
  have hlv : ∀ {i : Nat}, (hp s).length = i → lv = i := fun e => by rw [← e, H.len]
  unfold wt_steps_of_1
  walk_at "dw"
  refine w_mNext (by rw [H.len]; rfl) ?_
  walk_at "dw"
  cases en : m.next with
  | none =>
    walk_at "dw"
    exact out (goM_nil en)
  | some n =>
    walk_at "dw"
    have hmn : MsOk m := hok
    obtain ⟨o, eo⟩ := hok.nx n en
    have hod := hok.pr.od n o eo
    have hfm := hok.pr.few
    have memP : ∀ {x : Str} {c : Ct}, m.cells.lookup x = some c → x ∈ namesP p := fun e => hnm ▸ name_mem e
    refine ite_b (fun h1 => ?_) (fun h1 => ?_)
    · simp only [List.length_map, decide_eq_true_eq] at h1
      obtain ⟨j, rfl⟩ : ∃ i, j = i + 1 := ⟨j - 1, by omega⟩
      have eg : goM wh (j + 1) s m = ((oneM wh s m n o).1 :: (goM wh j (oneM wh s m n o).2.2 (oneM wh s m n o).2.1).1, (goM wh j (oneM wh s m n o).2.2 (oneM wh s m n o).2.1).2) := by
        conv => lhs; unfold goM
        rw [en]
        simp only
        rw [eo]
      rw [eg] at hg1 hg2
      have hok2 := oneM_ok (wh := wh) (s := s) hok eo
      unfold wb_steps_of_1
      walk_at "dw"
      refine w_mNext (by rw [H.len]; rfl) ?_
      rw [en]
      walk_at "dw"
      refine w_mCells (by rw [H.len]; rfl) ?_
      walk_at "dw"
      refine w_mIx eo ?_
      walk_at "dw"
      refine w_callV rfl ?_
      walk_at "dw"
      refine w_mTime (by rw [H.len]; rfl) ?_
      walk_at "dw"
      refine ⟨by simp [H.noclo, W.nocloAll, W.noclo], ?_⟩
      refine w_of (H.mH (memP eo)) ?_
      refine ⟨rfl, ?_⟩
      walk_at "dw"
      have fin : ∀ (r : Int) (q : Option Int) (s2 : σ) (v7 v8 v9 v10 : Option W) (h2 : MH), (oneM wh s m n o) = ((n, r, q), stepRes m r q o, s2) →
          ∃ k', k' < j + 1 ∧ ∃ fd' s m' v7' v8' v9' v10', [some (.d (progD p)), some (.d (.str a)), some (.d (.int time)), some (.d (.int most)), some (.clo k caps), some (.ref lv), some (.d (.tuple (fd.map stepD ++ [stepD (n, r, q)]))), v7, v8, v9, v10] = [some (.d (progD p)), some (.d (.str a)), some (.d (.int time)), some (.d (.int most)), some (.clo k caps), some (.ref lv), some (.d (.tuple (fd'.map stepD))), v7', v8', v9', v10'] ∧
            mH (hp s2) (stepRes m r q o) [] = mH (hp s) m' [] ∧ MsOk m' ∧ namesP m'.cells = namesP p ∧ fd'.length + k' = most.toNat ∧ fd' ++ (goM wh k' s m').1 = G.1 ∧ (goM wh k' s m').2 = G.2 := by
        intro r q s2 v7 v8 v9 v10 h2 eo1
        rw [eo1] at hg1 hg2 hok2
        refine ⟨j, by omega, fd ++ [(n, r, q)], s2, _, v7, v8, v9, v10, by rw [List.map_append]; rfl, rfl, hok2, ?_, by simp; omega, by rw [List.append_assoc]; exact hg1, hg2⟩
        rw [← hnm]
        cases o with
        | stop => rfl
        | less _ _ => rfl
        | wd k w b =>
          cases k with
          | save => exact names_set _ _ _
          | _ => rfl
      have big : (fd.map stepD).length + 1 ≤ sizeLine := by rw [List.length_map]; exact big_len _ (by omega)
      unfold ctD odD
      cases o with
      | stop =>
        walk_at "dw"
        refine w_inK ?_
        walk_at "dw"
        refine w_meth (by rw [H.len]; rfl) mH0 rfl ?_
        walk_at "dw"
        refine w_of (step_ok (q := none) en eo hod (by omega) (fun _ _ _ z => by cases z)) ?_
        walk_at "dw"
        refine w_addt big ?_
        walk_at "dw"
        exact fin _ none _ _ _ _ _ [] rfl
      | less b c =>
        walk_at "dw"
        refine w_inK ?_
        walk_at "dw"
        refine w_meth (by rw [H.len]; rfl) mH0 rfl ?_
        walk_at "dw"
        refine w_of (step_ok (q := none) en eo hod (by omega) (fun _ _ _ z => by cases z)) ?_
        walk_at "dw"
        refine w_addt big ?_
        walk_at "dw"
        exact fin _ none _ _ _ _ _ [] rfl
      | wd kk w b =>
        obtain ⟨i, ei⟩ := hod.1
        cases kk <;>
        · walk_at "dw"
          refine w_inK ?_
          walk_at "dw"
          refine w_callV rfl ?_
          walk_at "dw"
          refine ⟨by simp [H.noclo, W.nocloAll, W.noclo], ?_⟩
          refine w_of (H.mH (memP ei)) ?_
          refine ⟨rfl, ?_⟩
          walk_at "dw"
          refine w_meth (by rw [H.len]; rfl) mH0 rfl ?_
          walk_at "dw"
          refine w_of (step_ok (q := some _) en eo hod (by omega) (fun _ _ _ z => ⟨_, rfl⟩)) ?_
          walk_at "dw"
          refine w_addt big ?_
          walk_at "dw"
          exact fin _ (some _) _ _ _ _ _ [] rfl
    · walk_at "dw"
      simp only [List.length_map, decide_eq_false_iff_not] at h1
      obtain rfl : j = 0 := by omega
      exact out rfl
end
end Dw
/-! run, path, work, waits -/
namespace Dw
open PySem PySem.Spec PyProof.Rows L2
local macro_rules | `(tactic| walk_at "dw") => `(tactic| (repeat (first
  | ((with_reducible refine' w_var ?e ?_); (case e => rfl))
  | with_reducible refine w_c ?_
  | with_reducible refine s_seq ?_
  | with_reducible refine s_set ?_
  | with_reducible refine w_op2 ?_
  | with_reducible refine w_add ?_
  | with_reducible refine w_sub ?_
  | with_reducible refine w_eq ?_
  | with_reducible refine w_ne ?_
  | with_reducible refine w_lt ?_
  | with_reducible refine w_gt ?_
  | with_reducible refine w_le ?_
  | with_reducible refine w_ge ?_
  | with_reducible refine w_eqb ?_
  | with_reducible refine w_neb ?_
  | with_reducible refine w_cons ?_
  | with_reducible refine w_eqs ?_
  | with_reducible refine w_nes ?_
  | with_reducible refine w_isIn ?_
  | with_reducible refine w_isN ?_
  | with_reducible refine w_isNotN ?_
  | with_reducible refine w_nil ?_
  | with_reducible refine w_call ?_
  | with_reducible refine w_calW ?_
  | with_reducible refine w_cal ?_
  | with_reducible refine w_ix ?_
  | with_reducible refine w_sl ?_
  | with_reducible refine w_pn ?_
  | with_reducible refine w_rev ?_
  | with_reducible refine w_ps ?_
  | with_reducible refine w_chain ?_
  | with_reducible refine w_tup ?_
  | with_reducible refine w_lst ?_
  | with_reducible refine w_lstR ?_
  | with_reducible refine w_dict ?_
  | with_reducible refine w_isa ?_
  | with_reducible refine w_itR1 ?_
  | with_reducible refine w_itS ?_
  | ((with_reducible refine' w_ixt0 ?e ?_); (case e => rfl))
  | ((with_reducible refine' w_ixl0 ?e ?_); (case e => rfl))
  | ((with_reducible refine' w_ixt ?e ?_); (case e => rfl))
  | ((with_reducible refine' w_ixl ?e ?_); (case e => rfl))
  | with_reducible refine w_itR2 ?_
  | with_reducible refine w_itZ ?_
  | with_reducible refine w_itE ?_
  | with_reducible refine w_lc ?_
  | with_reducible refine s_par ?_
  | with_reducible refine s_par3 ?_
  | with_reducible refine s_asg ?_
  | with_reducible refine s_put ?_
  | with_reducible refine s_for ?_
  | with_reducible refine s_if ?_
  | with_reducible refine w_test ?_
  | with_reducible refine w_andT ?_
  | with_reducible refine w_orT ?_
  | with_reducible refine w_notT ?_
  | with_reducible refine w_ifE ?_
  | with_reducible refine w_andV ?_
  | with_reducible refine w_orV ?_
  | with_reducible refine w_notV ?_
  | with_reducible refine w_neg ?_
  | with_reducible refine s_ret ?_
  | with_reducible refine s_retN ?_
  | with_reducible refine s_skip ?_
  | with_reducible refine s_brk ?_
  | with_reducible refine s_cnt ?_
  | with_reducible refine s_expr ?_
  | with_reducible refine w_met ?_
  | with_reducible refine wp_ok.mpr ?_
  | with_reducible refine wps_rt.mpr ?_
  | with_reducible refine wps_nx.mpr ?_
  | with_reducible refine ite_t ?_
  | with_reducible refine ite_f ?_
  | ((with_reducible refine' w_mod ?e ?_); (case e => first | assumption | omega))
  | ((with_reducible refine' w_div ?e ?_); (case e => omega))
  | ((with_reducible refine' w_mul ?e ?_); (case e => omega))
  | ((with_reducible refine' Exists.intro _ (And.intro ?e ?_)); (case e => rfl))
  | ((with_reducible refine' Exists.intro _ (Exists.intro _ (And.intro ?e ?_))); (case e => rfl))
  | ((with_reducible refine' Exists.intro _ (Exists.intro _ (Exists.intro _ (And.intro ?e ?_)))); (case e => rfl))
  | ((with_reducible refine' ite_yes ?e ?_); (case e => rfl))
  | ((with_reducible refine' ite_no ?e ?_); (case e => rfl))
  | ((with_reducible refine And.intro ?e ?_); (case e => first | rfl | exact small_len _ (Nat.le_of_ble_eq_true rfl))))))
theorem w_fldG {Q : W → MH → Prop} {ρ : ME} {h : MH} {m : M} {c f : Str} (q : wp (m ρ h) fun w h1 => ∃ i fs x, w = .ref i ∧ h1[i]? = some (.ins c fs) ∧ fs.lookup f = some x ∧ Q x h1) : wp (mFld c f m ρ h) Q := by
  unfold mFld
  rw [wp_bind]
  refine wp_mono q fun w h1 ⟨i, fs, x, e1, e2, e3, q⟩ => ?_
  subst e1
  rw [insOf_at e2]
  simp only [e3]
  exact wp_ok.mpr q
def spotL (l : Lay) (n : Str) : Int := (l.lookup n).getD 0
def whL (sp : Int) (hd : List Int) (l : Lay) : Unit → Str → Int → Int × Unit := fun _ n t => (readT sp hd (spotL l n) t, ())
def whI : Unit → Str → Int → Int × Unit := fun _ _ t => (t, ())
def goS {σ : Type} (wh : σ → Str → Int → Int × σ) (j : Nat) (s : σ) (m : Ms) : List Step × Ms := ((goM wh j s m).1, (goM wh j s m).2.1)
/-- a run -/
def runP (sp : Int) (hd : List Int) (p : Prog) (l : Lay) (a : Str) (t most : Int) : List Step × Ms := goS (whL sp hd l) most.toNat () ⟨p, 0, some a, t⟩
/-- a run without waits -/
def freeP (p : Prog) (a : Str) (most : Int) : List Step × Ms := goS whI most.toNat () ⟨p, 0, some a, 0⟩
def pathP (p : Prog) (a : Str) (most : Int) : List Str := (freeP p a most).1.map (·.1)
def workP (p : Prog) (a : Str) (most : Int) : Int := (freeP p a most).2.time
theorem whI_ok {p : Prog} {h : MH} {k : Nat} (hk : lamT k = mLam 2 (mVar 1)) : WhOk whI (fun _ : Unit => h) k [] (namesP p) h.length :=
  ⟨fun _ => rfl, rfl, fun s n t hs _ => by rw [hk]; rfl⟩
theorem whL_ok {sp : Int} {hd : List Int} {p : Prog} {l : Lay} {h : MH} (d : Drum sp hd) (hl : LayOk sp p l) : WhOk (whL sp hd l) (fun _ : Unit => h ++ [.dk (kvG PyData.int l)]) 0 [.d (drumD sp hd), .ref h.length] (namesP p) (h.length + 1) := by
  refine ⟨fun _ => by simp, rfl, fun s n t hs hn => ?_⟩
  rw [← hl.nm] at hn
  obtain ⟨x, e⟩ := lookup_some hn
  show lam_run _ _ _ = _
  unfold lam_run mLam
  refine wp_congr_of ?_
  walk_at "dw"
  refine w_ixkv (f := PyData.int) (p := l) (by rw [List.append_assoc, List.getElem?_append_right (Nat.le_refl _), Nat.sub_self]; rfl) e ?_
  walk_at "dw"
  refine w_of (read_ok d.pos d.short d.ne) ?_
  unfold whL spotL
  rw [e]
  exact ⟨rfl, rfl⟩
section
variable {sp : Int} {hd : List Int} {p : Prog} {l : Lay} {a : Str} {t most : Int} {h : MH}
theorem goM_ok {σ : Type} {wh : σ → Str → Int → Int × σ} : ∀ {j : Nat} {s : σ} {m : Ms}, MsOk m → MsOk (goM wh j s m).2.1
  | 0, s, m, h => h
  | j + 1, s, m, h => by
    unfold goM
    split
    · exact h
    · split
      · rename_i o e
        exact goM_ok (oneM_ok h e)
      · exact h
theorem goM_len {σ : Type} {wh : σ → Str → Int → Int × σ} : ∀ {j : Nat} {s : σ} {m : Ms}, (goM wh j s m).1.length ≤ j
  | 0, s, m => Nat.le_refl _
  | j + 1, s, m => by
    unfold goM
    split
    · exact Nat.zero_le _
    · split
      · simp only [List.length_cons]
        exact Nat.succ_le_succ goM_len
      · exact Nat.zero_le _
theorem start_ok (hp : PrOk p) (ha : IsOrd p a) : MsOk ⟨p, 0, some a, t⟩ := ⟨hp, fun n z => by cases z; exact ha⟩
theorem isNo_next (m : Option Str) : isNo (nextD m) = m.isNone := by cases m <;> rfl
theorem run_ok (d : Drum sp hd) (hp : PrOk p) (hl : LayOk sp p l) (ha : IsOrd p a) (hm : most ≤ 1000) :
    m_run [.d (drumD sp hd), .d (progD p), .d (layD l), .d (.str a), .d (.int t), .d (.int most)] h = .ok (.d (runD (runP sp hd p l a t most))) h := wp_congr_of <| by
  have hf := hp.few
  have hlen : l.length = p.length := by have := congrArg List.length hl.nm; unfold namesP at this; rwa [List.length_map, List.length_map] at this
  have S := steps_ok (σ := Unit) (s0 := ()) (time := t) (hp := fun _ => h ++ [.dk (kvG PyData.int l)]) (whL_ok d hl) hp ha hm
  have hok : MsOk (goM (whL sp hd l) most.toNat () ⟨p, 0, some a, t⟩).2.1 := goM_ok (start_ok hp ha)
  unfold runP goS
  generalize hg : goM (whL sp hd l) most.toNat () ⟨p, 0, some a, t⟩ = G at S hok
  obtain ⟨fd, m, u⟩ := G
  have hlv : (h ++ [MO.dk (kvG PyData.int l)]).length = h.length + 1 := by simp
  refine wp_fn ?_
  unfold b_run
  walk_at "dw"
  refine w_of (need_ok (by omega) (ord_mem ha)) ?_
  walk_at "dw"
  refine w_of (is_laying_ok (by omega) _ _) ?_
  rw [hl.is]
  walk_at "dw"
  refine w_dictT (f := PyData.int) (p := l) (by rw [hl.nm]; exact hp.nd) (by omega) ?_
  walk_at "dw"
  refine w_callHO rfl rfl ?_
  walk_at "dw"
  refine w_of S ?_
  refine ⟨rfl, ?_⟩
  walk_at "dw"
  refine w_mNext (by rw [hlv]; rfl) ?_
  walk_at "dw"
  refine w_mTime (by rw [hlv]; rfl) ?_
  walk_at "dw"
  refine w_mHeld (by rw [hlv]; rfl) ?_
  walk_at "dw"
  refine w_meth (by rw [hlv]; rfl) mH0 rfl ?_
  walk_at "dw"
  refine w_of (mwords_ok hok.pr) ?_
  walk_at "dw"
  unfold mH
  rw [List.append_assoc, retW_app, wp_ok, isNo_next]
  exact ⟨rfl, rfl⟩
theorem run_noname (hp : p.length ≤ 1000) (ha : a ∉ ordersP p) {x y : D} {u v w : W} : m_run [.d y, .d (progD p), u, .d (.str a), v, w] h = .exc "NoName" h := by
  unfold m_run
  rw [fn_exc (h' := h) (c := "NoName"), excW_same]
  unfold b_run
  refine seq_exc (expr_exc ?_)
  show m_need_order [.d (progD p), .d (.str a)] h = _
  exact need_no hp ha
theorem run_bad (hp : p.length ≤ 1000) (ha : a ∈ ordersP p) {x : D} (hx : isLayB sp (namesP p) x = false) {v w : W} : m_run [.d (drumD sp hd), .d (progD p), .d x, .d (.str a), v, w] h = .exc "BadLaying" h := by
  unfold m_run
  rw [fn_exc (h' := h) (c := "BadLaying"), excW_same]
  unfold b_run
  have e1 : ∀ ρ : ME, ρ = ([W.d (drumD sp hd), .d (progD p), .d x, .d (.str a), v, w].map some ++ List.replicate 3 none) →
      mExpr (mCall m_need_order (mCons (mVar 1) (mCons (mVar 3) mNil))) ρ h = .nx ρ h := fun ρ e => nx_of <| by
    subst e
    walk_at "dw"
    refine w_of (need_ok hp ha) ?_
    exact ⟨rfl, rfl⟩
  have e2 : ∀ ρ : ME, ρ = ([W.d (drumD sp hd), .d (progD p), .d x, .d (.str a), v, w].map some ++ List.replicate 3 none) →
      (mNotT (mTest (mCall m_is_laying (mCons (mVar 0) (mCons (mVar 1) (mCons (mVar 2) mNil)))))) ρ h = .ok true h := fun ρ e => wp_congr_of <| by
    subst e
    walk_at "dw"
    refine w_of (is_laying_ok hp _ _) ?_
    rw [hx]
    exact ⟨_, rfl, rfl, rfl⟩
  refine (seq_nx (e1 _ rfl)).trans ?_
  exact seq_exc ((if_t (e2 _ rfl)).trans rfl)
theorem path_ok (hp : PrOk p) (ha : IsOrd p a) (hm : most ≤ 1000) : m_path [.d (progD p), .d (.str a), .d (.int most)] h = .ok (.d (.tuple (sDs (pathP p a most)))) h := wp_congr_of <| by
  have hf := hp.few
  have S := steps_ok (σ := Unit) (s0 := ()) (time := 0) (hp := fun _ => h) (whI_ok (k := 1) rfl) hp ha hm
  have hlen : (goM whI most.toNat () ⟨p, 0, some a, 0⟩).1.length ≤ 1000 := Nat.le_trans goM_len (by omega)
  unfold pathP freeP goS
  generalize hg : goM whI most.toNat () ⟨p, 0, some a, 0⟩ = G at S hlen
  obtain ⟨fd, m, u⟩ := G
  refine wp_fn ?_
  unfold b_path
  walk_at "dw"
  refine w_of (need_ok (by omega) (ord_mem ha)) ?_
  walk_at "dw"
  refine w_callHO rfl rfl ?_
  walk_at "dw"
  refine w_of S ?_
  refine ⟨rfl, ?_⟩
  walk_at "dw"
  unfold lc_path_1
  walk_at "dw"
  refine w_mapF stepD (fun c => .str c.1) trivial (by have hlen : fd.length ≤ 1000 := hlen; omega) (fun x _ => ⟨_, rfl, ?_⟩) ?_
  · unfold ce_path_1
    walk_at "dw"
    rfl
  walk_at "dw"
  unfold mH
  rw [retW_app, wp_ok]
  refine ⟨?_, rfl⟩
  unfold sDs
  rw [List.map_map]
  rfl
theorem work_ok (hp : PrOk p) (ha : IsOrd p a) (hm : most ≤ 1000) : m_work [.d (progD p), .d (.str a), .d (.int most)] h = .ok (.d (.int (workP p a most))) h := wp_congr_of <| by
  have hf := hp.few
  have S := steps_ok (σ := Unit) (s0 := ()) (time := 0) (hp := fun _ => h) (whI_ok (k := 2) rfl) hp ha hm
  unfold workP freeP goS
  generalize hg : goM whI most.toNat () ⟨p, 0, some a, 0⟩ = G at S
  obtain ⟨fd, m, u⟩ := G
  refine wp_fn ?_
  unfold b_work
  walk_at "dw"
  refine w_of (need_ok (by omega) (ord_mem ha)) ?_
  walk_at "dw"
  refine w_fldG ?_
  refine w_ixT (j := 1) ?_
  refine w_callHO rfl rfl ?_
  walk_at "dw"
  refine w_of S ?_
  refine ⟨rfl, _, rfl, 1, _, rfl, rfl, ?_⟩
  refine ⟨_, _, _, rfl, mH0, rfl, ?_⟩
  unfold mH
  rw [retW_app, wp_ok]
  exact ⟨rfl, rfl⟩
theorem waits_ok (d : Drum sp hd) (hp : PrOk p) (hl : LayOk sp p l) (ha : IsOrd p a) (hm : most ≤ 1000) :
    m_waits [.d (drumD sp hd), .d (progD p), .d (layD l), .d (.str a), .d (.int t), .d (.int most)] h = .ok (.d (.int ((runP sp hd p l a t most).2.time - t - workP p a most))) h := wp_congr_of <| by
  refine wp_fn ?_
  unfold b_waits
  walk_at "dw"
  refine w_of (run_ok d hp hl ha hm) ?_
  unfold runD
  walk_at "dw"
  refine w_of (work_ok hp ha hm) ?_
  walk_at "dw"
  rw [retW_same, wp_ok]
  exact ⟨rfl, rfl⟩
end
end Dw
/-! drawn programs, layings -/
namespace Dw
open PySem PySem.Spec PyProof.Rows L2
local macro_rules | `(tactic| walk_at "dw") => `(tactic| (repeat (first
  | ((with_reducible refine' w_var ?e ?_); (case e => rfl))
  | with_reducible refine w_c ?_
  | with_reducible refine s_seq ?_
  | with_reducible refine s_set ?_
  | with_reducible refine w_op2 ?_
  | with_reducible refine w_add ?_
  | with_reducible refine w_sub ?_
  | with_reducible refine w_eq ?_
  | with_reducible refine w_ne ?_
  | with_reducible refine w_lt ?_
  | with_reducible refine w_gt ?_
  | with_reducible refine w_le ?_
  | with_reducible refine w_ge ?_
  | with_reducible refine w_eqb ?_
  | with_reducible refine w_neb ?_
  | with_reducible refine w_cons ?_
  | with_reducible refine w_eqs ?_
  | with_reducible refine w_nes ?_
  | with_reducible refine w_isIn ?_
  | with_reducible refine w_isN ?_
  | with_reducible refine w_isNotN ?_
  | with_reducible refine w_nil ?_
  | with_reducible refine w_call ?_
  | with_reducible refine w_calW ?_
  | with_reducible refine w_cal ?_
  | with_reducible refine w_ix ?_
  | with_reducible refine w_sl ?_
  | with_reducible refine w_pn ?_
  | with_reducible refine w_rev ?_
  | with_reducible refine w_ps ?_
  | with_reducible refine w_chain ?_
  | with_reducible refine w_tup ?_
  | with_reducible refine w_lst ?_
  | with_reducible refine w_lstR ?_
  | with_reducible refine w_dict ?_
  | with_reducible refine w_isa ?_
  | with_reducible refine w_itR1 ?_
  | with_reducible refine w_itS ?_
  | ((with_reducible refine' w_ixt0 ?e ?_); (case e => rfl))
  | ((with_reducible refine' w_ixl0 ?e ?_); (case e => rfl))
  | ((with_reducible refine' w_ixt ?e ?_); (case e => rfl))
  | ((with_reducible refine' w_ixl ?e ?_); (case e => rfl))
  | with_reducible refine w_itR2 ?_
  | with_reducible refine w_itZ ?_
  | with_reducible refine w_itE ?_
  | with_reducible refine w_lc ?_
  | with_reducible refine s_par ?_
  | with_reducible refine s_par3 ?_
  | with_reducible refine s_asg ?_
  | with_reducible refine s_put ?_
  | with_reducible refine s_for ?_
  | with_reducible refine s_if ?_
  | with_reducible refine w_test ?_
  | with_reducible refine w_andT ?_
  | with_reducible refine w_orT ?_
  | with_reducible refine w_notT ?_
  | with_reducible refine w_ifE ?_
  | with_reducible refine w_andV ?_
  | with_reducible refine w_orV ?_
  | with_reducible refine w_notV ?_
  | with_reducible refine w_neg ?_
  | with_reducible refine s_ret ?_
  | with_reducible refine s_retN ?_
  | with_reducible refine s_skip ?_
  | with_reducible refine s_brk ?_
  | with_reducible refine s_cnt ?_
  | with_reducible refine s_expr ?_
  | with_reducible refine w_met ?_
  | with_reducible refine wp_ok.mpr ?_
  | with_reducible refine wps_rt.mpr ?_
  | with_reducible refine wps_nx.mpr ?_
  | with_reducible refine ite_t ?_
  | with_reducible refine ite_f ?_
  | ((with_reducible refine' w_mod ?e ?_); (case e => first | assumption | omega))
  | ((with_reducible refine' w_div ?e ?_); (case e => omega))
  | ((with_reducible refine' w_mul ?e ?_); (case e => omega))
  | ((with_reducible refine' Exists.intro _ (And.intro ?e ?_)); (case e => rfl))
  | ((with_reducible refine' Exists.intro _ (Exists.intro _ (And.intro ?e ?_))); (case e => rfl))
  | ((with_reducible refine' Exists.intro _ (Exists.intro _ (Exists.intro _ (And.intro ?e ?_)))); (case e => rfl))
  | ((with_reducible refine' ite_yes ?e ?_); (case e => rfl))
  | ((with_reducible refine' ite_no ?e ?_); (case e => rfl))
  | ((with_reducible refine And.intro ?e ?_); (case e => first | rfl | exact small_len _ (Nat.le_of_ble_eq_true rfl))))))
def OdIn (ws os : List Str) : Od → Prop
  | .stop => True
  | .less a b => a ∈ os ∧ b ∈ os
  | .wd _ w b => w ∈ ws ∧ b ∈ os
theorem w_pickS {Q : W → MH → Prop} {ns : List Int} {zs : List D} {ss : List Str} {hs : MH} (hm : ss ≠ []) (hz : zs.length < 1000000) (q : ∀ s ∈ ss, Q (.d (.str s)) (.lst (zs ++ [.int 0]) :: hs)) :
    wp (m__law_pick [.d (.list (iD ns)), .ref 0, .d (.list (sDs ss))] (.lst zs :: hs)) Q := by
  refine w_pick (by cases ss with | nil => exact absurd rfl hm | cons _ _ => simp) hz fun d hd => ?_
  obtain ⟨s, hs, rfl⟩ := List.mem_map.mp hd
  exact q s hs
def sixW : List Wk := [.put, .add, .add, .sub, .sub, .save]
theorem six_at {k : Int} (h0 : 1 ≤ k) (h1 : k ≤ 6) : ∃ w : Wk, L2.atI [PyData.str "put", .str "add", .str "add", .str "sub", .str "sub", .str "save"] (k - 1) = some (.str w.nm) := by
  have : k = 1 ∨ k = 2 ∨ k = 3 ∨ k = 4 ∨ k = 5 ∨ k = 6 := by omega
  rcases this with rfl | rfl | rfl | rfl | rfl | rfl
  · exact ⟨.put, rfl⟩
  · exact ⟨.add, rfl⟩
  · exact ⟨.add, rfl⟩
  · exact ⟨.sub, rfl⟩
  · exact ⟨.sub, rfl⟩
  · exact ⟨.save, rfl⟩
theorem w_order {Q : W → MH → Prop} {ns : List Int} {zs : List D} {ws os : List Str} {hs : MH} (ho : os ≠ []) (hz : zs.length < 900000)
    (q : ∀ o zs', OdIn ws os o → zs'.length ≤ zs.length + 3 → Q (.d (odD o)) (.lst zs' :: hs)) :
    wp (m__law_order [.d (.list (iD ns)), .ref 0, .d (.list (sDs ws)), .d (.list (sDs os))] (.lst zs :: hs)) Q := by
  refine wp_fn ?_
  unfold b__law_order
  walk_at "dw"
  refine w_draw (by omega) (by omega) fun r r0 r1 => ?_
  have less : wp (mTup (mCons (mC (.str "less")) (mCons (mCall m__law_pick (mCons (mVar 0) (mCons (mVar 1) (mCons (mVar 3) mNil)))) (mCons (mCall m__law_pick (mCons (mVar 0) (mCons (mVar 1) (mCons (mVar 3) mNil)))) mNil)))
      [some (.d (.list (iD ns))), some (.ref 0), some (.d (.list (sDs ws))), some (.d (.list (sDs os))), some (.d (.int r)), none] (.lst (zs ++ [.int 0]) :: hs)) fun w h' => wp (retW (.lst zs :: hs) w h') Q := by
    walk_at "dw"
    refine w_pickS ho (by simp; omega) fun a ha => ?_
    walk_at "dw"
    refine w_pickS ho (by simp; omega) fun b hb => ?_
    walk_at "dw"
    rw [retW_town0, wp_ok]
    exact q (.less a b) _ ⟨ha, hb⟩ (by simp)
  walk_at "dw"
  refine ite_b (fun h1 => ?_) (fun h1 => ?_)
  · walk_at "dw"
    rw [retW_town0, wp_ok]
    exact q .stop _ trivial (by simp)
  · walk_at "dw"
    have r2 : r ≠ 0 := by simpa using h1
    cases ws with
    | nil =>
      walk_at "dw"
      refine ite_b (fun h2 => ?_) (fun h2 => ?_)
      · walk_at "dw"
        rw [retW_town0, wp_ok]
        exact q .stop _ trivial (by simp)
      · walk_at "dw"
        refine ite_b (fun h3 => ?_) (fun h3 => ?_)
        · refine s_ret ?_
          exact less
        · walk_at "dw"
          refine w_pickS ho (by simp; omega) fun a ha => ?_
          walk_at "dw"
          refine w_pickS ho (by simp; omega) fun b hb => ?_
          walk_at "dw"
          rw [retW_town0, wp_ok]
          exact q (.less a b) _ ⟨ha, hb⟩ (by simp)
    | cons w0 ws0 =>
      walk_at "dw"
      refine ite_b (fun h3 => ?_) (fun h3 => ?_)
      · refine s_ret ?_
        exact less
      · walk_at "dw"
        have h3 : ¬ 6 < r := by simpa using h3
        obtain ⟨k, ek⟩ := six_at (k := r) (by omega) (by omega)
        refine w_ixl ek ?_
        walk_at "dw"
        refine w_pickS (ss := w0 :: ws0) (by simp) (by simp; omega) fun a ha => ?_
        walk_at "dw"
        refine w_pickS ho (by simp; omega) fun b hb => ?_
        walk_at "dw"
        rw [retW_town0, wp_ok]
        exact q (.wd k a b) _ ⟨ha, hb⟩ (by simp)
end Dw
/-! drawn programs -/
namespace Dw
open PySem PySem.Spec PyProof.Rows L2
local macro_rules | `(tactic| walk_at "dw") => `(tactic| (repeat (first
  | ((with_reducible refine' w_var ?e ?_); (case e => rfl))
  | with_reducible refine w_c ?_
  | with_reducible refine s_seq ?_
  | with_reducible refine s_set ?_
  | with_reducible refine w_op2 ?_
  | with_reducible refine w_add ?_
  | with_reducible refine w_sub ?_
  | with_reducible refine w_eq ?_
  | with_reducible refine w_ne ?_
  | with_reducible refine w_lt ?_
  | with_reducible refine w_gt ?_
  | with_reducible refine w_le ?_
  | with_reducible refine w_ge ?_
  | with_reducible refine w_eqb ?_
  | with_reducible refine w_neb ?_
  | with_reducible refine w_cons ?_
  | with_reducible refine w_eqs ?_
  | with_reducible refine w_nes ?_
  | with_reducible refine w_isIn ?_
  | with_reducible refine w_isN ?_
  | with_reducible refine w_isNotN ?_
  | with_reducible refine w_nil ?_
  | with_reducible refine w_call ?_
  | with_reducible refine w_calW ?_
  | with_reducible refine w_cal ?_
  | with_reducible refine w_ix ?_
  | with_reducible refine w_sl ?_
  | with_reducible refine w_pn ?_
  | with_reducible refine w_rev ?_
  | with_reducible refine w_ps ?_
  | with_reducible refine w_chain ?_
  | with_reducible refine w_tup ?_
  | with_reducible refine w_lst ?_
  | with_reducible refine w_lstR ?_
  | with_reducible refine w_dict ?_
  | with_reducible refine w_isa ?_
  | with_reducible refine w_itR1 ?_
  | with_reducible refine w_itS ?_
  | ((with_reducible refine' w_ixt0 ?e ?_); (case e => rfl))
  | ((with_reducible refine' w_ixl0 ?e ?_); (case e => rfl))
  | ((with_reducible refine' w_ixt ?e ?_); (case e => rfl))
  | ((with_reducible refine' w_ixl ?e ?_); (case e => rfl))
  | with_reducible refine w_itR2 ?_
  | with_reducible refine w_itZ ?_
  | with_reducible refine w_itE ?_
  | with_reducible refine w_lc ?_
  | with_reducible refine s_par ?_
  | with_reducible refine s_par3 ?_
  | with_reducible refine s_asg ?_
  | with_reducible refine s_put ?_
  | with_reducible refine s_for ?_
  | with_reducible refine s_if ?_
  | with_reducible refine w_test ?_
  | with_reducible refine w_andT ?_
  | with_reducible refine w_orT ?_
  | with_reducible refine w_notT ?_
  | with_reducible refine w_ifE ?_
  | with_reducible refine w_andV ?_
  | with_reducible refine w_orV ?_
  | with_reducible refine w_notV ?_
  | with_reducible refine w_neg ?_
  | with_reducible refine s_ret ?_
  | with_reducible refine s_retN ?_
  | with_reducible refine s_skip ?_
  | with_reducible refine s_brk ?_
  | with_reducible refine s_cnt ?_
  | with_reducible refine s_expr ?_
  | with_reducible refine w_met ?_
  | with_reducible refine wp_ok.mpr ?_
  | with_reducible refine wps_rt.mpr ?_
  | with_reducible refine wps_nx.mpr ?_
  | with_reducible refine ite_t ?_
  | with_reducible refine ite_f ?_
  | ((with_reducible refine' w_mod ?e ?_); (case e => first | assumption | omega))
  | ((with_reducible refine' w_div ?e ?_); (case e => omega))
  | ((with_reducible refine' w_mul ?e ?_); (case e => omega))
  | ((with_reducible refine' Exists.intro _ (And.intro ?e ?_)); (case e => rfl))
  | ((with_reducible refine' Exists.intro _ (Exists.intro _ (And.intro ?e ?_))); (case e => rfl))
  | ((with_reducible refine' Exists.intro _ (Exists.intro _ (Exists.intro _ (And.intro ?e ?_)))); (case e => rfl))
  | ((with_reducible refine' ite_yes ?e ?_); (case e => rfl))
  | ((with_reducible refine' ite_no ?e ?_); (case e => rfl))
  | ((with_reducible refine And.intro ?e ?_); (case e => first | rfl | exact small_len _ (Nat.le_of_ble_eq_true rfl))))))
def abc : Str := "abcdefghijklmnopqrstuvwxyz"
def letN (i : Nat) : Str := ⟨#[abc.cps.toList.getD i 0]⟩
theorem abc_len : abc.cps.toList.length = 26 := by decide +kernel
theorem abc_ix {k : Int} {i : Nat} (e : k = (i : Int)) (h : i < 26) : fIx (.str abc) (.int k) = some (.str (letN i)) := by
  subst e
  show (if abc.length ≤ sizeLine then (L2.atI abc.cps.toList (i : Int)).map fun c => PyData.str ⟨#[c]⟩ else none) = _
  rw [if_pos (by rw [sizeLine_eq]; decide +kernel)]
  unfold L2.atI L2.ixN
  rw [abc_len, if_pos (by omega), if_pos (by omega)]
  simp only [Int.toNat_natCast, Option.bind_some]
  rw [List.getElem?_eq_getElem (by rw [abc_len]; exact h)]
  unfold letN
  rw [List.getD_eq_getElem?_getD, List.getElem?_eq_getElem (by rw [abc_len]; exact h)]
  rfl
theorem letN_lt' : ∀ i : Fin 26, ∀ j : Fin 26, i < j → ((letN i).cps.toList ≤ (letN j).cps.toList ∧ letN i ≠ letN j) := by decide +kernel
theorem letN_lt {i j : Nat} (h : i < j) (hj : j < 26) : slt (letN i) (letN j) := letN_lt' ⟨i, by omega⟩ ⟨j, hj⟩ h

/-! #### lists that are made and then changed -/
section
variable {mi : MI} {vs : List Nat} {g : GF} {t : MT} {elt : M} {ρ : ME} {h : MH} {Q : W → MH → Prop}
theorem w_lcR (q : wp (mi ρ h) fun it h1 => wp (lcRun g t elt it.keep (wipeM ρ vs) it.ws [] h1) fun ds h2 => Q (.ref h2.length) (h2 ++ [.lst ds])) : wp (mLcR mi vs g t elt ρ h) Q := by
  unfold mLcR
  rw [wp_bind]
  refine wp_mono q fun it h1 q => ?_
  rw [wp_bind]
  exact wp_mono q fun ds h2 q => wp_ok.mpr q
theorem w_lstRg1R {m : M} (q : wp (m ρ h) fun w h1 => ∃ n : Int, w = .d (.int n) ∧ (0 ≤ n ∧ n ≤ 100000) ∧ Q (.ref h1.length) (h1 ++ [.lst ((List.range n.toNat).map fun (i : Nat) => .int (i : Int))])) : wp (mLstRg1R m ρ h) Q := by
  unfold mLstRg1R
  rw [wp_bind]
  refine wp_mono q fun w h1 ⟨n, e, l, q⟩ => ?_
  subst e
  simp only
  rw [if_pos l]
  exact wp_ok.mpr q
end
theorem lst_at1 {zs : List D} {hs : MH} {o : MO} : (MO.lst zs :: (hs ++ [o]))[(MO.lst zs :: hs).length]? = some o := by
  rw [List.length_cons]
  exact dk_at
theorem lst_set1 {zs : List D} {hs : MH} {o o' : MO} : (MO.lst zs :: (hs ++ [o])).set (MO.lst zs :: hs).length o' = .lst zs :: (hs ++ [o']) := by
  rw [List.length_cons]
  exact dk_set
theorem ixN_nat {n i : Nat} {k : Int} (e : k = (i : Int)) (h : i < n) : L2.ixN n k = some i := by
  subst e
  unfold L2.ixN
  rw [if_pos (by omega), if_pos (by omega)]
  simp
theorem atI_nat {α : Type} {xs : List α} {i : Nat} {k : Int} {x : α} (e : k = (i : Int)) (h : xs[i]? = some x) : L2.atI xs k = some x := by
  unfold L2.atI
  rw [ixN_nat e (List.getElem?_eq_some_iff.mp h).1]
  exact h
theorem putW_lst {h : MH} {r i : Nat} {k : Int} {ds : List D} {d : D} (e : h[r]? = some (.lst ds)) (ek : k = (i : Int)) (hi : i < ds.length) : putW (.ref r) (.d (.int k)) (.d d) h = some (h.set r (.lst (ds.set i d))) := by
  unfold putW
  simp only [e, rd, ixN_nat ek hi]
theorem ixW_lst {Q : W → MH → Prop} {h : MH} {r i : Nat} {k : Int} {ds : List D} {d : D} (e : h[r]? = some (.lst ds)) (ek : k = (i : Int)) (hd : ds[i]? = some d) (q : Q (.d d) h) : wp (ixW (.ref r) (.d (.int k)) h) Q := by
  unfold ixW
  simp only [e]
  refine w_op2w (rd_at e) rfl (z := d) ?_ q
  exact atI_nat ek hd
theorem enum_strs (ns : List Str) : enumW (sDs ns) = (List.range ns.length).map fun (i : Nat) => W.tup [.d (.int (i : Int)), .d (.str (ns.getD i Str.empty))] := by
  unfold enumW
  rw [List.length_map]
  refine List.map_congr_left fun i hi => ?_
  have hi := List.mem_range.mp hi
  have : (sDs ns).getD i PyData.none = .str (ns.getD i Str.empty) := by
    rw [List.getD_eq_getElem?_getD, List.getD_eq_getElem?_getD, List.getElem?_map, List.getElem?_eq_getElem hi]
    rfl
  rw [this]
theorem w_selE {Q : List D → MH → Prop} {g : GF} {t : MT} {elt : M} {ρw : ME} {h : MH} {ns : List Str} (p : Nat → Bool) (e : Nat → D) (hl : ns.length ≤ 1000000)
    (H : ∀ i : Nat, i < ns.length → ∃ ρ', g (.tup [.d (.int (i : Int)), .d (.str (ns.getD i Str.empty))]) ρw = some ρ' ∧ wp (t ρ' h) fun b h' => h' = h ∧ b = p i ∧ (p i = true → wp (elt ρ' h) fun w h'' => w = .d (e i) ∧ h'' = h)) (q : Q (((List.range ns.length).filter p).map e) h) :
    wp (lcRun g t elt anyH ρw (enumW (sDs ns)) [] h) Q := by
  rw [enum_strs]
  exact w_sel _ p e trivial (by simp; omega) (fun i hi => H i (List.mem_range.mp hi)) q
/-! #### the program drawn -/
def contP (nm : Nat → Str) (ct : Nat → Ct) (n : Nat) : Prog := (List.range n).map fun i => (nm i, ct i)
theorem contP_ok {n : Nat} {nm : Nat → Str} {ct : Nat → Ct} {kf : Nat → Bool} (hn : n < 60) (up : ∀ i j, i < j → j < n → slt (nm i) (nm j)) (hk : ∀ i, i < n → isO (ct i) = !kf i)
    (ho : ∀ i o, i < n → ct i = .ord o → OdIn (((List.range n).filter kf).map nm) (((List.range n).filter fun i => !kf i).map nm) o) : PrOk (contP nm ct n) := by
  have nms : namesP (contP nm ct n) = (List.range n).map nm := by unfold namesP contP; rw [List.map_map]; rfl
  have pw : (namesP (contP nm ct n)).Pairwise slt := by
    rw [nms, List.pairwise_map]
    refine List.Pairwise.imp_of_mem (R := (· < ·)) (fun {a b} ha hb hab => up a b hab (List.mem_range.mp hb)) List.pairwise_lt_range
  have lk : ∀ i, i < n → (contP nm ct n).lookup (nm i) = some (ct i) := fun i hi => mem_lookup (slt_nd pw) (List.mem_map.mpr ⟨i, List.mem_range.mpr hi, rfl⟩)
  have isO' : ∀ a ∈ (((List.range n).filter fun i => !kf i).map nm), IsOrd (contP nm ct n) a := fun a ha => by
    obtain ⟨i, hi, rfl⟩ := List.mem_map.mp ha
    obtain ⟨h1, h2⟩ := List.mem_filter.mp hi
    have h1 := List.mem_range.mp h1
    have h3 := hk i h1
    rw [h2] at h3
    cases hc : ct i with
    | num _ => rw [hc] at h3; cases h3
    | ord o => exact ⟨o, by rw [lk i h1, hc]⟩
  have isN : ∀ a ∈ (((List.range n).filter kf).map nm), IsNum (contP nm ct n) a := fun a ha => by
    obtain ⟨i, hi, rfl⟩ := List.mem_map.mp ha
    obtain ⟨h1, h2⟩ := List.mem_filter.mp hi
    have h1 := List.mem_range.mp h1
    have h3 := hk i h1
    rw [h2] at h3
    cases hc : ct i with
    | ord _ => rw [hc] at h3; cases h3
    | num o => exact ⟨o, by rw [lk i h1, hc]⟩
  refine ⟨pw, by unfold contP; simpa using hn, fun m o e => ?_⟩
  obtain ⟨i, hi, e2⟩ := List.mem_map.mp (lookup_mem e)
  have hi := List.mem_range.mp hi
  obtain ⟨e3, e4⟩ := Prod.mk.inj e2
  have := ho i o hi e4
  cases o with
  | stop => trivial
  | less a b => exact ⟨isO' _ this.1, isO' _ this.2⟩
  | wd k w b => exact ⟨isN _ this.1, isO' _ this.2⟩
/-- what is known of a drawn program -/
structure DrawnP (p : Prog) (lo hi : Nat) : Prop where
  ok : PrOk p
  lo : lo ≤ p.length
  hi : p.length ≤ hi
  ne : ordersP p ≠ []
  num : ∀ n i, (n, Ct.num i) ∈ p → i ∈ [0, 1, -1, 7, -99, (99 : Int)]
  nm : ∃ k, k ≤ 2 ∧ 1 ≤ k ∧ namesP p = (List.range p.length).map fun i => letN (i * k)
end Dw
/-! drawn programs: the walk -/
namespace Dw
open PySem PySem.Spec PyProof.Rows L2
local macro_rules | `(tactic| walk_at "dw") => `(tactic| (repeat (first
  | ((with_reducible refine' w_var ?e ?_); (case e => rfl))
  | with_reducible refine w_c ?_
  | with_reducible refine s_seq ?_
  | with_reducible refine s_set ?_
  | with_reducible refine w_op2 ?_
  | with_reducible refine w_add ?_
  | with_reducible refine w_sub ?_
  | with_reducible refine w_eq ?_
  | with_reducible refine w_ne ?_
  | with_reducible refine w_lt ?_
  | with_reducible refine w_gt ?_
  | with_reducible refine w_le ?_
  | with_reducible refine w_ge ?_
  | with_reducible refine w_eqb ?_
  | with_reducible refine w_neb ?_
  | with_reducible refine w_cons ?_
  | with_reducible refine w_eqs ?_
  | with_reducible refine w_nes ?_
  | with_reducible refine w_isIn ?_
  | with_reducible refine w_isN ?_
  | with_reducible refine w_isNotN ?_
  | with_reducible refine w_nil ?_
  | with_reducible refine w_call ?_
  | with_reducible refine w_calW ?_
  | with_reducible refine w_cal ?_
  | with_reducible refine w_ix ?_
  | with_reducible refine w_sl ?_
  | with_reducible refine w_pn ?_
  | with_reducible refine w_rev ?_
  | with_reducible refine w_ps ?_
  | with_reducible refine w_chain ?_
  | with_reducible refine w_tup ?_
  | with_reducible refine w_lst ?_
  | with_reducible refine w_lstR ?_
  | with_reducible refine w_dict ?_
  | with_reducible refine w_isa ?_
  | with_reducible refine w_itR1 ?_
  | with_reducible refine w_itS ?_
  | ((with_reducible refine' w_ixt0 ?e ?_); (case e => rfl))
  | ((with_reducible refine' w_ixl0 ?e ?_); (case e => rfl))
  | ((with_reducible refine' w_ixt ?e ?_); (case e => rfl))
  | ((with_reducible refine' w_ixl ?e ?_); (case e => rfl))
  | with_reducible refine w_itR2 ?_
  | with_reducible refine w_itZ ?_
  | with_reducible refine w_itE ?_
  | with_reducible refine w_lc ?_
  | with_reducible refine w_lcR ?_
  | with_reducible refine w_lstRg1R ?_
  | with_reducible refine s_par ?_
  | with_reducible refine s_par3 ?_
  | with_reducible refine s_asg ?_
  | with_reducible refine s_put ?_
  | with_reducible refine s_for ?_
  | with_reducible refine s_if ?_
  | with_reducible refine w_test ?_
  | with_reducible refine w_andT ?_
  | with_reducible refine w_orT ?_
  | with_reducible refine w_notT ?_
  | with_reducible refine w_ifE ?_
  | with_reducible refine w_andV ?_
  | with_reducible refine w_orV ?_
  | with_reducible refine w_notV ?_
  | with_reducible refine w_neg ?_
  | with_reducible refine s_ret ?_
  | with_reducible refine s_retN ?_
  | with_reducible refine s_skip ?_
  | with_reducible refine s_brk ?_
  | with_reducible refine s_cnt ?_
  | with_reducible refine s_expr ?_
  | with_reducible refine w_met ?_
  | with_reducible refine wp_ok.mpr ?_
  | with_reducible refine wps_rt.mpr ?_
  | with_reducible refine wps_nx.mpr ?_
  | with_reducible refine ite_t ?_
  | with_reducible refine ite_f ?_
  | ((with_reducible refine' w_mod ?e ?_); (case e => first | assumption | omega))
  | ((with_reducible refine' w_div ?e ?_); (case e => omega))
  | ((with_reducible refine' w_mul ?e ?_); (case e => omega))
  | ((with_reducible refine' Exists.intro _ (And.intro ?e ?_)); (case e => rfl))
  | ((with_reducible refine' Exists.intro _ (Exists.intro _ (And.intro ?e ?_))); (case e => rfl))
  | ((with_reducible refine' Exists.intro _ (Exists.intro _ (Exists.intro _ (And.intro ?e ?_)))); (case e => rfl))
  | ((with_reducible refine' ite_yes ?e ?_); (case e => rfl))
  | ((with_reducible refine' ite_no ?e ?_); (case e => rfl))
  | ((with_reducible refine And.intro ?e ?_); (case e => first | rfl | exact small_len _ (Nat.le_of_ble_eq_true rfl))))))
theorem bools_of {ds : List D} (h : ∀ x ∈ ds, ∃ b : Bool, x = .bool b) : ∃ ks : List Bool, ds = ks.map .bool := by
  induction ds with
  | nil => exact ⟨[], rfl⟩
  | cons d ds ih =>
    obtain ⟨b, rfl⟩ := h d (by simp)
    obtain ⟨ks, rfl⟩ := ih fun x hx => h x (by simp [hx])
    exact ⟨b :: ks, rfl⟩
theorem contP_succ {nm : Nat → Str} {ct : Nat → Ct} {i : Nat} {c : Ct} : contP nm (fun a => if a = i then c else ct a) (i + 1) = contP nm ct i ++ [(nm i, c)] := by
  unfold contP
  rw [List.range_succ, List.map_append]
  congr 1
  · refine List.map_congr_left fun a ha => ?_
    have := List.mem_range.mp ha
    simp only
    rw [if_neg (by omega)]
  · simp
theorem w_program {Q : W → MH → Prop} {ns : List Int} {zs : List D} {hs : MH} {most : Int} (h2 : 2 ≤ most) (h13 : most ≤ 13) (hz : zs.length < 800000)
    (q : ∀ p zs', DrawnP p 2 most.toNat → zs'.length ≤ zs.length + 100 → Q (.d (progD p)) (.lst zs' :: hs)) :
    wp (m__law_program [.d (.list (iD ns)), .ref 0, .d (.int most)] (.lst zs :: hs)) Q := by
  refine wp_fn ?_
  unfold b__law_program
  walk_at "dw"
  refine w_draw (by omega) (by omega) fun r r0 r1 => ?_
  walk_at "dw"
  refine w_draw (by omega) (by simp; omega) fun st s0 s1 => ?_
  walk_at "dw"
  unfold lc__law_program_5
  walk_at "dw"
  refine ⟨by omega, ?_⟩
  generalize hr : 2 + r = nI
  obtain ⟨n, hn⟩ : ∃ n : Nat, n = nI.toNat := ⟨_, rfl⟩
  obtain ⟨k, hk⟩ : ∃ k : Nat, 1 + st = (k : Int) := ⟨(1 + st).toNat, by omega⟩
  rw [hk, ← hn]
  have hk1 : 1 ≤ k ∧ k ≤ 2 := by omega
  have hn1 : 2 ≤ n ∧ n ≤ 13 ∧ (n : Int) ≤ most ∧ nI = (n : Int) := by omega
  have small : ∀ i, i < n → i * k < 26 := fun i hi => by
    have h1 : i * k ≤ i * 2 := Nat.mul_le_mul_left _ hk1.2
    omega
  refine w_mapR (fun x => .str (letN (x.toNat * k))) (by omega) (fun i hi => ⟨_, rfl, ?_⟩) ?_
  · unfold ce__law_program_5
    walk_at "dw"
    refine w_op2d (abc_ix (i := i * k) (by simp) (small i hi)) ?_
    exact ⟨by simp, rfl⟩
  have names : ((List.range n).map fun i : Nat => PyData.str (letN ((0 + (i : Int)).toNat * k))) = sDs ((List.range n).map fun i => letN (i * k)) := by
    unfold sDs
    rw [List.map_map]
    refine List.map_congr_left fun i _ => ?_
    simp
  rw [names]
  generalize hN : ((List.range n).map fun i => letN (i * k)) = N
  have lN : N.length = n := by rw [← hN]; simp
  walk_at "dw"
  unfold lc__law_program_4
  walk_at "dw"
  refine ⟨by omega, ?_⟩
  rw [← hn]
  refine w_lcInv (fun i h => ∃ zs', h = .lst zs' :: hs ∧ zs'.length = zs.length + 2 + i) (fun x => ∃ b : Bool, x = .bool b) ⟨_, rfl, by simp⟩ (fun _ _ _ _ => any_keep) (by rw [rng_len]; omega) ?_ ?_
  · rintro i w h ew ⟨zs', rfl, hz'⟩
    obtain ⟨hi, rfl⟩ := rng_at ew
    refine ⟨_, rfl, ?_⟩
    unfold ce__law_program_4
    walk_at "dw"
    refine w_draw (by omega) (by omega) fun x x0 x1 => ?_
    walk_at "dw"
    exact ⟨⟨_, rfl⟩, _, rfl, by simp; omega⟩
  rintro ds h1 hl hb ⟨zs1, rfl, hz1⟩
  rw [rng_len] at hz1 hl
  obtain ⟨ks0, rfl⟩ := bools_of hb
  rw [List.length_map] at hl
  walk_at "dw"
  show wp (m__law_draw _ (.lst zs1 :: (hs ++ [.lst (ks0.map .bool)]))) _
  refine w_draw (by omega) (by omega) fun j j0 j1 => ?_
  obtain ⟨jn, hj⟩ : ∃ jn : Nat, j = (jn : Int) := ⟨j.toNat, by omega⟩
  refine ⟨_, putW_lst (lst_at1 (zs := zs1 ++ [.int 0])) hj (by rw [List.length_map]; omega), ?_⟩
  rw [show (MO.lst zs1 :: hs).length = (MO.lst (zs1 ++ [PyData.int 0]) :: hs).length by simp, lst_set1, show (ks0.map PyData.bool).set jn (.bool false) = (ks0.set jn false).map .bool by rw [List.map_set]]
  generalize hks : ks0.set jn false = ks
  have lks : ks.length = n := by rw [← hks, List.length_set]; exact hl
  have kj : ks.getD jn true = false := by rw [← hks, List.getD_eq_getElem?_getD, List.getElem?_set_self (by omega)]; rfl
  have kat : ∀ i, i < n → (ks.map PyData.bool)[i]? = some (.bool (ks.getD i true)) := fun i hi => by
    rw [List.getElem?_map, List.getElem?_eq_getElem (by omega), List.getD_eq_getElem?_getD, List.getElem?_eq_getElem (by omega)]
    rfl
  have Nat_ : ∀ i, i < n → N.getD i Str.empty = letN (i * k) := fun i hi => by
    rw [← hN, List.getD_eq_getElem?_getD, List.getElem?_map, List.getElem?_range hi]
    rfl
  walk_at "dw"
  unfold lc__law_program_3
  walk_at "dw"
  refine w_selE (fun i => ks.getD i true) (fun i => .str (letN (i * k))) (by omega) (fun i hi => ⟨_, rfl, ?_⟩) ?_
  · unfold ct__law_program_3
    walk_at "dw"
    refine ixW_lst lst_at1 (i := i) rfl (kat i (by omega)) ?_
    walk_at "dw"
    refine fun _ => ?_
    unfold ce__law_program_3
    walk_at "dw"
    rw [Nat_ i (by omega)]
    exact ⟨rfl, rfl⟩
  walk_at "dw"
  unfold lc__law_program_2
  walk_at "dw"
  refine w_selE (fun i => !ks.getD i true) (fun i => .str (letN (i * k))) (by omega) (fun i hi => ⟨_, rfl, ?_⟩) ?_
  · unfold ct__law_program_2
    walk_at "dw"
    refine ixW_lst lst_at1 (i := i) rfl (kat i (by omega)) ?_
    walk_at "dw"
    refine fun _ => ?_
    unfold ce__law_program_2
    walk_at "dw"
    rw [Nat_ i (by omega)]
    exact ⟨rfl, rfl⟩
  rw [lN]
  walk_at "dw"
  have mapS : ∀ (l : List Nat), l.map (fun i => PyData.str (letN (i * k))) = sDs (l.map fun i => letN (i * k)) := fun l => by unfold sDs; rw [List.map_map]; rfl
  rw [mapS, mapS]
  generalize hWs : (((List.range n).filter fun i => ks.getD i true).map fun i => letN (i * k)) = ws
  generalize hOs : (((List.range n).filter fun i => !ks.getD i true).map fun i => letN (i * k)) = os
  have one : os ≠ [] := by
    intro z
    have : letN (jn * k) ∈ os := by
      rw [← hOs]
      exact List.mem_map.mpr ⟨jn, List.mem_filter.mpr ⟨List.mem_range.mpr (by omega), by simp only [kj]; rfl⟩, rfl⟩
    rw [z] at this
    cases this
  refine loop_inv (fun i ρ h => ∃ zs' ct v11 v12 v13, ρ = [some (.d (.list (iD ns))), some (.ref 0), some (.d (.int most)), some (.d (.str "abcdefghijklmnopqrstuvwxyz")), some (.d (.int nI)), some (.d (.int (k : Int))), some (.d (.list (sDs N))), some (.ref (MO.lst (zs1 ++ [PyData.int 0]) :: hs).length), some (.d (.list (sDs ws))), some (.d (.list (sDs os))), some (.d (progD (contP (fun i => letN (i * k)) ct i))), v11, v12, v13] ∧
    h = .lst zs' :: (hs ++ [.lst (ks.map .bool)]) ∧ zs'.length ≤ zs.length + 20 + 4 * i ∧ (∀ a, a < i → isO (ct a) = !ks.getD a true) ∧ (∀ a o, a < i → ct a = .ord o → OdIn ws os o) ∧ ∀ a b, a < i → ct a = .num b → b ∈ [0, 1, -1, 7, -99, (99 : Int)]) ?_ (fun _ _ _ _ _ => trivial) ?_ ?_
  · exact ⟨zs1 ++ [.int 0], fun _ => .num 0, none, none, none, rfl, rfl, by simp; omega, fun a h => absurd h (Nat.not_lt_zero _), fun a _ h => absurd h (Nat.not_lt_zero _), fun a _ h => absurd h (Nat.not_lt_zero _)⟩
  · rintro i w ρ h ew ⟨zs', ct, v11, v12, v13, rfl, rfl, hz', c1, c2, c3⟩
    have ew : (enumW (sDs N))[i]? = some w := ew
    rw [enum_strs, lN, List.getElem?_map] at ew
    obtain ⟨i', h1, rfl⟩ := Option.map_eq_some_iff.mp ew
    obtain ⟨h3, h4⟩ := List.getElem?_eq_some_iff.mp h1
    simp at h3 h4
    subst h4
    rw [Nat_ i h3]
    refine ⟨_, rfl, ?_⟩
    have fin : ∀ (c : Ct) (zs2 : List D) (w11 w12 w13 : Option W), zs2.length ≤ zs'.length + 4 → isO c = !ks.getD i true → (∀ o, c = .ord o → OdIn ws os o) → (∀ b, c = .num b → b ∈ [0, 1, -1, 7, -99, (99 : Int)]) →
        ∃ zs' ct' v11 v12 v13, [some (.d (.list (iD ns))), some (.ref 0), some (.d (.int most)), some (.d (.str "abcdefghijklmnopqrstuvwxyz")), some (.d (.int nI)), some (.d (.int (k : Int))), some (.d (.list (sDs N))), some (.ref (MO.lst (zs1 ++ [PyData.int 0]) :: hs).length), some (.d (.list (sDs ws))), some (.d (.list (sDs os))), some (.d (.tuple ((contP (fun i => letN (i * k)) ct i).map cellD ++ [cellD (letN (i * k), c)]))), w11, w12, w13] = [some (.d (.list (iD ns))), some (.ref 0), some (.d (.int most)), some (.d (.str "abcdefghijklmnopqrstuvwxyz")), some (.d (.int nI)), some (.d (.int (k : Int))), some (.d (.list (sDs N))), some (.ref (MO.lst (zs1 ++ [PyData.int 0]) :: hs).length), some (.d (.list (sDs ws))), some (.d (.list (sDs os))), some (.d (progD (contP (fun i => letN (i * k)) ct' (i + 1)))), v11, v12, v13] ∧
          MO.lst zs2 :: (hs ++ [.lst (ks.map .bool)]) = .lst zs' :: (hs ++ [.lst (ks.map .bool)]) ∧ zs'.length ≤ zs.length + 20 + 4 * (i + 1) ∧ (∀ a, a < i + 1 → isO (ct' a) = !ks.getD a true) ∧ (∀ a o, a < i + 1 → ct' a = .ord o → OdIn ws os o) ∧ ∀ a b, a < i + 1 → ct' a = .num b → b ∈ [0, 1, -1, 7, -99, (99 : Int)] := by
      intro c zs2 w11 w12 w13 g1 g2 g3 g4
      refine ⟨zs2, fun a => if a = i then c else ct a, w11, w12, w13, ?_, rfl, by omega, fun a ha => ?_, fun a o ha e => ?_, fun a b ha e => ?_⟩
      · rw [contP_succ]
        unfold progD
        rw [List.map_append]
        rfl
      · by_cases hai : a = i
        · subst hai; simp only [if_pos]; exact g2
        · simp only [if_neg hai]; exact c1 a (by omega)
      · by_cases hai : a = i
        · subst hai; simp only [if_pos] at e; exact g3 o e
        · simp only [if_neg hai] at e; exact c2 a o (by omega) e
      · by_cases hai : a = i
        · subst hai; simp only [if_pos] at e; exact g4 b e
        · simp only [if_neg hai] at e; exact c3 a b (by omega) e
    have hll : ((contP (fun i => letN (i * k)) ct i).map cellD).length + 1 ≤ sizeLine := by unfold contP; rw [List.length_map, List.length_map, List.length_range]; exact big_len _ (by omega)
    unfold lb__law_program_1
    walk_at "dw"
    refine ixW_lst (by rw [show (MO.lst (zs1 ++ [PyData.int 0]) :: hs).length = (MO.lst zs' :: hs).length by simp]; exact lst_at1) (i := i) rfl (kat i h3) ?_
    walk_at "dw"
    refine ite_b (fun hb1 => ?_) (fun hb1 => ?_)
    · walk_at "dw"
      refine w_pick (by decide) (by omega) fun d hd => ?_
      obtain ⟨b, hb2, rfl⟩ : ∃ b, b ∈ [0, 1, -1, 7, -99, (99 : Int)] ∧ d = .int b := by
        simp at hd
        rcases hd with rfl | rfl | rfl | rfl | rfl | rfl <;> exact ⟨_, by decide, rfl⟩
      walk_at "dw"
      unfold progD
      refine w_addt hll ?_
      walk_at "dw"
      exact fin (.num b) _ _ _ _ (by simp) (by rw [hb1]; rfl) (fun o z => by cases z) (fun b' z => by cases z; exact hb2)
    · walk_at "dw"
      refine w_order one (by omega) fun o zs2 ho hz2 => ?_
      walk_at "dw"
      unfold progD
      refine w_addt hll ?_
      walk_at "dw"
      exact fin (.ord o) _ _ _ _ (by omega) (by rw [hb1]; rfl) (fun o' z => by cases z; exact ho) (fun b' z => by cases z)
  · rintro ρ h ⟨zs', ct, v11, v12, v13, rfl, rfl, hz', c1, c2, c3⟩
    have hlen : (enumW (sDs N)).length = n := by rw [enum_strs]; simp [lN]
    have el : (Itm.mk (enumW (sDs N)) anyH).ws.length = n := hlen
    rw [el] at hz' c1 c2 c3 ⊢
    walk_at "dw"
    rw [retW_town, wp_ok]
    have ok : PrOk (contP (fun i => letN (i * k)) ct n) := contP_ok (kf := fun i => ks.getD i true) (by omega) (fun i j hij hj => letN_lt (by
      have : 1 * k ≤ (j - i) * k := Nat.mul_le_mul_right _ (by omega)
      have e : j * k = i * k + (j - i) * k := by rw [← Nat.add_mul]; congr 1; omega
      omega) (small j hj)) c1 (by rw [hWs, hOs]; intro i o hi; exact c2 i o hi)
    have ln : (contP (fun i => letN (i * k)) ct n).length = n := by unfold contP; simp
    refine q _ zs' ⟨ok, by omega, by omega, fun z => ?_, fun m b hb2 => ?_, k, by omega, by omega, ?_⟩ (by omega)
    · obtain ⟨o, ho⟩ : ∃ o, ct jn = .ord o := by
        have h1 := c1 jn (by omega)
        rw [kj] at h1
        cases hc : ct jn with
        | num _ => rw [hc] at h1; cases h1
        | ord o => exact ⟨o, rfl⟩
      have hm : (letN (jn * k), Ct.ord o) ∈ contP (fun i => letN (i * k)) ct n := List.mem_map.mpr ⟨jn, List.mem_range.mpr (by omega), by rw [ho]⟩
      have := ord_mem ⟨o, mem_lookup ok.nd hm⟩
      rw [z] at this
      cases this
    · obtain ⟨i, hi, e2⟩ := List.mem_map.mp hb2
      obtain ⟨_, e4⟩ := Prod.mk.inj e2
      exact c3 i b (List.mem_range.mp hi) e4
    · rw [ln]
      unfold namesP contP
      rw [List.map_map]
      rfl
end Dw
/-! drawn layings, orders -/
namespace Dw
open PySem PySem.Spec PyProof.Rows L2
local macro_rules | `(tactic| walk_at "dw") => `(tactic| (repeat (first
  | ((with_reducible refine' w_var ?e ?_); (case e => rfl))
  | with_reducible refine w_c ?_
  | with_reducible refine s_seq ?_
  | with_reducible refine s_set ?_
  | with_reducible refine w_op2 ?_
  | with_reducible refine w_add ?_
  | with_reducible refine w_sub ?_
  | with_reducible refine w_eq ?_
  | with_reducible refine w_ne ?_
  | with_reducible refine w_lt ?_
  | with_reducible refine w_gt ?_
  | with_reducible refine w_le ?_
  | with_reducible refine w_ge ?_
  | with_reducible refine w_eqb ?_
  | with_reducible refine w_neb ?_
  | with_reducible refine w_cons ?_
  | with_reducible refine w_eqs ?_
  | with_reducible refine w_nes ?_
  | with_reducible refine w_isIn ?_
  | with_reducible refine w_isN ?_
  | with_reducible refine w_isNotN ?_
  | with_reducible refine w_nil ?_
  | with_reducible refine w_call ?_
  | with_reducible refine w_calW ?_
  | with_reducible refine w_cal ?_
  | with_reducible refine w_ix ?_
  | with_reducible refine w_sl ?_
  | with_reducible refine w_pn ?_
  | with_reducible refine w_rev ?_
  | with_reducible refine w_ps ?_
  | with_reducible refine w_chain ?_
  | with_reducible refine w_tup ?_
  | with_reducible refine w_lst ?_
  | with_reducible refine w_lstR ?_
  | with_reducible refine w_dict ?_
  | with_reducible refine w_isa ?_
  | with_reducible refine w_itR1 ?_
  | with_reducible refine w_itS ?_
  | ((with_reducible refine' w_ixt0 ?e ?_); (case e => rfl))
  | ((with_reducible refine' w_ixl0 ?e ?_); (case e => rfl))
  | ((with_reducible refine' w_ixt ?e ?_); (case e => rfl))
  | ((with_reducible refine' w_ixl ?e ?_); (case e => rfl))
  | with_reducible refine w_itR2 ?_
  | with_reducible refine w_itZ ?_
  | with_reducible refine w_itE ?_
  | with_reducible refine w_lc ?_
  | with_reducible refine w_lcR ?_
  | with_reducible refine w_lstRg1R ?_
  | with_reducible refine s_par ?_
  | with_reducible refine s_par3 ?_
  | with_reducible refine s_asg ?_
  | with_reducible refine s_put ?_
  | with_reducible refine s_for ?_
  | with_reducible refine s_if ?_
  | with_reducible refine w_test ?_
  | with_reducible refine w_andT ?_
  | with_reducible refine w_orT ?_
  | with_reducible refine w_notT ?_
  | with_reducible refine w_ifE ?_
  | with_reducible refine w_andV ?_
  | with_reducible refine w_orV ?_
  | with_reducible refine w_notV ?_
  | with_reducible refine w_neg ?_
  | with_reducible refine s_ret ?_
  | with_reducible refine s_retN ?_
  | with_reducible refine s_skip ?_
  | with_reducible refine s_brk ?_
  | with_reducible refine s_cnt ?_
  | with_reducible refine s_expr ?_
  | with_reducible refine w_met ?_
  | with_reducible refine wp_ok.mpr ?_
  | with_reducible refine wps_rt.mpr ?_
  | with_reducible refine wps_nx.mpr ?_
  | with_reducible refine ite_t ?_
  | with_reducible refine ite_f ?_
  | ((with_reducible refine' w_mod ?e ?_); (case e => first | assumption | omega))
  | ((with_reducible refine' w_div ?e ?_); (case e => omega))
  | ((with_reducible refine' w_mul ?e ?_); (case e => omega))
  | ((with_reducible refine' Exists.intro _ (And.intro ?e ?_)); (case e => rfl))
  | ((with_reducible refine' Exists.intro _ (Exists.intro _ (And.intro ?e ?_))); (case e => rfl))
  | ((with_reducible refine' Exists.intro _ (Exists.intro _ (Exists.intro _ (And.intro ?e ?_)))); (case e => rfl))
  | ((with_reducible refine' ite_yes ?e ?_); (case e => rfl))
  | ((with_reducible refine' ite_no ?e ?_); (case e => rfl))
  | ((with_reducible refine And.intro ?e ?_); (case e => first | rfl | exact small_len _ (Nat.le_of_ble_eq_true rfl))))))
theorem lorders_ok {p : Prog} {h : MH} (hp : p.length ≤ 1000) : m__law_orders [.d (progD p)] h = .ok (.d (.list (sDs (ordersP p)))) h := wp_congr_of <| by
  refine wp_fn ?_
  unfold b__law_orders progD
  walk_at "dw"
  unfold lc__law_orders_1
  walk_at "dw"
  refine w_selF cellD (fun c => isO c.2) (fun c => .str c.1) trivial (by omega) (fun x _ => ⟨_, rfl, ?_⟩) ?_
  · unfold ct__law_orders_1
    walk_at "dw"
    refine ⟨ct_tup _, fun _ => ?_⟩
    unfold ce__law_orders_1
    walk_at "dw"
    rfl
  rw [retW_same, wp_ok]
  unfold sDs ordersP
  rw [List.map_map]
  exact ⟨rfl, rfl⟩
theorem eraseIdx_map' {α β : Type} (f : α → β) : ∀ (xs : List α) (k : Nat), (xs.map f).eraseIdx k = (xs.eraseIdx k).map f
  | [], _ => rfl
  | _ :: _, 0 => rfl
  | x :: xs, k + 1 => by
    show f x :: (xs.map f).eraseIdx k = f x :: (xs.eraseIdx k).map f
    rw [eraseIdx_map' f xs k]
theorem eraseIdx_perm {α : Type} : ∀ (xs : List α) (k : Nat) (h : k < xs.length), xs.Perm (xs[k] :: xs.eraseIdx k)
  | [], k, h => absurd h (Nat.not_lt_zero _)
  | x :: xs, 0, h => .refl _
  | x :: xs, k + 1, h => by
    show (x :: xs).Perm (xs[k]'(Nat.lt_of_succ_lt_succ h) :: x :: xs.eraseIdx k)
    exact ((eraseIdx_perm xs k (Nat.lt_of_succ_lt_succ h)).cons x).trans (.swap _ _ _)
theorem w_pop {Q : W → MH → Prop} {h : MH} {r i : Nat} {k : Int} {ds : List D} {d : D} (e : h[r]? = some (.lst ds)) (ek : k = (i : Int)) (hd : ds[i]? = some d) (hk : i < 1000000) (q : Q (.d d) (h.set r (.lst (ds.eraseIdx i)))) : wp (oPop (.ref r) [.d (.int k)] h) Q := by
  refine w_of (x := .d d) (h := h.set r (.lst (ds.eraseIdx i))) ?_ q
  have hl := (List.getElem?_eq_some_iff.mp hd).1
  unfold oPop
  simp only [e]
  subst ek
  rw [if_pos (by omega)]
  have : seqIndex? (i : Int) ds.length = some i := (L2.ixN_seq (ixN_nat rfl hl)).1
  rw [this]
  simp only [hd]
theorem w_laying {Q : W → MH → Prop} {ns : List Int} {zs : List D} {hs : MH} {sp : Int} {hd : List Int} {p : Prog} (hp : p.length ≤ 60) (hsp : (p.length : Int) ≤ sp) (h24 : sp ≤ 24) (hz : zs.length < 800000)
    (q : ∀ l zs', LayOk sp p l → zs'.length ≤ zs.length + p.length → Q (.d (layD l)) (.lst zs' :: hs)) :
    wp (m__law_laying [.d (.list (iD ns)), .ref 0, .d (drumD sp hd), .d (progD p)] (.lst zs :: hs)) Q := by
  refine wp_fn ?_
  unfold b__law_laying drumD
  walk_at "dw"
  refine ⟨by omega, ?_⟩
  walk_at "dw"
  have base : ((List.range sp.toNat).map fun (i : Nat) => PyData.int (i : Int)) = iD ((List.range sp.toNat).map fun (i : Nat) => (i : Int)) := by unfold iD; rw [List.map_map]; rfl
  rw [base]
  unfold progD
  walk_at "dw"
  refine loop_inv (fun i ρ h => ∃ (zs' : List D) (left : List Int) (l : Lay) (v6 v7 v8 : Option W), ρ = [some (.d (.list (iD ns))), some (.ref 0), some (.d (drumD sp hd)), some (.d (progD p)), some (.ref (MO.lst zs :: hs).length), some (.d (layD l)), v6, v7, v8] ∧
    h = .lst zs' :: (hs ++ [.lst (iD left)]) ∧ zs'.length = zs.length + i ∧ l.map (·.1) = (namesP p).take i ∧ (left ++ l.map (·.2)).Perm ((List.range sp.toNat).map fun (i : Nat) => (i : Int)) ∧ left.length + i = sp.toNat) ?_ (fun _ _ _ _ _ => trivial) ?_ ?_
  · exact ⟨zs, _, [], none, none, none, rfl, rfl, rfl, rfl, by simp, by simp⟩
  · rintro i w ρ h ew ⟨zs', left, l, v6, v7, v8, rfl, rfl, hz', hn, hpm, hll⟩
    have ew : (List.map W.d (p.map cellD))[i]? = some w := ew
    rw [List.getElem?_map, List.getElem?_map] at ew
    obtain ⟨d, h1, rfl⟩ := Option.map_eq_some_iff.mp ew
    obtain ⟨c, h2, rfl⟩ := Option.map_eq_some_iff.mp h1
    have hi := (List.getElem?_eq_some_iff.mp h2).1
    have hpos : 0 < left.length := by omega
    refine ⟨_, rfl, ?_⟩
    unfold lb__law_laying_1
    walk_at "dw"
    refine ⟨isLst_at (by rw [show (MO.lst zs :: hs).length = (MO.lst zs' :: hs).length by simp]; exact lst_at1), ?_⟩
    walk_at "dw"
    refine ⟨_, rds_at (by rw [show (MO.lst zs :: hs).length = (MO.lst zs' :: hs).length by simp]; exact lst_at1), ?_⟩
    walk_at "dw"
    refine w_draw (by simp; omega) (by omega) fun r r0 r1 => ?_
    walk_at "dw"
    simp only [List.length_map] at r1
    obtain ⟨k, hk⟩ : ∃ k : Nat, r = (k : Int) := ⟨r.toNat, by omega⟩
    have hkl : k < left.length := by omega
    refine w_pop (i := k) (by rw [show (MO.lst zs :: hs).length = (MO.lst (zs' ++ [PyData.int 0]) :: hs).length by simp]; exact lst_at1) hk (d := .int left[k]) (by rw [List.getElem?_map, List.getElem?_eq_getElem hkl]; rfl) (by omega) ?_
    rw [show (MO.lst zs :: hs).length = (MO.lst (zs' ++ [PyData.int 0]) :: hs).length by simp, lst_set1]
    walk_at "dw"
    unfold layD
    refine w_addt (by
      have := congrArg List.length hn
      rw [List.length_map, List.length_take] at this
      rw [List.length_map]
      exact big_len _ (by simp; omega)) ?_
    walk_at "dw"
    refine ⟨zs' ++ [.int 0], left.eraseIdx k, l ++ [(c.1, left[k])], _, _, _, by rw [List.map_append]; rfl, by unfold iD; rw [eraseIdx_map'], by simp; omega, ?_, ?_, ?_⟩
    · rw [List.map_append, hn]
      have : (namesP p)[i]? = some c.1 := by unfold namesP; rw [List.getElem?_map, h2]; rfl
      rw [List.take_add_one, this]
      rfl
    · rw [List.map_append]
      refine List.Perm.trans ?_ hpm
      have h1 : left.Perm (left[k] :: left.eraseIdx k) := (eraseIdx_perm left k hkl)
      have h2 : (left ++ l.map (·.2)).Perm (left[k] :: left.eraseIdx k ++ l.map (·.2)) := h1.append_right _
      refine List.Perm.trans ?_ h2.symm
      show (left.eraseIdx k ++ (l.map (·.2) ++ [left[k]])).Perm _
      rw [← List.append_assoc]
      exact (List.perm_append_singleton _ _)
    · rw [List.length_eraseIdx, if_pos hkl]
      omega
  · rintro ρ h ⟨zs', left, l, v6, v7, v8, rfl, rfl, hz', hn, hpm, hll⟩
    have el : (Itm.mk (List.map W.d (p.map cellD)) anyH).ws.length = p.length := by simp
    rw [el] at hz' hn hll
    walk_at "dw"
    rw [retW_town, wp_ok]
    rw [List.take_of_length_le (by unfold namesP; simp)] at hn
    refine q l zs' ⟨hn, fun x hx => ?_, ?_⟩ (by omega)
    · have : x.2 ∈ left ++ l.map (·.2) := List.mem_append_right _ (List.mem_map_of_mem (f := fun x : Str × Int => x.2) hx)
      have := hpm.mem_iff.mp this
      obtain ⟨j, hj, e⟩ := List.mem_map.mp this
      have := List.mem_range.mp hj
      omega
    · have nd : (left ++ l.map (·.2)).Nodup := hpm.nodup_iff.mpr (List.pairwise_map.mpr (List.nodup_range.imp fun {a b} h e => h (by omega)))
      exact (List.nodup_append.mp nd).2.1
end Dw
/-! _law_same of a thing and itself -/
namespace Dw
open PySem PySem.Spec PyProof.Rows L2
local macro_rules | `(tactic| walk_at "dw") => `(tactic| (repeat (first
  | ((with_reducible refine' w_var ?e ?_); (case e => rfl))
  | with_reducible refine w_c ?_
  | with_reducible refine s_seq ?_
  | with_reducible refine s_set ?_
  | with_reducible refine w_op2 ?_
  | with_reducible refine w_add ?_
  | with_reducible refine w_sub ?_
  | with_reducible refine w_eq ?_
  | with_reducible refine w_ne ?_
  | with_reducible refine w_lt ?_
  | with_reducible refine w_gt ?_
  | with_reducible refine w_le ?_
  | with_reducible refine w_ge ?_
  | with_reducible refine w_eqb ?_
  | with_reducible refine w_neb ?_
  | with_reducible refine w_cons ?_
  | with_reducible refine w_eqs ?_
  | with_reducible refine w_nes ?_
  | with_reducible refine w_isIn ?_
  | with_reducible refine w_isN ?_
  | with_reducible refine w_isNotN ?_
  | with_reducible refine w_nil ?_
  | with_reducible refine w_call ?_
  | with_reducible refine w_calW ?_
  | with_reducible refine w_cal ?_
  | with_reducible refine w_ix ?_
  | with_reducible refine w_sl ?_
  | with_reducible refine w_pn ?_
  | with_reducible refine w_rev ?_
  | with_reducible refine w_ps ?_
  | with_reducible refine w_chain ?_
  | with_reducible refine w_tup ?_
  | with_reducible refine w_lst ?_
  | with_reducible refine w_lstR ?_
  | with_reducible refine w_dict ?_
  | with_reducible refine w_isa ?_
  | with_reducible refine w_itR1 ?_
  | with_reducible refine w_itS ?_
  | ((with_reducible refine' w_ixt0 ?e ?_); (case e => rfl))
  | ((with_reducible refine' w_ixl0 ?e ?_); (case e => rfl))
  | ((with_reducible refine' w_ixt ?e ?_); (case e => rfl))
  | ((with_reducible refine' w_ixl ?e ?_); (case e => rfl))
  | with_reducible refine w_itR2 ?_
  | with_reducible refine w_itZ ?_
  | with_reducible refine w_itE ?_
  | with_reducible refine w_lc ?_
  | with_reducible refine w_lcR ?_
  | with_reducible refine w_lstRg1R ?_
  | with_reducible refine s_par ?_
  | with_reducible refine s_par3 ?_
  | with_reducible refine s_asg ?_
  | with_reducible refine s_put ?_
  | with_reducible refine s_for ?_
  | with_reducible refine s_if ?_
  | with_reducible refine w_test ?_
  | with_reducible refine w_andT ?_
  | with_reducible refine w_orT ?_
  | with_reducible refine w_notT ?_
  | with_reducible refine w_ifE ?_
  | with_reducible refine w_andV ?_
  | with_reducible refine w_orV ?_
  | with_reducible refine w_notV ?_
  | with_reducible refine w_neg ?_
  | with_reducible refine s_ret ?_
  | with_reducible refine s_retN ?_
  | with_reducible refine s_skip ?_
  | with_reducible refine s_brk ?_
  | with_reducible refine s_cnt ?_
  | with_reducible refine s_expr ?_
  | with_reducible refine w_met ?_
  | with_reducible refine wp_ok.mpr ?_
  | with_reducible refine wps_rt.mpr ?_
  | with_reducible refine wps_nx.mpr ?_
  | with_reducible refine ite_t ?_
  | with_reducible refine ite_f ?_
  | ((with_reducible refine' w_mod ?e ?_); (case e => first | assumption | omega))
  | ((with_reducible refine' w_div ?e ?_); (case e => omega))
  | ((with_reducible refine' w_mul ?e ?_); (case e => omega))
  | ((with_reducible refine' Exists.intro _ (And.intro ?e ?_)); (case e => rfl))
  | ((with_reducible refine' Exists.intro _ (Exists.intro _ (And.intro ?e ?_))); (case e => rfl))
  | ((with_reducible refine' Exists.intro _ (Exists.intro _ (Exists.intro _ (And.intro ?e ?_)))); (case e => rfl))
  | ((with_reducible refine' ite_yes ?e ?_); (case e => rfl))
  | ((with_reducible refine' ite_no ?e ?_); (case e => rfl))
  | ((with_reducible refine And.intro ?e ?_); (case e => first | rfl | exact small_len _ (Nat.le_of_ble_eq_true rfl))))))
def plainN : Nat → D → Prop
  | 0, _ => False
  | _ + 1, .list _ => False
  | _ + 1, .dict _ => False
  | n + 1, .tuple ds => ds.length ≤ 16000000 ∧ ∀ x ∈ ds, plainN n x
  | _ + 1, _ => True
section
variable {g : GF} {elt : M} {keep : MH → Prop} {ρw : ME} {h : MH}
theorem w_mapZD {Q : List D → MH → Prop} {ns ks : List D} (e : D × D → D) (hk : keep h) (hl : ns.length ≤ 16000000)
    (H : ∀ x ∈ ns.zip ks, ∃ ρ', g (.tup [.d x.1, .d x.2]) ρw = some ρ' ∧ wp (elt ρ' h) fun w h'' => w = .d (e x) ∧ h'' = h) (q : Q ((ns.zip ks).map e) h) : wp (lcRun g mYes elt keep ρw (zipW ns ks) [] h) Q :=
  w_map (fun x : D × D => W.tup [.d x.1, .d x.2]) e hk (by rw [List.length_zip]; omega) H q
end
theorem zip_self {α : Type} : ∀ {ys : List α} {a b : α}, (a, b) ∈ ys.zip ys → a = b ∧ a ∈ ys
  | y :: ys, a, b, h => by
    rw [List.zip_cons_cons] at h
    rcases List.mem_cons.mp h with e | h
    · cases e
      exact ⟨rfl, by simp⟩
    · obtain ⟨h1, h2⟩ := zip_self h
      exact ⟨h1, by simp [h2]⟩
theorem same_self : ∀ (n : Nat) (x : D) (h : MH), plainN n x → m__law_same n [.d x, .d x] h = .ok (.d (.bool true)) h
  | 0, x, h, p => p.elim
  | n + 1, x, h, p => by
    cases x with
    | bool b => exact same_b n b h
    | int i => exact same_i n i h
    | none =>
      refine wp_congr_of (wp_fn ?_)
      unfold b__law_same
      walk_at "dw"
      rw [retW_same, wp_ok]
      exact ⟨rfl, rfl⟩
    | str s =>
      refine wp_congr_of (wp_fn ?_)
      unfold b__law_same
      walk_at "dw"
      rw [retW_same, wp_ok]
      refine ⟨?_, rfl⟩
      simp
    | list _ => exact p.elim
    | dict _ => exact p.elim
    | tuple ds =>
      obtain ⟨hl, hx⟩ := p
      refine wp_congr_of (wp_fn ?_)
      unfold b__law_same
      walk_at "dw"
      refine ite_no (bne_self_eq_false _) ?_
      walk_at "dw"
      unfold lc__law_same_1
      walk_at "dw"
      refine w_mapZD (fun _ => .bool true) trivial hl (fun p hp => ⟨_, rfl, ?_⟩) ?_
      · obtain ⟨a, b⟩ := p
        obtain ⟨e, hm⟩ := zip_self hp
        subst e
        unfold ce__law_same_1
        walk_at "dw"
        refine w_of (same_self n a _ (hx a hm)) ?_
        exact ⟨rfl, rfl⟩
      walk_at "dw"
      refine ⟨_, fAll_b (fun _ => true) _, ?_⟩
      rw [retW_same, wp_ok]
      refine ⟨?_, rfl⟩
      simp
theorem plain_strs {n : Nat} {ss : List Str} (h : ss.length ≤ 16000000) : plainN (n + 2) (.tuple (sDs ss)) := ⟨by simpa using h, fun x hx => by
  obtain ⟨s, _, rfl⟩ := List.mem_map.mp hx
  trivial⟩
theorem plain_lay {n : Nat} {l : Lay} (h : l.length ≤ 16000000) : plainN (n + 3) (layD l) := ⟨by simpa using h, fun x hx => by
  obtain ⟨s, _, rfl⟩ := List.mem_map.mp hx
  exact ⟨by simp, fun y hy => by simp at hy; rcases hy with rfl | rfl <;> trivial⟩⟩
theorem plain_step {n : Nat} {s : Step} : plainN (n + 2) (stepD s) := ⟨by simp, fun y hy => by
  simp at hy
  rcases hy with rfl | rfl | rfl
  · trivial
  · trivial
  · cases s.2.2 <;> trivial⟩
theorem wordsOf_len (p : Prog) : (wordsOf p).length ≤ p.length := List.length_filterMap_le _ _
theorem plain_run {n : Nat} {r : List Step × Ms} (h : r.1.length ≤ 1000) (h2 : r.2.cells.length ≤ 1000) : plainN (n + 4) (runD r) := ⟨by simp, fun y hy => by
  simp at hy
  rcases hy with rfl | rfl | rfl | rfl | rfl
  · exact ⟨by simp; omega, fun x hx => by
      obtain ⟨s, _, rfl⟩ := List.mem_map.mp hx
      exact plain_step⟩
  · trivial
  · trivial
  · trivial
  · exact plain_lay (Nat.le_trans (wordsOf_len _) (by omega))⟩
theorem w_same {Q : W → MH → Prop} {n : Nat} {x y : D} {h : MH} (e : x = y) (p : plainN n y) (q : Q (.d (.bool true)) h) : wp (m__law_same n [.d x, .d y] h) Q := by
  subst e
  exact w_of (same_self n x h p) q
end Dw
/-! _law_read -/
namespace Dw
open PySem PySem.Spec PyProof.Rows L2
local macro_rules | `(tactic| walk_at "dw") => `(tactic| (repeat (first
  | ((with_reducible refine' w_var ?e ?_); (case e => rfl))
  | with_reducible refine w_c ?_
  | with_reducible refine s_seq ?_
  | with_reducible refine s_set ?_
  | with_reducible refine w_op2 ?_
  | with_reducible refine w_add ?_
  | with_reducible refine w_sub ?_
  | with_reducible refine w_eq ?_
  | with_reducible refine w_ne ?_
  | with_reducible refine w_lt ?_
  | with_reducible refine w_gt ?_
  | with_reducible refine w_le ?_
  | with_reducible refine w_ge ?_
  | with_reducible refine w_eqb ?_
  | with_reducible refine w_neb ?_
  | with_reducible refine w_cons ?_
  | with_reducible refine w_eqs ?_
  | with_reducible refine w_nes ?_
  | with_reducible refine w_isIn ?_
  | with_reducible refine w_isN ?_
  | with_reducible refine w_isNotN ?_
  | with_reducible refine w_nil ?_
  | with_reducible refine w_call ?_
  | with_reducible refine w_calW ?_
  | with_reducible refine w_cal ?_
  | with_reducible refine w_ix ?_
  | with_reducible refine w_sl ?_
  | with_reducible refine w_pn ?_
  | with_reducible refine w_rev ?_
  | with_reducible refine w_ps ?_
  | with_reducible refine w_chain ?_
  | with_reducible refine w_tup ?_
  | with_reducible refine w_lst ?_
  | with_reducible refine w_lstR ?_
  | with_reducible refine w_dict ?_
  | with_reducible refine w_isa ?_
  | with_reducible refine w_itR1 ?_
  | with_reducible refine w_itS ?_
  | ((with_reducible refine' w_ixt0 ?e ?_); (case e => rfl))
  | ((with_reducible refine' w_ixl0 ?e ?_); (case e => rfl))
  | ((with_reducible refine' w_ixt ?e ?_); (case e => rfl))
  | ((with_reducible refine' w_ixl ?e ?_); (case e => rfl))
  | with_reducible refine w_itR2 ?_
  | with_reducible refine w_itZ ?_
  | with_reducible refine w_itE ?_
  | with_reducible refine w_lc ?_
  | with_reducible refine w_lcR ?_
  | with_reducible refine w_lstRg1R ?_
  | with_reducible refine s_par ?_
  | with_reducible refine s_par3 ?_
  | with_reducible refine s_asg ?_
  | with_reducible refine s_put ?_
  | with_reducible refine s_for ?_
  | with_reducible refine s_if ?_
  | with_reducible refine w_test ?_
  | with_reducible refine w_andT ?_
  | with_reducible refine w_orT ?_
  | with_reducible refine w_notT ?_
  | with_reducible refine w_ifE ?_
  | with_reducible refine w_andV ?_
  | with_reducible refine w_orV ?_
  | with_reducible refine w_notV ?_
  | with_reducible refine w_neg ?_
  | with_reducible refine s_ret ?_
  | with_reducible refine s_retN ?_
  | with_reducible refine s_skip ?_
  | with_reducible refine s_brk ?_
  | with_reducible refine s_cnt ?_
  | with_reducible refine s_expr ?_
  | with_reducible refine w_met ?_
  | with_reducible refine wp_ok.mpr ?_
  | with_reducible refine wps_rt.mpr ?_
  | with_reducible refine wps_nx.mpr ?_
  | with_reducible refine ite_t ?_
  | with_reducible refine ite_f ?_
  | ((with_reducible refine' w_mod ?e ?_); (case e => first | assumption | omega))
  | ((with_reducible refine' w_div ?e ?_); (case e => omega))
  | ((with_reducible refine' w_mul ?e ?_); (case e => omega))
  | ((with_reducible refine' Exists.intro _ (And.intro ?e ?_)); (case e => rfl))
  | ((with_reducible refine' Exists.intro _ (Exists.intro _ (And.intro ?e ?_))); (case e => rfl))
  | ((with_reducible refine' Exists.intro _ (Exists.intro _ (Exists.intro _ (And.intro ?e ?_)))); (case e => rfl))
  | ((with_reducible refine' ite_yes ?e ?_); (case e => rfl))
  | ((with_reducible refine' ite_no ?e ?_); (case e => rfl))
  | ((with_reducible refine And.intro ?e ?_); (case e => first | rfl | exact small_len _ (Nat.le_of_ble_eq_true rfl))))))
theorem lread_ok {sp : Int} {hd : List Int} (d : Drum sp hd) {s t : Int} (s0 : 0 ≤ s) (s1 : s < sp) {h : MH} : m__law_read [.d (drumD sp hd), .d (.int s), .d (.int t)] h = .ok (.d (.int (readT sp hd s t))) h := by
  have hp := d.pos
  have F := read_first hp d.ne s t
  refine wp_congr_of (wp_fn ?_)
  unfold b__law_read
  walk_at "dw"
  refine while_inv (n := (readT sp hd s t - t).toNat) (fun k ρ h' => ∃ t' v, k = (readT sp hd s t - t').toNat ∧ ρ = [some (.d (drumD sp hd)), some (.d (.int s)), some (.d (.int t')), v] ∧ h' = h ∧ t ≤ t' ∧ t' ≤ readT sp hd s t) ⟨t, none, rfl, rfl, rfl, Int.le_refl _, F.le⟩ ?_
  rintro k ρ h' ⟨t', v, rfl, rfl, rfl, h1, h2⟩
  unfold wt__law_read_2
  walk_at "dw"
  have e1 : lc__law_read_1 [some (.d (drumD sp hd)), some (.d (.int s)), some (.d (.int t')), v] h' = .ok (.d (.list (iD (spotsAt sp hd t')))) h' := by
    refine wp_congr_of ?_
    unfold lc__law_read_1 drumD
    walk_at "dw"
    refine w_mapI (fun x => .int ((t' + x) % sp)) trivial (by have := d.few; omega) (fun x _ => ⟨_, rfl, ?_⟩) ?_
    · unfold ce__law_read_1
      walk_at "dw"
      rfl
    · rw [iDm]
      exact ⟨rfl, rfl⟩
  refine w_of e1 ?_
  refine w_ninLi ?_
  walk_at "dw"
  refine ite_b (fun hc => ?_) (fun hc => ?_)
  · have hn : under sp hd s t' = false := by
      rw [Bool.eq_false_iff]
      intro z
      have := (mem_spots s0 s1).mpr z
      simp [this] at hc
    unfold wb__law_read_2
    walk_at "dw"
    have hne : t' ≠ readT sp hd s t := by
      intro z
      rw [z, F.yes] at hn
      cases hn
    refine ⟨(readT sp hd s t - (t' + 1)).toNat, by omega, t' + 1, v, rfl, rfl, rfl, by omega, by omega⟩
  · have hy : under sp hd s t' = true := (mem_spots s0 s1).mp (by simpa using hc)
    have : t' = readT sp hd s t := by
      refine Decidable.byContradiction fun z => ?_
      rw [F.no t' h1 (by omega)] at hy
      cases hy
    subst this
    walk_at "dw"
    rw [retW_same, wp_ok]
    exact ⟨rfl, rfl⟩
end Dw
/-! try; parts of lists; programs by decision -/
namespace Dw
open PySem PySem.Spec PyProof.Rows L2
local macro_rules | `(tactic| walk_at "dw") => `(tactic| (repeat (first
  | ((with_reducible refine' w_var ?e ?_); (case e => rfl))
  | with_reducible refine w_c ?_
  | with_reducible refine s_seq ?_
  | with_reducible refine s_set ?_
  | with_reducible refine w_op2 ?_
  | with_reducible refine w_add ?_
  | with_reducible refine w_sub ?_
  | with_reducible refine w_eq ?_
  | with_reducible refine w_ne ?_
  | with_reducible refine w_lt ?_
  | with_reducible refine w_gt ?_
  | with_reducible refine w_le ?_
  | with_reducible refine w_ge ?_
  | with_reducible refine w_eqb ?_
  | with_reducible refine w_neb ?_
  | with_reducible refine w_cons ?_
  | with_reducible refine w_eqs ?_
  | with_reducible refine w_nes ?_
  | with_reducible refine w_isIn ?_
  | with_reducible refine w_isN ?_
  | with_reducible refine w_isNotN ?_
  | with_reducible refine w_nil ?_
  | with_reducible refine w_call ?_
  | with_reducible refine w_calW ?_
  | with_reducible refine w_cal ?_
  | with_reducible refine w_ix ?_
  | with_reducible refine w_sl ?_
  | with_reducible refine w_pn ?_
  | with_reducible refine w_rev ?_
  | with_reducible refine w_ps ?_
  | with_reducible refine w_chain ?_
  | with_reducible refine w_tup ?_
  | with_reducible refine w_lst ?_
  | with_reducible refine w_lstR ?_
  | with_reducible refine w_dict ?_
  | with_reducible refine w_isa ?_
  | with_reducible refine w_itR1 ?_
  | with_reducible refine w_itS ?_
  | ((with_reducible refine' w_ixt0 ?e ?_); (case e => rfl))
  | ((with_reducible refine' w_ixl0 ?e ?_); (case e => rfl))
  | ((with_reducible refine' w_ixt ?e ?_); (case e => rfl))
  | ((with_reducible refine' w_ixl ?e ?_); (case e => rfl))
  | with_reducible refine w_itR2 ?_
  | with_reducible refine w_itZ ?_
  | with_reducible refine w_itE ?_
  | with_reducible refine w_lc ?_
  | with_reducible refine w_lcR ?_
  | with_reducible refine w_lstRg1R ?_
  | with_reducible refine s_par ?_
  | with_reducible refine s_par3 ?_
  | with_reducible refine s_asg ?_
  | with_reducible refine s_put ?_
  | with_reducible refine s_for ?_
  | with_reducible refine s_if ?_
  | with_reducible refine w_test ?_
  | with_reducible refine w_andT ?_
  | with_reducible refine w_orT ?_
  | with_reducible refine w_notT ?_
  | with_reducible refine w_ifE ?_
  | with_reducible refine w_andV ?_
  | with_reducible refine w_orV ?_
  | with_reducible refine w_notV ?_
  | with_reducible refine w_neg ?_
  | with_reducible refine s_ret ?_
  | with_reducible refine s_retN ?_
  | with_reducible refine s_skip ?_
  | with_reducible refine s_brk ?_
  | with_reducible refine s_cnt ?_
  | with_reducible refine s_expr ?_
  | with_reducible refine w_met ?_
  | with_reducible refine wp_ok.mpr ?_
  | with_reducible refine wps_rt.mpr ?_
  | with_reducible refine wps_nx.mpr ?_
  | with_reducible refine ite_t ?_
  | with_reducible refine ite_f ?_
  | ((with_reducible refine' w_mod ?e ?_); (case e => first | assumption | omega))
  | ((with_reducible refine' w_div ?e ?_); (case e => omega))
  | ((with_reducible refine' w_mul ?e ?_); (case e => omega))
  | ((with_reducible refine' Exists.intro _ (And.intro ?e ?_)); (case e => rfl))
  | ((with_reducible refine' Exists.intro _ (Exists.intro _ (And.intro ?e ?_))); (case e => rfl))
  | ((with_reducible refine' Exists.intro _ (Exists.intro _ (Exists.intro _ (And.intro ?e ?_)))); (case e => rfl))
  | ((with_reducible refine' ite_yes ?e ?_); (case e => rfl))
  | ((with_reducible refine' ite_no ?e ?_); (case e => rfl))
  | ((with_reducible refine And.intro ?e ?_); (case e => first | rfl | exact small_len _ (Nat.le_of_ble_eq_true rfl))))))
section
variable {N B C : PS} {R : W → MH → Prop} {ρ ρ' : ME} {h h' : MH} {mb : MS} {cs : List Str} {l : List (Str × MS)} {c : Str}
theorem s_try_ok (q : wps (mb ρ h) N R B C) : wps (mTry cs mb l ρ h) N R B C := by
  unfold mTry
  cases e : mb ρ h with
  | exc _ _ _ => rw [e] at q; exact (wps_exc.mp q).elim
  | _ => rw [e] at q; exact q
theorem s_try_exc (e : mb ρ h = .exc c ρ' h') (hc : c ∈ cs) (q : wps (hnd cs l c ρ' h') N R B C) : wps (mTry cs mb l ρ h) N R B C := by
  unfold mTry
  rw [e]
  simp only
  rw [if_pos hc]
  exact q
theorem s_hnd {n : Str} {m : MS} (e : subC c n = true) (q : wps (m ρ h) N R B C) : wps (hnd cs ((n, m) :: l) c ρ h) N R B C := by
  unfold hnd
  rw [if_pos e]
  unfold noExcS
  cases q' : m ρ h with
  | exc _ _ _ => rw [q'] at q; exact (wps_exc.mp q).elim
  | _ => rw [q'] at q; exact q
theorem s_hnd_no {n : Str} {m : MS} (e : subC c n = false) (q : wps (hnd cs l c ρ h) N R B C) : wps (hnd cs ((n, m) :: l) c ρ h) N R B C := by
  rw [show hnd cs ((n, m) :: l) c ρ h = hnd cs l c ρ h from (if_neg (by rw [e]; decide) : (if subC c n = true then noExcS (m ρ h) else hnd cs l c ρ h) = _)]
  exact q
end
theorem s_cut {N B C : PS} {R : W → MH → Prop} {ρ : ME} {h : MH} {a b : MS} (P : PS) (p : wps (a ρ h) P R B C) (q : ∀ ρ1 h1, P ρ1 h1 → wps (b ρ1 h1) N R B C) : wps (mSeq a b ρ h) N R B C :=
  wps_seq.mpr (wps_mono p q (fun _ _ z => z) (fun _ _ z => z) (fun _ _ z => z))
theorem sIx_pos {n d : Nat} {k : Int} (h : 0 ≤ k) : HT.sIx n d (some k) = min k.toNat n := by
  unfold HT.sIx
  simp only
  split <;> omega
theorem cut_take {xs : List D} {k : Int} (h : 0 ≤ k) : cutD xs none (some k) = xs.take k.toNat := by
  unfold cutD
  rw [sIx_pos h]
  show (xs.drop 0).take (min k.toNat xs.length - 0) = _
  rw [List.drop_zero, Nat.sub_zero, Nat.min_comm, ← List.take_take, List.take_of_length_le (by rw [List.length_take]; omega)]
theorem cut_drop {xs : List D} {k : Int} (h : 0 ≤ k) : cutD xs (some k) none = xs.drop k.toNat := by
  unfold cutD
  rw [sIx_pos h]
  show (xs.drop (min k.toNat xs.length)).take (xs.length - min k.toNat xs.length) = _
  rw [List.take_of_length_le (by rw [List.length_drop]; omega)]
  by_cases hk : k.toNat ≤ xs.length
  · rw [Nat.min_eq_left hk]
  · rw [Nat.min_eq_right (by omega), List.drop_length, List.drop_eq_nil_of_le (by omega)]
theorem w_slT {Q : W → MH → Prop} {h : MH} {xs : List D} {lo hi : Option Int} (q : Q (.d (.tuple (cutD xs lo hi))) h) : ∃ d, rd (.d (.tuple xs)) h = some d ∧ ∃ c, fSl d lo hi = some c ∧ Q (.d c) h := ⟨_, rfl, _, rfl, q⟩
/-! #### programs by decision -/
def sltB (a b : Str) : Bool := decide (a.cps.toList ≤ b.cps.toList) && !decide (a = b)
def upS : List Str → Bool
  | a :: b :: r => sltB a b && upS (b :: r)
  | _ => true
def isOrdB (p : Prog) (a : Str) : Bool := match p.lookup a with
  | some (.ord _) => true
  | _ => false
def isNumB (p : Prog) (a : Str) : Bool := match p.lookup a with
  | some (.num _) => true
  | _ => false
def odB (p : Prog) : Od → Bool
  | .stop => true
  | .less a b => isOrdB p a && isOrdB p b
  | .wd _ w b => isNumB p w && isOrdB p b
def ctB (p : Prog) : Ct → Bool
  | .num _ => true
  | .ord o => odB p o
def prOkB (p : Prog) : Bool := upS (namesP p) && decide (p.length < 60) && p.all fun c => ctB p c.2
theorem slt_trans {a b c : Str} (h1 : slt a b) (h2 : slt b c) : slt a c := by
  refine ⟨List.le_trans h1.1 h2.1, fun e => ?_⟩
  subst e
  exact h1.2 (str_ext (List.le_antisymm h1.1 h2.1))
theorem upS_pw : ∀ {ns : List Str}, upS ns = true → ns.Pairwise slt
  | [], _ => .nil
  | [a], _ => by simp
  | a :: b :: r, h => by
    unfold upS at h
    rw [Bool.and_eq_true] at h
    have ih := upS_pw h.2
    have ab : slt a b := by
      have := h.1
      unfold sltB at this
      simp only [Bool.and_eq_true, decide_eq_true_eq, Bool.not_eq_true', decide_eq_false_iff_not] at this
      exact this
    refine List.pairwise_cons.mpr ⟨fun x hx => ?_, ih⟩
    rcases List.mem_cons.mp hx with rfl | hx
    · exact ab
    · exact slt_trans ab ((List.pairwise_cons.mp ih).1 x hx)
theorem isOrdB_is {p : Prog} {a : Str} (h : isOrdB p a = true) : IsOrd p a := by
  unfold isOrdB at h
  split at h
  · exact ⟨_, by assumption⟩
  · cases h
theorem isNumB_is {p : Prog} {a : Str} (h : isNumB p a = true) : IsNum p a := by
  unfold isNumB at h
  split at h
  · exact ⟨_, by assumption⟩
  · cases h
theorem prOkB_is {p : Prog} (h : prOkB p = true) : PrOk p := by
  unfold prOkB at h
  simp only [Bool.and_eq_true, decide_eq_true_eq, List.all_eq_true] at h
  refine ⟨upS_pw h.1.1, h.1.2, fun n o e => ?_⟩
  have := h.2 _ (lookup_mem e)
  unfold ctB at this
  simp only at this
  unfold odB at this
  cases o with
  | stop => trivial
  | less a b =>
    simp only [Bool.and_eq_true] at this
    exact ⟨isOrdB_is this.1, isOrdB_is this.2⟩
  | wd k w b =>
    simp only [Bool.and_eq_true] at this
    exact ⟨isNumB_is this.1, isOrdB_is this.2⟩
theorem letN_not' : ∀ i : Fin 26, letN i ≠ ("?" : Str) ∧ letN i ≠ ("" : Str) ∧ letN i ≠ ("A" : Str) ∧ letN i ≠ ("!" : Str) ∧ letN i ≠ ("ab" : Str) := by decide +kernel
theorem DrawnP.letter {p : Prog} {lo hi : Nat} (d : DrawnP p lo hi) (hhi : hi ≤ 13) {n : Str} (hn : n ∈ namesP p) : ∃ i, i < 26 ∧ n = letN i := by
  obtain ⟨k, k2, k1, e⟩ := d.nm
  rw [e] at hn
  obtain ⟨i, hi', rfl⟩ := List.mem_map.mp hn
  have h1 := List.mem_range.mp hi'
  have h2 := d.hi
  have h3 : i * k ≤ i * 2 := Nat.mul_le_mul_left _ k2
  exact ⟨i * k, by omega, rfl⟩
theorem orders_names {p : Prog} {a : Str} (h : a ∈ ordersP p) : a ∈ namesP p := by
  unfold ordersP at h
  obtain ⟨c, hc, rfl⟩ := List.mem_map.mp h
  exact List.mem_map_of_mem (f := fun x : Str × Ct => x.1) (List.mem_filter.mp hc).1
theorem not_order {p : Prog} (hp : PrOk p) {n : Str} {i : Int} (h : (n, Ct.num i) ∈ p) : n ∉ ordersP p := fun z => by
  obtain ⟨o, e⟩ := hp.ord.mp z
  rw [mem_lookup hp.nd h] at e
  cases e
end Dw
namespace Dw
open PySem PySem.Spec PyProof.Rows L2
def excL : List Str := ["NoName", "BadLaying"]
noncomputable def b__law_held : MS :=
  (mRet (mCal fMax (mCons (mNeg (mC (.int 9999))) (mCons (mCal fMin (mCons (mC (.int 9999)) (mCons (mVar 0) mNil))) mNil))))
noncomputable def m__law_held : FSpec := mFn 1 b__law_held
noncomputable def lb_law_1 : MS :=
  (mIfS (mTest (mOp2 fNe (mIx (mCall m_run (mCons (mTup (mCons (mC (.int 4)) (mCons (mTup (mCons (mC (.int 0)) mNil)) mNil))) (mCons (mVar 17) (mCons (mTup (mCons (mTup (mCons (mC (.str "a")) (mCons (mC (.int 0)) mNil))) (mCons (mTup (mCons (mC (.str "y")) (mCons (mC (.int 1)) mNil))) mNil))) (mCons (mC (.str "a")) (mCons (mC (.int 0)) (mCons (mVar 10) mNil))))))) (mC (.int 3))) (mCal fMax (mCons (mNeg (mC (.int 9999))) (mCons (mOp2 fMul (mNeg (mC (.int 99))) (mVar 10)) mNil))))) (mRet (mC (.bool false))) mSkip)
noncomputable def lb_law_2 : MS :=
  (mIfS (mTest (mOp2 fNe (mIx (mCall m_run (mCons (mTup (mCons (mC (.int 4)) (mCons (mTup (mCons (mC (.int 0)) mNil)) mNil))) (mCons (mVar 16) (mCons (mTup (mCons (mTup (mCons (mC (.str "a")) (mCons (mC (.int 0)) mNil))) (mCons (mTup (mCons (mC (.str "y")) (mCons (mC (.int 1)) mNil))) mNil))) (mCons (mC (.str "a")) (mCons (mC (.int 0)) (mCons (mVar 10) mNil))))))) (mC (.int 3))) (mCal fMin (mCons (mC (.int 9999)) (mCons (mOp2 fMul (mC (.int 99)) (mVar 10)) mNil))))) (mRet (mC (.bool false))) mSkip)
noncomputable def lb_law_3 : MS :=
  (mSeq (mIfS (mTest (mOp2 fEq (mVar 13) (mC (.str "a")))) (mAsg (gNm 11) (mVar 12)) (mIfS (mTest (mIn fIn id (mVar 13) (mC (.str "bc")))) (mAsg (gNm 11) (mCall m__law_held (mCons (mOp2 fAdd (mVar 11) (mIf (mTest (mVar 4)) (mVar 7) (mOp2 fSub (mC (.int 0)) (mVar 7)))) mNil))) (mIfS (mTest (mOp2 fEq (mVar 13) (mC (.str "d")))) (mAsg (gNm 12) (mVar 11)) (mIfS (mTest (mOp2 fEq (mVar 13) (mC (.str "e")))) (mAsg (gNm 11) (mCall m__law_held (mCons (mOp2 fAdd (mVar 11) (mIf (mTest (mVar 4)) (mVar 12) (mOp2 fSub (mC (.int 0)) (mVar 12)))) mNil))) (mAsg (gNm 11) (mCall m__law_held (mCons (mOp2 fSub (mVar 11) (mIf (mTest (mVar 4)) (mVar 7) (mOp2 fSub (mC (.int 0)) (mVar 7)))) mNil)))))))
  (mAsg (gNm 13) (mIx (mDisp (((mC (.str "a")), (mC (.str "b"))) :: (((mC (.str "b")), (mC (.str "c"))) :: (((mC (.str "c")), (mC (.str "d"))) :: (((mC (.str "d")), (mC (.str "e"))) :: (((mC (.str "e")), (mC (.str "f"))) :: (((mC (.str "f")), (mC (.str "b"))) :: []))))))) (mVar 13))))
noncomputable def lb_law_4 : MS :=
  (mSeq (mAsg (gTp 3 (gsCons (gNm 11) (gsCons (gNm 12) (gsCons (gNm 13) gsNil)))) (mTup (mCons (mC (.int 0)) (mCons (mC (.int 0)) (mCons (mC (.str "a")) mNil)))))
  (mSeq (mFor (mItR1 (mCons (mVar 10) mNil)) (gNm 14) lb_law_3)
  (mSeq (mAsg (gNm 15) (mCall m_run (mCons (mVar 2) (mCons (mVar 8) (mCons (mVar 9) (mCons (mC (.str "a")) (mCons (mC (.int 0)) (mCons (mVar 10) mNil))))))))
  (mIfS (mOrT (mTest (mOp2 fNe (mIx (mVar 15) (mC (.int 3))) (mVar 11))) (mTest (mOp2 fNe (mIx (mVar 15) (mC (.int 4))) (mTup (mCons (mTup (mCons (mC (.str "y")) (mCons (mVar 7) mNil))) (mCons (mTup (mCons (mC (.str "z")) (mCons (mVar 12) mNil))) mNil)))))) (mRet (mC (.bool false))) mSkip))))
noncomputable def ce_law_5 : M := (mTup (mCons (mIx (mVar 19) (mC (.int 0))) (mCons (mVar 18) mNil)))
noncomputable def lc_law_5 : M := mLc (mItE (mCons (mVar 8) mNil)) [18, 19] (gTp 2 (gsCons (gNm 18) (gsCons (gNm 19) gsNil))) mYes ce_law_5
noncomputable def lb_law_6 : MS :=
  (mSeq (mAsg (gNm 4) (mOp2 fEq (mCall m__law_draw (mCons (mVar 0) (mCons (mVar 1) (mCons (mC (.int 2)) mNil)))) (mC (.int 0))))
  (mSeq (mAsg (gTp 2 (gsCons (gNm 5) (gsCons (gNm 6) gsNil))) (mIf (mTest (mVar 4)) (mTup (mCons (mC (.str "add")) (mCons (mC (.str "sub")) mNil))) (mTup (mCons (mC (.str "sub")) (mCons (mC (.str "add")) mNil)))))
  (mSeq (mAsg (gNm 7) (mOp2 fSub (mC (.int 99)) (mCall m__law_draw (mCons (mVar 0) (mCons (mVar 1) (mCons (mC (.int 9)) mNil))))))
  (mSeq (mAsg (gNm 8) (mTup (mCons (mTup (mCons (mC (.str "a")) (mCons (mTup (mCons (mC (.str "put")) (mCons (mC (.str "z")) (mCons (mC (.str "b")) mNil)))) mNil))) (mCons (mTup (mCons (mC (.str "b")) (mCons (mTup (mCons (mVar 5) (mCons (mC (.str "y")) (mCons (mC (.str "c")) mNil)))) mNil))) (mCons (mTup (mCons (mC (.str "c")) (mCons (mTup (mCons (mVar 5) (mCons (mC (.str "y")) (mCons (mC (.str "d")) mNil)))) mNil))) mNil)))))
  (mSeq (mAsg (gNm 8) (mOp2 fAdd (mVar 8) (mTup (mCons (mTup (mCons (mC (.str "d")) (mCons (mTup (mCons (mC (.str "save")) (mCons (mC (.str "z")) (mCons (mC (.str "e")) mNil)))) mNil))) (mCons (mTup (mCons (mC (.str "e")) (mCons (mTup (mCons (mVar 5) (mCons (mC (.str "z")) (mCons (mC (.str "f")) mNil)))) mNil))) (mCons (mTup (mCons (mC (.str "f")) (mCons (mTup (mCons (mVar 6) (mCons (mC (.str "y")) (mCons (mC (.str "b")) mNil)))) mNil))) mNil))))))
  (mSeq (mAsg (gNm 8) (mOp2 fAdd (mVar 8) (mTup (mCons (mTup (mCons (mC (.str "y")) (mCons (mVar 7) mNil))) (mCons (mTup (mCons (mC (.str "z")) (mCons (mC (.int 0)) mNil))) mNil)))))
  (mSeq (mAsg (gNm 9) (mCal fTuple (mCons lc_law_5 mNil)))
  (mFor (mItS (mTup (mCons (mC (.int 1)) (mCons (mC (.int 2)) (mCons (mC (.int 3)) (mCons (mC (.int 6)) (mCons (mC (.int 31)) (mCons (mC (.int 60)) (mCons (mC (.int 121)) (mCons (mC (.int 200)) mNil)))))))))) (gNm 10) lb_law_4))))))))
noncomputable def b_law : MS :=
  (mSeq (mAsg (gNm 1) (mLstR mNil))
  (mSeq (mAsg (gNm 2) (mTup (mCons (mC (.int 10)) (mCons (mTup (mCons (mC (.int 0)) (mCons (mC (.int 3)) (mCons (mC (.int 6)) mNil)))) mNil))))
  (mSeq (mFor (mItR1 (mCons (mC (.int 6)) mNil)) (gNm 3) lb_law_6)
  (mSeq (mAsg (gNm 16) (mTup (mCons (mTup (mCons (mC (.str "a")) (mCons (mTup (mCons (mC (.str "add")) (mCons (mC (.str "y")) (mCons (mC (.str "a")) mNil)))) mNil))) (mCons (mTup (mCons (mC (.str "y")) (mCons (mC (.int 99)) mNil))) mNil))))
  (mSeq (mFor (mItS (mTup (mCons (mC (.int 100)) (mCons (mC (.int 101)) (mCons (mC (.int 102)) (mCons (mC (.int 200)) mNil)))))) (gNm 10) lb_law_2)
  (mSeq (mAsg (gNm 17) (mTup (mCons (mTup (mCons (mC (.str "a")) (mCons (mTup (mCons (mC (.str "sub")) (mCons (mC (.str "y")) (mCons (mC (.str "a")) mNil)))) mNil))) (mCons (mTup (mCons (mC (.str "y")) (mCons (mC (.int 99)) mNil))) mNil))))
  (mSeq (mFor (mItS (mTup (mCons (mC (.int 100)) (mCons (mC (.int 101)) (mCons (mC (.int 102)) (mCons (mC (.int 200)) mNil)))))) (gNm 10) lb_law_1)
  (mRet (mC (.bool true))))))))))
noncomputable def m_law : FSpec := mFn 20 b_law
end Dw
/-! runs in plain words -/
namespace Dw
open PySem PySem.Spec PyProof.Rows L2
def whF (f : Str → Int → Int) : Unit → Str → Int → Int × Unit := fun _ n t => (f n t, ())
def oneF (f : Str → Int → Int) (m : Ms) (n : Str) : Od → Step × Ms
  | .stop => ((n, f n m.time, none), { m with time := f n m.time + 1, next := none })
  | .less a b => ((n, f n m.time, none), { m with time := f n m.time + 2, next := some (if 0 ≤ m.held then b else a) })
  | .wd k w b => ((n, f n m.time, some (f w (f n m.time + 1))), { doneM m k w with time := f w (f n m.time + 1) + 1 + k.bt, next := some b })
def goF (f : Str → Int → Int) : Nat → Ms → List Step × Ms
  | 0, m => ([], m)
  | k + 1, m => match m.next with
    | none => ([], m)
    | some n => match m.cells.lookup n with
      | some (.ord o) => ((oneF f m n o).1 :: (goF f k (oneF f m n o).2).1, (goF f k (oneF f m n o).2).2)
      | _ => ([], m)
theorem oneF_is {f : Str → Int → Int} {m : Ms} {n : Str} {o : Od} : oneM (whF f) () m n o = ((oneF f m n o).1, (oneF f m n o).2, ()) := by cases o <;> rfl
theorem goS_F {f : Str → Int → Int} : ∀ {j : Nat} {m : Ms}, goS (whF f) j () m = goF f j m
  | 0, m => rfl
  | j + 1, m => by
    have ih := @goS_F f j
    unfold goS at ih ⊢
    unfold goM goF
    cases m.next with
    | none => rfl
    | some n =>
      simp only
      cases m.cells.lookup n with
      | none => rfl
      | some c =>
        cases c with
        | num _ => rfl
        | ord o =>
          simp only [oneF_is]
          rw [← ih]
def readF (sp : Int) (hd : List Int) (l : Lay) (n : Str) (t : Int) : Int := readT sp hd (spotL l n) t
theorem runP_F {sp : Int} {hd : List Int} {p : Prog} {l : Lay} {a : Str} {t most : Int} : runP sp hd p l a t most = goF (readF sp hd l) most.toNat ⟨p, 0, some a, t⟩ := goS_F
theorem freeP_F {p : Prog} {a : Str} {most : Int} : freeP p a most = goF (fun _ t => t) most.toNat ⟨p, 0, some a, 0⟩ := goS_F
section
variable {f g : Str → Int → Int} {m m' : Ms} {j : Nat}
theorem goF_nil (e : m.next = none) : goF f j m = ([], m) := by
  cases j with
  | zero => rfl
  | succ j => unfold goF; rw [e]
theorem goF_cons {n : Str} {o : Od} (e : m.next = some n) (eo : m.cells.lookup n = some (.ord o)) : goF f (j + 1) m = ((oneF f m n o).1 :: (goF f j (oneF f m n o).2).1, (goF f j (oneF f m n o).2).2) := by
  conv => lhs; unfold goF
  rw [e]
  simp only
  rw [eo]
theorem oneF_ok {n : Str} {o : Od} (h : MsOk m) (e : m.cells.lookup n = some (.ord o)) : MsOk (oneF f m n o).2 := by
  have := oneM_ok (wh := whF f) (s := ()) h e
  rw [oneF_is] at this
  exact this
theorem goF_ok (h : MsOk m) : MsOk (goF f j m).2 := by
  rw [← goS_F]
  exact goM_ok h
theorem goF_len : (goF f j m).1.length ≤ j := by
  rw [← goS_F]
  exact goM_len
theorem goF_names (h : MsOk m) : namesP (goF f j m).2.cells = namesP m.cells := by
  induction j generalizing m with
  | zero => rfl
  | succ j ih =>
    cases e : m.next with
    | none => rw [goF_nil e]
    | some n =>
      obtain ⟨o, eo⟩ := h.nx n e
      rw [goF_cons e eo]
      show namesP (goF f j (oneF f m n o).2).2.cells = _
      rw [ih (oneF_ok h eo)]
      cases o with
      | stop => rfl
      | less _ _ => rfl
      | wd k w b =>
        cases k with
        | save => exact names_set _ _ _
        | _ => rfl
/-- one order more -/
theorem goF_succ (h : MsOk m) : ((goF f j m).2.next = none ∧ goF f (j + 1) m = goF f j m) ∨
    ∃ n o, (goF f j m).2.next = some n ∧ (goF f j m).2.cells.lookup n = some (.ord o) ∧ (goF f j m).1.length = j ∧ goF f (j + 1) m = ((goF f j m).1 ++ [(oneF f (goF f j m).2 n o).1], (oneF f (goF f j m).2 n o).2) := by
  induction j generalizing m with
  | zero =>
    cases e : m.next with
    | none => exact .inl ⟨e, by rw [goF_nil e]; rfl⟩
    | some n =>
      obtain ⟨o, eo⟩ := h.nx n e
      exact .inr ⟨n, o, e, eo, rfl, by rw [goF_cons e eo]; rfl⟩
  | succ j ih =>
    cases e : m.next with
    | none => exact .inl ⟨by rw [goF_nil e]; exact e, by rw [goF_nil e, goF_nil e]⟩
    | some n =>
      obtain ⟨o, eo⟩ := h.nx n e
      have e1 := goF_cons (f := f) (j := j) e eo
      have e2 := goF_cons (f := f) (j := j + 1) e eo
      rcases ih (oneF_ok (f := f) h eo) with ⟨h1, h2⟩ | ⟨n', o', h1, h2, h3, h4⟩
      · refine .inl ⟨by rw [e1]; exact h1, by rw [e2, e1, h2]⟩
      · refine .inr ⟨n', o', by rw [e1]; exact h1, by rw [e1]; exact h2, by rw [e1]; simp [h3], ?_⟩
        rw [e2, e1, h4]
        rfl
/-- what does not hang on the beats -/
structure Alike (m m' : Ms) : Prop where
  c : m.cells = m'.cells
  h : m.held = m'.held
  n : m.next = m'.next
theorem oneF_alike {n : Str} {o : Od} (a : Alike m m') : Alike (oneF f m n o).2 (oneF g m' n o).2 ∧ (oneF f m n o).1.1 = (oneF g m' n o).1.1 := by
  obtain ⟨a1, a2, a3⟩ := a
  cases o with
  | stop => exact ⟨⟨a1, a2, rfl⟩, rfl⟩
  | less b c => exact ⟨⟨a1, a2, by show some _ = some _; rw [a2]⟩, rfl⟩
  | wd k w b =>
    refine ⟨?_, rfl⟩
    cases k with
    | put => exact ⟨a1, by show numOf _ _ = numOf _ _; rw [a1], rfl⟩
    | add => exact ⟨a1, by show capd _ = capd _; rw [a1, a2], rfl⟩
    | sub => exact ⟨a1, by show capd _ = capd _; rw [a1, a2], rfl⟩
    | save => exact ⟨by show setP _ _ _ = setP _ _ _; rw [a1, a2], a2, rfl⟩
theorem goF_alike : ∀ {j : Nat} {m m' : Ms}, Alike m m' → Alike (goF f j m).2 (goF g j m').2 ∧ (goF f j m).1.map (·.1) = (goF g j m').1.map (·.1)
  | 0, m, m', a => ⟨a, rfl⟩
  | j + 1, m, m', a => by
    unfold goF
    rw [← a.n]
    cases m.next with
    | none => exact ⟨a, rfl⟩
    | some n =>
      simp only
      rw [← a.c]
      cases m.cells.lookup n with
      | none => exact ⟨a, rfl⟩
      | some c =>
        cases c with
        | num _ => exact ⟨a, rfl⟩
        | ord o =>
          obtain ⟨h1, h2⟩ := oneF_alike (f := f) (g := g) (n := n) (o := o) a
          obtain ⟨h3, h4⟩ := goF_alike (j := j) h1
          refine ⟨h3, ?_⟩
          simp only [List.map_cons, h2, h4]
/-- all so much later -/
def laterS (b : Int) (x : Step) : Step := (x.1, x.2.1 + b, x.2.2.map (· + b))
def laterM (b : Int) (m : Ms) : Ms := { m with time := m.time + b }
theorem oneF_later {b : Int} {n : Str} {o : Od} (hf : ∀ n t, f n (t + b) = f n t + b) : oneF f (laterM b m) n o = (laterS b (oneF f m n o).1, laterM b (oneF f m n o).2) := by
  cases o with
  | stop => unfold oneF laterM laterS; simp only [hf, Option.map_none]; congr 2; omega
  | less c d => unfold oneF laterM laterS; simp only [hf, Option.map_none]; congr 2; omega
  | wd k w c =>
    have e : f n (m.time + b) + 1 = (f n m.time + 1) + b := by rw [hf]; omega
    unfold oneF laterM laterS
    simp only [hf, Option.map_some, e]
    rw [show f n m.time + b + 1 = (f n m.time + 1) + b by omega, hf]
    refine Prod.ext rfl ?_
    cases k <;> (unfold doneM; simp only; congr 1; omega)
theorem goF_later {b : Int} (hf : ∀ n t, f n (t + b) = f n t + b) : ∀ {j : Nat} {m : Ms}, goF f j (laterM b m) = ((goF f j m).1.map (laterS b), laterM b (goF f j m).2)
  | 0, m => rfl
  | j + 1, m => by
    unfold goF
    show (match m.next with
      | none => _
      | some n => _) = _
    cases m.next with
    | none => rfl
    | some n =>
      simp only
      show (match m.cells.lookup n with
        | some (.ord o) => _
        | _ => _) = _
      cases m.cells.lookup n with
      | none => rfl
      | some c =>
        cases c with
        | num _ => rfl
        | ord o =>
          simp only
          rw [oneF_later hf]
          simp only
          rw [goF_later hf]
          rfl
end
end Dw
/-! equal things -/
namespace Dw
open PySem PySem.Spec PyProof.Rows L2
local macro_rules | `(tactic| walk_at "dw") => `(tactic| (repeat (first
  | ((with_reducible refine' w_var ?e ?_); (case e => rfl))
  | with_reducible refine w_c ?_
  | with_reducible refine s_seq ?_
  | with_reducible refine s_set ?_
  | with_reducible refine w_op2 ?_
  | with_reducible refine w_add ?_
  | with_reducible refine w_sub ?_
  | with_reducible refine w_eq ?_
  | with_reducible refine w_ne ?_
  | with_reducible refine w_lt ?_
  | with_reducible refine w_gt ?_
  | with_reducible refine w_le ?_
  | with_reducible refine w_ge ?_
  | with_reducible refine w_eqb ?_
  | with_reducible refine w_neb ?_
  | with_reducible refine w_cons ?_
  | with_reducible refine w_eqs ?_
  | with_reducible refine w_nes ?_
  | with_reducible refine w_isIn ?_
  | with_reducible refine w_isN ?_
  | with_reducible refine w_isNotN ?_
  | with_reducible refine w_nil ?_
  | with_reducible refine w_call ?_
  | with_reducible refine w_calW ?_
  | with_reducible refine w_cal ?_
  | with_reducible refine w_ix ?_
  | with_reducible refine w_sl ?_
  | with_reducible refine w_pn ?_
  | with_reducible refine w_rev ?_
  | with_reducible refine w_ps ?_
  | with_reducible refine w_chain ?_
  | with_reducible refine w_tup ?_
  | with_reducible refine w_lst ?_
  | with_reducible refine w_lstR ?_
  | with_reducible refine w_dict ?_
  | with_reducible refine w_isa ?_
  | with_reducible refine w_itR1 ?_
  | with_reducible refine w_itS ?_
  | ((with_reducible refine' w_ixt0 ?e ?_); (case e => rfl))
  | ((with_reducible refine' w_ixl0 ?e ?_); (case e => rfl))
  | ((with_reducible refine' w_ixt ?e ?_); (case e => rfl))
  | ((with_reducible refine' w_ixl ?e ?_); (case e => rfl))
  | with_reducible refine w_itR2 ?_
  | with_reducible refine w_itZ ?_
  | with_reducible refine w_itE ?_
  | with_reducible refine w_lc ?_
  | with_reducible refine w_lcR ?_
  | with_reducible refine w_lstRg1R ?_
  | with_reducible refine s_par ?_
  | with_reducible refine s_par3 ?_
  | with_reducible refine s_asg ?_
  | with_reducible refine s_put ?_
  | with_reducible refine s_for ?_
  | with_reducible refine s_if ?_
  | with_reducible refine w_test ?_
  | with_reducible refine w_andT ?_
  | with_reducible refine w_orT ?_
  | with_reducible refine w_notT ?_
  | with_reducible refine w_ifE ?_
  | with_reducible refine w_andV ?_
  | with_reducible refine w_orV ?_
  | with_reducible refine w_notV ?_
  | with_reducible refine w_neg ?_
  | with_reducible refine s_ret ?_
  | with_reducible refine s_retN ?_
  | with_reducible refine s_skip ?_
  | with_reducible refine s_brk ?_
  | with_reducible refine s_cnt ?_
  | with_reducible refine s_expr ?_
  | with_reducible refine w_met ?_
  | with_reducible refine wp_ok.mpr ?_
  | with_reducible refine wps_rt.mpr ?_
  | with_reducible refine wps_nx.mpr ?_
  | with_reducible refine ite_t ?_
  | with_reducible refine ite_f ?_
  | ((with_reducible refine' w_mod ?e ?_); (case e => first | assumption | omega))
  | ((with_reducible refine' w_div ?e ?_); (case e => omega))
  | ((with_reducible refine' w_mul ?e ?_); (case e => omega))
  | ((with_reducible refine' Exists.intro _ (And.intro ?e ?_)); (case e => rfl))
  | ((with_reducible refine' Exists.intro _ (Exists.intro _ (And.intro ?e ?_))); (case e => rfl))
  | ((with_reducible refine' Exists.intro _ (Exists.intro _ (Exists.intro _ (And.intro ?e ?_)))); (case e => rfl))
  | ((with_reducible refine' ite_yes ?e ?_); (case e => rfl))
  | ((with_reducible refine' ite_no ?e ?_); (case e => rfl))
  | ((with_reducible refine And.intro ?e ?_); (case e => first | rfl | exact small_len _ (Nat.le_of_ble_eq_true rfl))))))
mutual
theorem eqv_self : ∀ (n : Nat) (x : D), plainN n x → PyData.eqv x x = true
  | 0, x, p => p.elim
  | n + 1, x, p => by
    cases x with
    | tuple ds =>
      simp only [PyData.eqv]
      exact eqvAll_self n ds p.2
    | list _ => exact p.elim
    | dict _ => exact p.elim
    | none => simp [PyData.eqv]
    | bool _ => simp [PyData.eqv]
    | int _ => simp [PyData.eqv]
    | str _ => simp [PyData.eqv]
theorem eqvAll_self : ∀ (n : Nat) (ds : List D), (∀ x ∈ ds, plainN n x) → PyData.eqvAll ds ds = true
  | n, [], _ => by simp [PyData.eqvAll]
  | n, d :: ds, h => by
    simp only [PyData.eqvAll, Bool.and_eq_true]
    exact ⟨eqv_self n d (h d (by simp)), eqvAll_self n ds fun x hx => h x (by simp [hx])⟩
end
mutual
theorem depth_plain : ∀ (n : Nat) (x : D), plainN n x → PyData.depth x ≤ n
  | 0, x, p => p.elim
  | n + 1, x, p => by
    cases x with
    | tuple ds =>
      simp only [PyData.depth]
      have := depthAll_plain n ds p.2
      omega
    | list _ => exact p.elim
    | dict _ => exact p.elim
    | none => simp [PyData.depth]
    | bool _ => simp [PyData.depth]
    | int _ => simp [PyData.depth]
    | str _ => simp [PyData.depth]
theorem depthAll_plain : ∀ (n : Nat) (ds : List D), (∀ x ∈ ds, plainN n x) → PyData.depthAll ds ≤ n
  | n, [], _ => by simp [PyData.depthAll]
  | n, d :: ds, h => by
    simp only [PyData.depthAll]
    have h1 := depth_plain n d (h d (by simp))
    have h2 := depthAll_plain n ds fun x hx => h x (by simp [hx])
    omega
end
theorem fEq_self {x y : D} {n : Nat} (e : x = y) (p : plainN n y) (hn : n ≤ 100) : fEq x y = some (.bool true) := by
  subst e
  unfold fEq
  have := depth_plain n x p
  rw [if_pos (by omega), eqv_self n x p]
theorem fNe_self {x y : D} {n : Nat} (e : x = y) (p : plainN n y) (hn : n ≤ 100) : fNe x y = some (.bool false) := by
  subst e
  unfold fNe
  have := depth_plain n x p
  rw [if_pos (by omega), eqv_self n x p]
  rfl
section
variable {Q : W → MH → Prop} {h : MH} {x y : D} {n : Nat}
theorem w_eqS (e : x = y) (p : plainN n y) (hn : n ≤ 100) (q : Q (.d (.bool true)) h) : wp (op2 fEq (.d x) (.d y) h) Q := w_op2d (fEq_self e p hn) q
theorem w_neS (e : x = y) (p : plainN n y) (hn : n ≤ 100) (q : Q (.d (.bool false)) h) : wp (op2 fNe (.d x) (.d y) h) Q := w_op2d (fNe_self e p hn) q
end
theorem w_pickT {Q : W → MH → Prop} {ns : List Int} {zs ds : List D} {hs : MH} (hm : 0 < ds.length) (hz : zs.length < 1000000) (q : ∀ d ∈ ds, Q (.d d) (.lst (zs ++ [.int 0]) :: hs)) :
    wp (m__law_pick [.d (.list (iD ns)), .ref 0, .d (.tuple ds)] (.lst zs :: hs)) Q := by
  refine wp_fn ?_
  unfold b__law_pick
  walk_at "dw"
  refine w_draw (by omega) hz fun r h0 h1 => ?_
  obtain ⟨d, hd, _, e⟩ := atI_get (xs := ds) h0 h1
  refine w_ixt e ?_
  rw [retW_town0, wp_ok]
  exact q d hd
theorem w_pickO {Q : W → MH → Prop} {ns : List Int} {zs : List D} {p : Prog} {hs : MH} (hp : PrOk p) (hm : ordersP p ≠ []) (hz : zs.length < 1000000) (q : ∀ a, IsOrd p a → Q (.d (.str a)) (.lst (zs ++ [.int 0]) :: hs)) :
    wp (m__law_pick [.d (.list (iD ns)), .ref 0, .d (.tuple (sDs (ordersP p)))] (.lst zs :: hs)) Q := by
  refine w_pickT (by cases h : ordersP p with | nil => exact absurd h hm | cons _ _ => simp) hz fun d hd => ?_
  obtain ⟨a, ha, rfl⟩ := List.mem_map.mp hd
  exact q a (hp.ord.mp ha)
/-! #### reading times -/
theorem minI_add (b : Int) : ∀ (xs : List Int) (x : Int), minI (x + b) (xs.map (· + b)) = minI x xs + b
  | [], x => rfl
  | y :: xs, x => by
    show minI (min (x + b) (y + b)) (xs.map (· + b)) = minI (min x y) xs + b
    rw [show min (x + b) (y + b) = min x y + b by omega]
    exact minI_add b xs _
theorem readT_turn {sp : Int} {hd : List Int} (hne : hd ≠ []) (s t : Int) : readT sp hd s (t + sp) = readT sp hd s t + sp := by
  unfold readT
  have e : (hd.map fun h => t + sp + (s - h - (t + sp)) % sp) = (hd.map fun h => t + (s - h - t) % sp).map (· + sp) := by
    rw [List.map_map]
    refine List.map_congr_left fun h _ => ?_
    show t + sp + (s - h - (t + sp)) % sp = t + (s - h - t) % sp + sp
    have : (s - h - (t + sp)) % sp = (s - h - t) % sp := by
      rw [show s - h - (t + sp) = s - h - t - sp by omega, Int.sub_emod_right]
    rw [this]
    omega
  rw [e]
  cases hd with
  | nil => exact absurd rfl hne
  | cons h hs =>
    simp only [List.map_cons]
    exact minI_add _ _ _
theorem readT_le {sp : Int} {hd : List Int} (d : Drum sp hd) (s t : Int) : t ≤ readT sp hd s t := (read_first d.pos d.ne s t).le
end Dw
/-! steps of a run, one behind the other -/
namespace Dw
open PySem PySem.Spec PyProof.Rows L2
def befS (x : Step) : Int := x.2.2.getD x.2.1 + 1
def chainOk : Int → List Step → Prop
  | _, [] => True
  | b, x :: xs => b ≤ x.2.1 ∧ (∀ w, x.2.2 = some w → x.2.1 < w) ∧ chainOk (befS x) xs
def endB : Int → List Step → Int
  | b, [] => b
  | _, x :: xs => endB (befS x) xs
section
variable {f : Str → Int → Int} {m : Ms} {j : Nat}
theorem doneM_time {k : Wk} {w : Str} : (doneM m k w).time = m.time := by cases k <;> rfl
theorem oneF_step (hf : ∀ n t, t ≤ f n t) {n : Str} {o : Od} : m.time ≤ (oneF f m n o).1.2.1 ∧ (∀ w, (oneF f m n o).1.2.2 = some w → (oneF f m n o).1.2.1 < w) ∧ befS (oneF f m n o).1 ≤ (oneF f m n o).2.time := by
  cases o with
  | stop =>
    refine ⟨hf _ _, fun w z => ?_, ?_⟩
    · exact absurd z (by show (none : Option Int) ≠ some w; nofun)
    · show f n m.time + 1 ≤ f n m.time + 1
      omega
  | less a b =>
    refine ⟨hf _ _, fun w z => ?_, ?_⟩
    · exact absurd z (by show (none : Option Int) ≠ some w; nofun)
    · show f n m.time + 1 ≤ f n m.time + 2
      omega
  | wd k w b =>
    have := hf w (f n m.time + 1)
    refine ⟨hf _ _, fun w' z => ?_, ?_⟩
    · have z : some (f w (f n m.time + 1)) = some w' := z
      cases z
      show f n m.time < f w (f n m.time + 1)
      omega
    · show f w (f n m.time + 1) + 1 ≤ f w (f n m.time + 1) + 1 + k.bt
      have : 0 ≤ k.bt := by cases k <;> decide
      omega
theorem chain_mono : ∀ {xs : List Step} {b b' : Int}, b' ≤ b → chainOk b xs → chainOk b' xs
  | [], _, _, _, _ => trivial
  | x :: xs, b, b', h, c => ⟨Int.le_trans h c.1, c.2.1, c.2.2⟩
theorem endB_ge : ∀ {xs : List Step} {b : Int}, chainOk b xs → b ≤ endB b xs
  | [], b, _ => Int.le_refl _
  | x :: xs, b, c => by
    have := endB_ge c.2.2
    have h2 : b ≤ befS x := by
      unfold befS
      cases e : x.2.2 with
      | none => simp only [Option.getD_none]; have := c.1; omega
      | some w => simp only [Option.getD_some]; have := c.1; have := c.2.1 w e; omega
    exact Int.le_trans h2 this
theorem endB_le : ∀ {xs : List Step} {b b' : Int}, b ≤ b' → endB b xs ≤ endB b' xs
  | [], _, _, h => h
  | _ :: _, _, _, _ => Int.le_refl _
theorem chain_go (hf : ∀ n t, t ≤ f n t) (h : MsOk m) : chainOk m.time (goF f j m).1 ∧ endB m.time (goF f j m).1 ≤ (goF f j m).2.time := by
  induction j generalizing m with
  | zero => exact ⟨trivial, Int.le_refl _⟩
  | succ j ih =>
    cases e : m.next with
    | none => rw [goF_nil e]; exact ⟨trivial, Int.le_refl _⟩
    | some n =>
      obtain ⟨o, eo⟩ := h.nx n e
      rw [goF_cons e eo]
      obtain ⟨h1, h2, h3⟩ := oneF_step (m := m) hf (n := n) (o := o)
      obtain ⟨i1, i2⟩ := ih (oneF_ok (f := f) h eo)
      refine ⟨⟨h1, h2, chain_mono h3 i1⟩, ?_⟩
      show endB (befS (oneF f m n o).1) (goF f j (oneF f m n o).2).1 ≤ (goF f j (oneF f m n o).2).2.time
      exact Int.le_trans (endB_le h3) i2
theorem oneF_ord {n : Str} {o : Od} (h : MsOk m) (e : m.cells.lookup n = some (.ord o)) {x : Str} {c : Od} : (oneF f m n o).2.cells.lookup x = some (.ord c) ↔ m.cells.lookup x = some (.ord c) := by
  have ho := h.pr.od n o e
  cases o with
  | stop => exact .rfl
  | less _ _ => exact .rfl
  | wd k w b =>
    cases k with
    | save => exact ord_set ho.1
    | _ => exact .rfl
theorem goF_ord (h : MsOk m) {x : Str} {c : Od} : (goF f j m).2.cells.lookup x = some (.ord c) ↔ m.cells.lookup x = some (.ord c) := by
  induction j generalizing m with
  | zero => exact .rfl
  | succ j ih =>
    cases e : m.next with
    | none => rw [goF_nil e]
    | some n =>
      obtain ⟨o, eo⟩ := h.nx n e
      rw [goF_cons e eo]
      exact (ih (oneF_ok (f := f) h eo)).trans (oneF_ord h eo)
theorem oneF_name {n : Str} {o : Od} : (oneF f m n o).1.1 = n := by cases o <;> rfl
theorem oneF_came {n : Str} {o : Od} : (oneF f m n o).1.2.1 = f n m.time := by cases o <;> rfl
theorem oneF_next {n : Str} {o : Od} : (oneF f m n o).2.next = none ↔ o = .stop := by
  cases o with
  | stop => exact ⟨fun _ => rfl, fun _ => rfl⟩
  | less a b =>
    constructor
    · intro z
      have z : some _ = none := z
      cases z
    · intro z
      cases z
  | wd k w b =>
    constructor
    · intro z
      have z : some b = none := z
      cases z
    · intro z
      cases z
/-- the last order that was done -/
theorem goF_last (h : MsOk m) {a : Str} (ha : m.next = some a) : ((goF f j m).1 = [] ∧ (goF f j m).2.next = some a ∧ j = 0) ∨
    ∃ ys x o, (goF f j m).1 = ys ++ [x] ∧ m.cells.lookup x.1 = some (.ord o) ∧ ((goF f j m).2.next = none ↔ o = .stop) := by
  induction j with
  | zero => exact .inl ⟨rfl, ha, rfl⟩
  | succ j ih =>
    rcases goF_succ (f := f) (j := j) h with ⟨h1, h2⟩ | ⟨n, o, h1, h2, h3, h4⟩
    · rw [h2]
      rcases ih with ⟨i1, i2, _⟩ | i
      · rw [h1] at i2; cases i2
      · exact .inr i
    · rw [h4]
      refine .inr ⟨_, _, o, rfl, ?_, oneF_next⟩
      rw [oneF_name]
      exact (goF_ord h).mp h2
/-- in all runs each order is of the program, each word too -/
theorem goF_in (h : MsOk m) : ∀ x ∈ (goF f j m).1, ∃ o, m.cells.lookup x.1 = some (.ord o) := by
  induction j with
  | zero => intro x hx; cases hx
  | succ j ih =>
    rcases goF_succ (f := f) (j := j) h with ⟨h1, h2⟩ | ⟨n, o, h1, h2, h3, h4⟩
    · rw [h2]; exact ih
    · rw [h4]
      intro x hx
      rcases List.mem_append.mp hx with hx | hx
      · exact ih x hx
      · rw [List.mem_singleton.mp hx, oneF_name]
        exact ⟨o, (goF_ord h).mp h2⟩
end
theorem readF_le {sp : Int} {hd : List Int} {l : Lay} (d : Drum sp hd) (n : Str) (t : Int) : t ≤ readF sp hd l n t := readT_le d _ _
theorem readF_turn {sp : Int} {hd : List Int} {l : Lay} (d : Drum sp hd) (n : Str) (t : Int) : readF sp hd l n (t + sp) = readF sp hd l n t + sp := readT_turn d.ne _ _
theorem atI_last {α : Type} {xs : List α} {x : α} : L2.atI (xs ++ [x]) (-1) = some x := by
  unfold L2.atI L2.ixN
  rw [if_neg (by decide), if_pos (by rw [List.length_append, List.length_singleton]; omega)]
  simp only [Option.bind_some, List.length_append, List.length_singleton]
  rw [List.getElem?_append_right (by omega)]
  rw [show (-1 + ((xs.length + 1 : Nat) : Int)).toNat - xs.length = 0 by omega]
  rfl
end Dw
/-! later begun, later done -/
namespace Dw
open PySem PySem.Spec PyProof.Rows L2
local macro_rules | `(tactic| walk_at "dw") => `(tactic| (repeat (first
  | ((with_reducible refine' w_var ?e ?_); (case e => rfl))
  | with_reducible refine w_c ?_
  | with_reducible refine s_seq ?_
  | with_reducible refine s_set ?_
  | with_reducible refine w_op2 ?_
  | with_reducible refine w_add ?_
  | with_reducible refine w_sub ?_
  | with_reducible refine w_eq ?_
  | with_reducible refine w_ne ?_
  | with_reducible refine w_lt ?_
  | with_reducible refine w_gt ?_
  | with_reducible refine w_le ?_
  | with_reducible refine w_ge ?_
  | with_reducible refine w_eqb ?_
  | with_reducible refine w_neb ?_
  | with_reducible refine w_cons ?_
  | with_reducible refine w_eqs ?_
  | with_reducible refine w_nes ?_
  | with_reducible refine w_isIn ?_
  | with_reducible refine w_isN ?_
  | with_reducible refine w_isNotN ?_
  | with_reducible refine w_nil ?_
  | with_reducible refine w_call ?_
  | with_reducible refine w_calW ?_
  | with_reducible refine w_cal ?_
  | with_reducible refine w_ix ?_
  | with_reducible refine w_sl ?_
  | with_reducible refine w_pn ?_
  | with_reducible refine w_rev ?_
  | with_reducible refine w_ps ?_
  | with_reducible refine w_chain ?_
  | with_reducible refine w_tup ?_
  | with_reducible refine w_lst ?_
  | with_reducible refine w_lstR ?_
  | with_reducible refine w_dict ?_
  | with_reducible refine w_isa ?_
  | with_reducible refine w_itR1 ?_
  | with_reducible refine w_itS ?_
  | ((with_reducible refine' w_ixt0 ?e ?_); (case e => rfl))
  | ((with_reducible refine' w_ixl0 ?e ?_); (case e => rfl))
  | ((with_reducible refine' w_ixt ?e ?_); (case e => rfl))
  | ((with_reducible refine' w_ixl ?e ?_); (case e => rfl))
  | with_reducible refine w_itR2 ?_
  | with_reducible refine w_itZ ?_
  | with_reducible refine w_itE ?_
  | with_reducible refine w_lc ?_
  | with_reducible refine w_lcR ?_
  | with_reducible refine w_lstRg1R ?_
  | with_reducible refine s_par ?_
  | with_reducible refine s_par3 ?_
  | with_reducible refine s_asg ?_
  | with_reducible refine s_put ?_
  | with_reducible refine s_for ?_
  | with_reducible refine s_if ?_
  | with_reducible refine w_test ?_
  | with_reducible refine w_andT ?_
  | with_reducible refine w_orT ?_
  | with_reducible refine w_notT ?_
  | with_reducible refine w_ifE ?_
  | with_reducible refine w_andV ?_
  | with_reducible refine w_orV ?_
  | with_reducible refine w_notV ?_
  | with_reducible refine w_neg ?_
  | with_reducible refine s_ret ?_
  | with_reducible refine s_retN ?_
  | with_reducible refine s_skip ?_
  | with_reducible refine s_brk ?_
  | with_reducible refine s_cnt ?_
  | with_reducible refine s_expr ?_
  | with_reducible refine w_met ?_
  | with_reducible refine wp_ok.mpr ?_
  | with_reducible refine wps_rt.mpr ?_
  | with_reducible refine wps_nx.mpr ?_
  | with_reducible refine ite_t ?_
  | with_reducible refine ite_f ?_
  | ((with_reducible refine' w_mod ?e ?_); (case e => first | assumption | omega))
  | ((with_reducible refine' w_div ?e ?_); (case e => omega))
  | ((with_reducible refine' w_mul ?e ?_); (case e => omega))
  | ((with_reducible refine' Exists.intro _ (And.intro ?e ?_)); (case e => rfl))
  | ((with_reducible refine' Exists.intro _ (Exists.intro _ (And.intro ?e ?_))); (case e => rfl))
  | ((with_reducible refine' Exists.intro _ (Exists.intro _ (Exists.intro _ (And.intro ?e ?_)))); (case e => rfl))
  | ((with_reducible refine' ite_yes ?e ?_); (case e => rfl))
  | ((with_reducible refine' ite_no ?e ?_); (case e => rfl))
  | ((with_reducible refine And.intro ?e ?_); (case e => first | rfl | exact small_len _ (Nat.le_of_ble_eq_true rfl))))))
theorem readT_mono {sp : Int} {hd : List Int} (d : Drum sp hd) (s : Int) {t t' : Int} (h : t ≤ t') : readT sp hd s t ≤ readT sp hd s t' := by
  have F := read_first d.pos d.ne s t
  have F' := read_first d.pos d.ne s t'
  refine Decidable.byContradiction fun z => ?_
  have := F.no (readT sp hd s t') (Int.le_trans h F'.le) (by omega)
  rw [F'.yes] at this
  cases this
theorem readF_mono {sp : Int} {hd : List Int} {l : Lay} (d : Drum sp hd) (n : Str) {t t' : Int} (h : t ≤ t') : readF sp hd l n t ≤ readF sp hd l n t' := readT_mono d _ h
def LeStep (x y : Step) : Prop := x.1 = y.1 ∧ x.2.1 ≤ y.2.1 ∧ (x.2.2 = none ∧ y.2.2 = none ∨ ∃ a b, x.2.2 = some a ∧ y.2.2 = some b ∧ a ≤ b)
def LeSteps : List Step → List Step → Prop
  | [], [] => True
  | x :: xs, y :: ys => LeStep x y ∧ LeSteps xs ys
  | _, _ => False
section
variable {f : Str → Int → Int}
theorem oneF_mono (hf : ∀ n t t', t ≤ t' → f n t ≤ f n t') {m m' : Ms} {n : Str} {o : Od} (ht : m.time ≤ m'.time) : LeStep (oneF f m n o).1 (oneF f m' n o).1 ∧ (oneF f m n o).2.time ≤ (oneF f m' n o).2.time := by
  have h1 := hf n _ _ ht
  cases o with
  | stop => exact ⟨⟨rfl, h1, .inl ⟨rfl, rfl⟩⟩, by show f n m.time + 1 ≤ f n m'.time + 1; omega⟩
  | less a b => exact ⟨⟨rfl, h1, .inl ⟨rfl, rfl⟩⟩, by show f n m.time + 2 ≤ f n m'.time + 2; omega⟩
  | wd k w b =>
    have h2 := hf w (f n m.time + 1) (f n m'.time + 1) (by omega)
    exact ⟨⟨rfl, h1, .inr ⟨_, _, rfl, rfl, h2⟩⟩, by show f w (f n m.time + 1) + 1 + k.bt ≤ f w (f n m'.time + 1) + 1 + k.bt; omega⟩
theorem goF_mono (hf : ∀ n t t', t ≤ t' → f n t ≤ f n t') : ∀ {j : Nat} {m m' : Ms}, Alike m m' → m.time ≤ m'.time → LeSteps (goF f j m).1 (goF f j m').1 ∧ (goF f j m).2.time ≤ (goF f j m').2.time
  | 0, m, m', _, ht => ⟨trivial, ht⟩
  | j + 1, m, m', a, ht => by
    unfold goF
    rw [← a.n]
    cases m.next with
    | none => exact ⟨trivial, ht⟩
    | some n =>
      simp only
      rw [← a.c]
      cases m.cells.lookup n with
      | none => exact ⟨trivial, ht⟩
      | some c =>
        cases c with
        | num _ => exact ⟨trivial, ht⟩
        | ord o =>
          obtain ⟨h1, h2⟩ := oneF_mono hf (n := n) (o := o) ht
          obtain ⟨h3, h4⟩ := goF_mono hf (j := j) (oneF_alike (f := f) (g := f) (n := n) (o := o) a).1 h2
          exact ⟨⟨h1, h3⟩, h4⟩
/-- begun at two times, first read at the same -/
theorem goF_first {j : Nat} {p : Prog} {a : Str} {t t' : Int} {o : Od} (ha : p.lookup a = some (.ord o)) (e : f a t = f a t') : goF f (j + 1) ⟨p, 0, some a, t⟩ = goF f (j + 1) ⟨p, 0, some a, t'⟩ := by
  rw [goF_cons (m := ⟨p, 0, some a, t⟩) rfl ha, goF_cons (m := ⟨p, 0, some a, t'⟩) rfl ha]
  have : oneF f ⟨p, 0, some a, t⟩ a o = oneF f ⟨p, 0, some a, t'⟩ a o := by
    cases o with
    | stop => unfold oneF; simp only [e]
    | less b c => unfold oneF; simp only [e]
    | wd k w b =>
      unfold oneF
      simp only [e]
      cases k <;> rfl
  rw [this]
end
/-! equal things with lists in them -/
def eqN : Nat → D → Prop
  | 0, _ => False
  | _ + 1, .dict _ => False
  | n + 1, .list ds => ∀ x ∈ ds, eqN n x
  | n + 1, .tuple ds => ∀ x ∈ ds, eqN n x
  | _ + 1, _ => True
theorem eqN_of : ∀ {n : Nat} {x : D}, plainN n x → eqN n x
  | 0, x, p => p.elim
  | n + 1, x, p => by
    cases x with
    | tuple ds => exact fun x hx => eqN_of (p.2 x hx)
    | list _ => exact p.elim
    | dict _ => exact p.elim
    | none => trivial
    | bool _ => trivial
    | int _ => trivial
    | str _ => trivial
mutual
theorem eqv_selfL : ∀ (n : Nat) (x : D), eqN n x → PyData.eqv x x = true
  | 0, x, p => p.elim
  | n + 1, x, p => by
    cases x with
    | tuple ds =>
      simp only [PyData.eqv]
      exact eqvAll_selfL n ds p
    | list ds =>
      simp only [PyData.eqv]
      exact eqvAll_selfL n ds p
    | dict _ => exact p.elim
    | none => simp [PyData.eqv]
    | bool _ => simp [PyData.eqv]
    | int _ => simp [PyData.eqv]
    | str _ => simp [PyData.eqv]
theorem eqvAll_selfL : ∀ (n : Nat) (ds : List D), (∀ x ∈ ds, eqN n x) → PyData.eqvAll ds ds = true
  | n, [], _ => by simp [PyData.eqvAll]
  | n, d :: ds, h => by
    simp only [PyData.eqvAll, Bool.and_eq_true]
    exact ⟨eqv_selfL n d (h d (by simp)), eqvAll_selfL n ds fun x hx => h x (by simp [hx])⟩
end
mutual
theorem depth_eqN : ∀ (n : Nat) (x : D), eqN n x → PyData.depth x ≤ n
  | 0, x, p => p.elim
  | n + 1, x, p => by
    cases x with
    | tuple ds =>
      simp only [PyData.depth]
      have := depthAll_eqN n ds p
      omega
    | list ds =>
      simp only [PyData.depth]
      have := depthAll_eqN n ds p
      omega
    | dict _ => exact p.elim
    | none => simp [PyData.depth]
    | bool _ => simp [PyData.depth]
    | int _ => simp [PyData.depth]
    | str _ => simp [PyData.depth]
theorem depthAll_eqN : ∀ (n : Nat) (ds : List D), (∀ x ∈ ds, eqN n x) → PyData.depthAll ds ≤ n
  | n, [], _ => by simp [PyData.depthAll]
  | n, d :: ds, h => by
    simp only [PyData.depthAll]
    have h1 := depth_eqN n d (h d (by simp))
    have h2 := depthAll_eqN n ds fun x hx => h x (by simp [hx])
    omega
end
theorem w_neL {Q : W → MH → Prop} {h : MH} {x y : D} (n : Nat) (e : x = y) (p : eqN n y) (hn : n ≤ 100) (q : Q (.d (.bool false)) h) : wp (op2 fNe (.d x) (.d y) h) Q := w_op2d (by
  subst e
  unfold fNe
  have := depth_eqN n x p
  rw [if_pos (by omega), eqv_selfL n x p]
  rfl) q
theorem w_eqL {Q : W → MH → Prop} {h : MH} {x y : D} (n : Nat) (e : x = y) (p : eqN n y) (hn : n ≤ 100) (q : Q (.d (.bool true)) h) : wp (op2 fEq (.d x) (.d y) h) Q := w_op2d (by
  subst e
  unfold fEq
  have := depth_eqN n x p
  rw [if_pos (by omega), eqv_selfL n x p]) q
end Dw
/-! layings turned, by names, free spots, ends -/
namespace Dw
open PySem PySem.Spec PyProof.Rows L2
local macro_rules | `(tactic| walk_at "dw") => `(tactic| (repeat (first
  | ((with_reducible refine' w_var ?e ?_); (case e => rfl))
  | with_reducible refine w_c ?_
  | with_reducible refine s_seq ?_
  | with_reducible refine s_set ?_
  | with_reducible refine w_op2 ?_
  | with_reducible refine w_add ?_
  | with_reducible refine w_sub ?_
  | with_reducible refine w_eq ?_
  | with_reducible refine w_ne ?_
  | with_reducible refine w_lt ?_
  | with_reducible refine w_gt ?_
  | with_reducible refine w_le ?_
  | with_reducible refine w_ge ?_
  | with_reducible refine w_eqb ?_
  | with_reducible refine w_neb ?_
  | with_reducible refine w_cons ?_
  | with_reducible refine w_eqs ?_
  | with_reducible refine w_nes ?_
  | with_reducible refine w_isIn ?_
  | with_reducible refine w_isN ?_
  | with_reducible refine w_isNotN ?_
  | with_reducible refine w_nil ?_
  | with_reducible refine w_call ?_
  | with_reducible refine w_calW ?_
  | with_reducible refine w_cal ?_
  | with_reducible refine w_ix ?_
  | with_reducible refine w_sl ?_
  | with_reducible refine w_pn ?_
  | with_reducible refine w_rev ?_
  | with_reducible refine w_ps ?_
  | with_reducible refine w_chain ?_
  | with_reducible refine w_tup ?_
  | with_reducible refine w_lst ?_
  | with_reducible refine w_lstR ?_
  | with_reducible refine w_dict ?_
  | with_reducible refine w_isa ?_
  | with_reducible refine w_itR1 ?_
  | with_reducible refine w_itS ?_
  | ((with_reducible refine' w_ixt0 ?e ?_); (case e => rfl))
  | ((with_reducible refine' w_ixl0 ?e ?_); (case e => rfl))
  | ((with_reducible refine' w_ixt ?e ?_); (case e => rfl))
  | ((with_reducible refine' w_ixl ?e ?_); (case e => rfl))
  | with_reducible refine w_itR2 ?_
  | with_reducible refine w_itZ ?_
  | with_reducible refine w_itE ?_
  | with_reducible refine w_lc ?_
  | with_reducible refine w_lcR ?_
  | with_reducible refine w_lstRg1R ?_
  | with_reducible refine s_par ?_
  | with_reducible refine s_par3 ?_
  | with_reducible refine s_asg ?_
  | with_reducible refine s_put ?_
  | with_reducible refine s_for ?_
  | with_reducible refine s_if ?_
  | with_reducible refine w_test ?_
  | with_reducible refine w_andT ?_
  | with_reducible refine w_orT ?_
  | with_reducible refine w_notT ?_
  | with_reducible refine w_ifE ?_
  | with_reducible refine w_andV ?_
  | with_reducible refine w_orV ?_
  | with_reducible refine w_notV ?_
  | with_reducible refine w_neg ?_
  | with_reducible refine s_ret ?_
  | with_reducible refine s_retN ?_
  | with_reducible refine s_skip ?_
  | with_reducible refine s_brk ?_
  | with_reducible refine s_cnt ?_
  | with_reducible refine s_expr ?_
  | with_reducible refine w_met ?_
  | with_reducible refine wp_ok.mpr ?_
  | with_reducible refine wps_rt.mpr ?_
  | with_reducible refine wps_nx.mpr ?_
  | with_reducible refine ite_t ?_
  | with_reducible refine ite_f ?_
  | ((with_reducible refine' w_mod ?e ?_); (case e => first | assumption | omega))
  | ((with_reducible refine' w_div ?e ?_); (case e => omega))
  | ((with_reducible refine' w_mul ?e ?_); (case e => omega))
  | ((with_reducible refine' Exists.intro _ (And.intro ?e ?_)); (case e => rfl))
  | ((with_reducible refine' Exists.intro _ (Exists.intro _ (And.intro ?e ?_))); (case e => rfl))
  | ((with_reducible refine' Exists.intro _ (Exists.intro _ (Exists.intro _ (And.intro ?e ?_)))); (case e => rfl))
  | ((with_reducible refine' ite_yes ?e ?_); (case e => rfl))
  | ((with_reducible refine' ite_no ?e ?_); (case e => rfl))
  | ((with_reducible refine And.intro ?e ?_); (case e => first | rfl | exact small_len _ (Nat.le_of_ble_eq_true rfl))))))
def turnL (sp : Int) (l : Lay) (b : Int) : Lay := l.map fun x => (x.1, (x.2 + b) % sp)
def lowL (ns : List Str) : Lay := (List.range ns.length).map fun (i : Nat) => (ns.getD i Str.empty, (i : Int))
def spotsL (l : Lay) : List Int := l.map (·.2)
def freeL (sp : Int) (l : Lay) : List Int := ((List.range sp.toNat).map fun (i : Nat) => (i : Int)).filter fun s => !decide (s ∈ spotsL l)
section
variable {sp : Int} {hd : List Int} {p : Prog} {l : Lay} {a : Str} {b most : Int} {h : MH}
theorem turned_ok (hp : 0 < sp) (hl : l.length ≤ 1000) : m_turned [.d (drumD sp hd), .d (layD l), .d (.int b)] h = .ok (.d (layD (turnL sp l b))) h := wp_congr_of <| by
  refine wp_fn ?_
  unfold b_turned drumD
  walk_at "dw"
  unfold lc_turned_1
  walk_at "dw"
  refine w_mapF spotD (fun x => spotD (x.1, (x.2 + b) % sp)) trivial (by omega) (fun x _ => ⟨_, rfl, ?_⟩) ?_
  · unfold ce_turned_1
    walk_at "dw"
    rfl
  walk_at "dw"
  rw [retW_same, wp_ok]
  unfold turnL layD
  rw [List.map_map]
  exact ⟨rfl, rfl⟩
theorem by_names_ok (hp : p.length ≤ 1000) : m_by_names [.d (progD p)] h = .ok (.d (layD (lowL (namesP p)))) h := wp_congr_of <| by
  have ln : (namesP p).length = p.length := by unfold namesP; simp
  refine wp_fn ?_
  unfold b_by_names
  walk_at "dw"
  unfold lc_by_names_1
  walk_at "dw"
  refine w_of (names_ok hp) ?_
  walk_at "dw"
  refine w_selE (t := mYes) (ns := namesP p) (fun _ => true) (fun i => spotD ((namesP p).getD i Str.empty, (i : Int))) (by omega) (fun i hi => ⟨_, rfl, ?_⟩) ?_
  · refine wp_ok.mpr ⟨rfl, rfl, fun _ => ?_⟩
    unfold ce_by_names_1
    walk_at "dw"
    rfl
  rw [List.filter_eq_self.mpr fun _ _ => rfl]
  walk_at "dw"
  rw [retW_same, wp_ok]
  unfold lowL layD
  rw [List.map_map]
  exact ⟨rfl, rfl⟩
theorem free_ok (h0 : 0 ≤ sp) (hs : sp ≤ 1000) (hl : l.length ≤ 1000) : m_free_spots [.d (drumD sp hd), .d (layD l)] h = .ok (.d (.tuple (iD (freeL sp l)))) h := wp_congr_of <| by
  refine wp_fn ?_
  unfold b_free_spots drumD
  walk_at "dw"
  unfold lc_free_spots_2
  walk_at "dw"
  refine w_mapF spotD (fun x => .int x.2) trivial (by omega) (fun x _ => ⟨_, rfl, ?_⟩) ?_
  · unfold ce_free_spots_2
    walk_at "dw"
    rfl
  walk_at "dw"
  unfold lc_free_spots_1
  walk_at "dw"
  refine ⟨by omega, ?_⟩
  have e : (l.map fun x => PyData.int x.2) = iD (spotsL l) := by unfold iD spotsL; rw [List.map_map]; rfl
  rw [e]
  refine w_selR (fun s => !decide (s ∈ spotsL l)) (fun s => .int s) (by omega) (fun i hi => ⟨_, rfl, ?_⟩) ?_
  · unfold ct_free_spots_1
    walk_at "dw"
    refine w_ninLi ?_
    walk_at "dw"
    refine fun _ => ?_
    unfold ce_free_spots_1
    walk_at "dw"
    rfl
  walk_at "dw"
  rw [retW_same, wp_ok]
  refine ⟨?_, rfl⟩
  unfold freeL iD
  rw [List.filter_map, List.map_map]
  have e2 : ((fun s => !decide (s ∈ spotsL l)) ∘ fun (i : Nat) => (i : Int)) = fun (i : Nat) => !decide ((0 + (i : Int)) ∈ spotsL l) := by
    funext i
    show (!decide ((i : Int) ∈ spotsL l)) = _
    rw [show (0 + (i : Int)) = (i : Int) by omega]
  rw [e2]
  congr 3
  funext i
  show _ = PyData.int (i : Int)
  rw [show (0 + (i : Int)) = (i : Int) by omega]
theorem end_ok (d : Drum sp hd) (hp : PrOk p) (hl : LayOk sp p l) (ha : IsOrd p a) (hm : most ≤ 1000) :
    m_end_time [.d (drumD sp hd), .d (progD p), .d (layD l), .d (.str a), .d (.int most)] h = .ok (.d (.int (runP sp hd p l a 0 most).2.time)) h := wp_congr_of <| by
  refine wp_fn ?_
  unfold b_end_time
  walk_at "dw"
  refine w_of (run_ok d hp hl ha hm) ?_
  unfold runD
  walk_at "dw"
  rw [retW_same, wp_ok]
  exact ⟨rfl, rfl⟩
end
end Dw
/-! is_better -/
namespace Dw
open PySem PySem.Spec PyProof.Rows L2
local macro_rules | `(tactic| walk_at "dw") => `(tactic| (repeat (first
  | ((with_reducible refine' w_var ?e ?_); (case e => rfl))
  | with_reducible refine w_c ?_
  | with_reducible refine s_seq ?_
  | with_reducible refine s_set ?_
  | with_reducible refine w_op2 ?_
  | with_reducible refine w_add ?_
  | with_reducible refine w_sub ?_
  | with_reducible refine w_eq ?_
  | with_reducible refine w_ne ?_
  | with_reducible refine w_lt ?_
  | with_reducible refine w_gt ?_
  | with_reducible refine w_le ?_
  | with_reducible refine w_ge ?_
  | with_reducible refine w_eqb ?_
  | with_reducible refine w_neb ?_
  | with_reducible refine w_cons ?_
  | with_reducible refine w_eqs ?_
  | with_reducible refine w_nes ?_
  | with_reducible refine w_isIn ?_
  | with_reducible refine w_isN ?_
  | with_reducible refine w_isNotN ?_
  | with_reducible refine w_nil ?_
  | with_reducible refine w_call ?_
  | with_reducible refine w_calW ?_
  | with_reducible refine w_cal ?_
  | with_reducible refine w_ix ?_
  | with_reducible refine w_sl ?_
  | with_reducible refine w_pn ?_
  | with_reducible refine w_rev ?_
  | with_reducible refine w_ps ?_
  | with_reducible refine w_chain ?_
  | with_reducible refine w_tup ?_
  | with_reducible refine w_lst ?_
  | with_reducible refine w_lstR ?_
  | with_reducible refine w_dict ?_
  | with_reducible refine w_isa ?_
  | with_reducible refine w_itR1 ?_
  | with_reducible refine w_itS ?_
  | ((with_reducible refine' w_ixt0 ?e ?_); (case e => rfl))
  | ((with_reducible refine' w_ixl0 ?e ?_); (case e => rfl))
  | ((with_reducible refine' w_ixt ?e ?_); (case e => rfl))
  | ((with_reducible refine' w_ixl ?e ?_); (case e => rfl))
  | with_reducible refine w_itR2 ?_
  | with_reducible refine w_itZ ?_
  | with_reducible refine w_itE ?_
  | with_reducible refine w_lc ?_
  | with_reducible refine w_lcR ?_
  | with_reducible refine w_lstRg1R ?_
  | with_reducible refine s_par ?_
  | with_reducible refine s_par3 ?_
  | with_reducible refine s_asg ?_
  | with_reducible refine s_put ?_
  | with_reducible refine s_for ?_
  | with_reducible refine s_if ?_
  | with_reducible refine w_test ?_
  | with_reducible refine w_andT ?_
  | with_reducible refine w_orT ?_
  | with_reducible refine w_notT ?_
  | with_reducible refine w_ifE ?_
  | with_reducible refine w_andV ?_
  | with_reducible refine w_orV ?_
  | with_reducible refine w_notV ?_
  | with_reducible refine w_neg ?_
  | with_reducible refine s_ret ?_
  | with_reducible refine s_retN ?_
  | with_reducible refine s_skip ?_
  | with_reducible refine s_brk ?_
  | with_reducible refine s_cnt ?_
  | with_reducible refine s_expr ?_
  | with_reducible refine w_met ?_
  | with_reducible refine wp_ok.mpr ?_
  | with_reducible refine wps_rt.mpr ?_
  | with_reducible refine wps_nx.mpr ?_
  | with_reducible refine ite_t ?_
  | with_reducible refine ite_f ?_
  | ((with_reducible refine' w_mod ?e ?_); (case e => first | assumption | omega))
  | ((with_reducible refine' w_div ?e ?_); (case e => omega))
  | ((with_reducible refine' w_mul ?e ?_); (case e => omega))
  | ((with_reducible refine' Exists.intro _ (And.intro ?e ?_)); (case e => rfl))
  | ((with_reducible refine' Exists.intro _ (Exists.intro _ (And.intro ?e ?_))); (case e => rfl))
  | ((with_reducible refine' Exists.intro _ (Exists.intro _ (Exists.intro _ (And.intro ?e ?_)))); (case e => rfl))
  | ((with_reducible refine' ite_yes ?e ?_); (case e => rfl))
  | ((with_reducible refine' ite_no ?e ?_); (case e => rfl))
  | ((with_reducible refine And.intro ?e ?_); (case e => first | rfl | exact small_len _ (Nat.le_of_ble_eq_true rfl))))))
def layLt : Lay → Lay → Bool
  | x :: l, y :: m => decide (x.2 < y.2) || (decide (x.2 = y.2) && layLt l m)
  | _, _ => false
theorem spot_alike (x y : Str × Int) : PySem.W.alike (spotD x) (spotD y) = true := by simp [spotD, PySem.W.alike, PySem.W.alikeAll]
theorem lays_alike : ∀ l m : Lay, PySem.W.alikeAll (l.map spotD) (m.map spotD) = true
  | [], _ => by simp [PySem.W.alikeAll]
  | _ :: _, [] => by simp [PySem.W.alikeAll]
  | x :: l, y :: m => by
    simp only [List.map_cons, PySem.W.alikeAll, spot_alike, Bool.true_and]
    exact lays_alike l m
theorem toks_nil_lt : PyProof.Rows.lexLt itemOrd (PySem.W.keyToksAll []) (PySem.W.keyToksAll []) = false := by decide
theorem spot_lt {n : Str} {s t : Int} : PySem.W.dataLt (spotD (n, s)) (spotD (n, t)) = decide (s < t) := by
  unfold spotD
  simp only
  rw [PySem.W.dataLt_tuple, PySem.W.dataLt_all_yes (by simp [PySem.W.alike]) (by simp [PyData.eqv])]
  by_cases h : s = t
  · subst h
    rw [PySem.W.dataLt_all_yes (by simp [PySem.W.alike]) (by simp [PyData.eqv]), toks_nil_lt]
    simp
  · rw [PySem.W.dataLt_all_no (by simp [PySem.W.alike]) (by simp [PyData.eqv, h]), PySem.W.dataLt_int]
theorem spot_eqv {n : Str} {s t : Int} : PyData.eqv (spotD (n, s)) (spotD (n, t)) = decide (s = t) := by
  simp [spotD, PyData.eqv, PyData.eqvAll]
  rfl
theorem lay_lt : ∀ {l m : Lay}, l.map (·.1) = m.map (·.1) → PyProof.Rows.lexLt itemOrd (PySem.W.keyToksAll (l.map spotD)) (PySem.W.keyToksAll (m.map spotD)) = layLt l m
  | [], [], _ => toks_nil_lt
  | [], _ :: _, h => by cases h
  | _ :: _, [], h => by cases h
  | (n, s) :: l, (n', t) :: m, h => by
    simp only [List.map_cons, List.cons.injEq] at h
    obtain ⟨e, h⟩ := h
    subst e
    rw [List.map_cons, List.map_cons]
    unfold layLt
    by_cases hs : s = t
    · subst hs
      rw [PySem.W.dataLt_all_yes (spot_alike _ _) (by rw [spot_eqv]; simp), lay_lt h]
      simp
    · rw [PySem.W.dataLt_all_no (spot_alike _ _) (by rw [spot_eqv]; simp [hs]), spot_lt]
      simp [hs]
theorem lay_eqv : ∀ {l m : Lay}, PyData.eqvAll (l.map spotD) (m.map spotD) = decide (l = m)
  | [], [] => by simp [PyData.eqvAll]
  | [], _ :: _ => by simp [PyData.eqvAll]
  | _ :: _, [] => by simp [PyData.eqvAll]
  | (n, s) :: l, (n', t) :: m => by
    simp only [List.map_cons, PyData.eqvAll, PyData.eqv]
    rw [lay_eqv, Bool.eq_iff_iff]
    simp
/-- (end, laying) < (end, laying) -/
def rankLt (x y : Int × Lay) : Bool := decide (x.1 < y.1) || (decide (x.1 = y.1) && layLt x.2 y.2)
theorem rank_lt {a b : Int} {l m : Lay} (h : l.map (·.1) = m.map (·.1)) : PySem.W.dataLt (.tuple [.int a, layD l]) (.tuple [.int b, layD m]) = rankLt (a, l) (b, m) := by
  unfold rankLt
  simp only
  rw [PySem.W.dataLt_tuple]
  by_cases e : a = b
  · subst e
    rw [PySem.W.dataLt_all_yes (by simp [PySem.W.alike]) (by simp [PyData.eqv])]
    by_cases e2 : l = m
    · subst e2
      rw [PySem.W.dataLt_all_yes (by simp [PySem.W.alike, lays_alike]) (by simp [PyData.eqv, lay_eqv]), toks_nil_lt]
      have := lay_lt (l := l) (m := l) rfl
      have irr : layLt l l = false := by
        clear this h
        induction l with
        | nil => rfl
        | cons x l ih => unfold layLt; simp [ih]
      rw [irr]
      simp
    · rw [PySem.W.dataLt_all_no (by simp [PySem.W.alike, lays_alike]) (by simp [PyData.eqv, lay_eqv, e2]), PySem.W.dataLt_tuple, lay_lt h]
      simp
  · rw [PySem.W.dataLt_all_no (by simp [PySem.W.alike]) (by simp [PyData.eqv, e]), PySem.W.dataLt_int]
    simp [e]
theorem rank_ok {a b : Int} {l m : Lay} (hl : l.length ≤ 1000) : cmpOk (.tuple [.int a, layD l]) (.tuple [.int b, layD m]) = true := by
  have hd : PyData.depth (.tuple [.int a, layD l]) ≤ 100 := depth_plain 100 _ ⟨Nat.le_of_ble_eq_true rfl, fun x hx => by
    simp at hx
    rcases hx with rfl | rfl
    · trivial
    · exact plain_lay (n := 96) (by omega)⟩
  unfold cmpOk
  simp [PySem.W.alike, PySem.W.alikeAll, lays_alike]
  omega
def endP (sp : Int) (hd : List Int) (p : Prog) (l : Lay) (a : Str) (most : Int) : Int := (runP sp hd p l a 0 most).2.time
theorem w_ltRank {Q : W → MH → Prop} {h : MH} {a b : Int} {l m : Lay} (hl : l.length ≤ 1000) (e : l.map (·.1) = m.map (·.1)) (q : Q (.d (.bool (rankLt (a, l) (b, m)))) h) : wp (op2 fLt (.d (.tuple [.int a, layD l])) (.d (.tuple [.int b, layD m])) h) Q := w_op2d (by
  unfold fLt
  rw [if_pos (rank_ok hl), rank_lt e]) q
theorem better_ok {sp : Int} {hd : List Int} {p : Prog} {l m : Lay} {a : Str} {most : Int} {h : MH} (d : Drum sp hd) (hp : PrOk p) (hl : LayOk sp p l) (hm : LayOk sp p m) (ha : IsOrd p a) (hmo : most ≤ 1000) :
    m_is_better [.d (drumD sp hd), .d (progD p), .d (layD l), .d (layD m), .d (.str a), .d (.int most)] h = .ok (.d (.bool (rankLt (endP sp hd p l a most, l) (endP sp hd p m a most, m)))) h := wp_congr_of <| by
  have hlen : l.length ≤ 1000 := by have := congrArg List.length hl.nm; unfold namesP at this; rw [List.length_map, List.length_map] at this; have := hp.few; omega
  refine wp_fn ?_
  unfold b_is_better
  walk_at "dw"
  refine w_of (end_ok d hp hl ha hmo) ?_
  walk_at "dw"
  refine w_of (end_ok d hp hm ha hmo) ?_
  walk_at "dw"
  refine w_ltRank hlen (hl.nm.trans hm.nm.symm) ?_
  rw [retW_same, wp_ok]
  exact ⟨rfl, rfl⟩
end Dw
/-! ranks of layings; more heads; rows -/
namespace Dw
open PySem PySem.Spec PyProof.Rows L2
theorem layLt_irr : ∀ l : Lay, layLt l l = false
  | [] => rfl
  | x :: l => by unfold layLt; simp [layLt_irr l]
theorem layLt_asymm : ∀ {l m : Lay}, layLt l m = true → layLt m l = false
  | [], [], h => by cases h
  | [], _ :: _, h => by cases h
  | _ :: _, [], h => by cases h
  | x :: l, y :: m, h => by
    unfold layLt at h ⊢
    simp only [Bool.or_eq_true, Bool.and_eq_true, decide_eq_true_eq] at h
    simp only [Bool.or_eq_false_iff, Bool.and_eq_false_iff, decide_eq_false_iff_not]
    rcases h with h | ⟨h1, h2⟩
    · exact ⟨by omega, .inl (by omega)⟩
    · exact ⟨by omega, .inr (layLt_asymm h2)⟩
theorem layLt_total : ∀ {l m : Lay}, l.map (·.1) = m.map (·.1) → layLt l m = false → layLt m l = false → l = m
  | [], [], _, _, _ => rfl
  | [], _ :: _, h, _, _ => by cases h
  | _ :: _, [], h, _, _ => by cases h
  | (n, s) :: l, (n', t) :: m, h, h1, h2 => by
    simp only [List.map_cons, List.cons.injEq] at h
    obtain ⟨e, h⟩ := h
    subst e
    unfold layLt at h1 h2
    simp only [Bool.or_eq_false_iff, Bool.and_eq_false_iff, decide_eq_false_iff_not] at h1 h2
    obtain ⟨a1, b1⟩ := h1
    obtain ⟨a2, b2⟩ := h2
    have e : s = t := by omega
    subst e
    rw [layLt_total h (b1.resolve_left fun z => z rfl) (b2.resolve_left fun z => z rfl)]
theorem layLt_trans : ∀ {l m k : Lay}, l.map (·.1) = m.map (·.1) → m.map (·.1) = k.map (·.1) → layLt m l = false → layLt k m = false → layLt k l = false
  | [], [], [], _, _, _, _ => rfl
  | [], _ :: _, _, h, _, _, _ => by cases h
  | _ :: _, [], _, h, _, _, _ => by cases h
  | [], [], _ :: _, _, h, _, _ => by cases h
  | _ :: _, _ :: _, [], _, h, _, _ => by cases h
  | (n, s) :: l, (n', t) :: m, (n'', u) :: k, h, h', h1, h2 => by
    simp only [List.map_cons, List.cons.injEq] at h h'
    unfold layLt at h1 h2 ⊢
    simp only [Bool.or_eq_false_iff, Bool.and_eq_false_iff, decide_eq_false_iff_not] at h1 h2 ⊢
    obtain ⟨a1, b1⟩ := h1
    obtain ⟨a2, b2⟩ := h2
    refine ⟨by omega, ?_⟩
    by_cases e : u = s
    · have e1 : t = s := by omega
      subst e1 e
      exact .inr (layLt_trans h.2 h'.2 (b1.resolve_left fun z => z rfl) (b2.resolve_left fun z => z rfl))
    · exact .inl e
def Nm (x y : Int × Lay) : Prop := x.2.map (·.1) = y.2.map (·.1)
theorem rankLt_irr (x : Int × Lay) : rankLt x x = false := by unfold rankLt; simp [layLt_irr]
theorem rankLt_asymm {x y : Int × Lay} (h : rankLt x y = true) : rankLt y x = false := by
  unfold rankLt at h ⊢
  simp only [Bool.or_eq_true, Bool.and_eq_true, decide_eq_true_eq] at h
  simp only [Bool.or_eq_false_iff, Bool.and_eq_false_iff, decide_eq_false_iff_not]
  rcases h with h | ⟨h1, h2⟩
  · exact ⟨by omega, .inl (by omega)⟩
  · exact ⟨by omega, .inr (layLt_asymm h2)⟩
theorem rankLt_trans {x y z : Int × Lay} (n1 : Nm x y) (n2 : Nm y z) (h1 : rankLt y x = false) (h2 : rankLt z y = false) : rankLt z x = false := by
  unfold rankLt at h1 h2 ⊢
  simp only [Bool.or_eq_false_iff, Bool.and_eq_false_iff, decide_eq_false_iff_not] at h1 h2 ⊢
  obtain ⟨a1, b1⟩ := h1
  obtain ⟨a2, b2⟩ := h2
  refine ⟨by omega, ?_⟩
  by_cases e : z.1 = x.1
  · exact .inr (layLt_trans n1 n2 (b1.resolve_left fun w => w (by omega)) (b2.resolve_left fun w => w (by omega)))
  · exact .inl e
theorem rankLt_ends {x y : Int × Lay} (h : rankLt y x = false) : x.1 ≤ y.1 := by
  unfold rankLt at h
  simp only [Bool.or_eq_false_iff, decide_eq_false_iff_not] at h
  omega
/-- put into a row behind all that are no worse -/
theorem row_put {α : Type} (lt : α → α → Bool) (P : α → Prop) (as : ∀ {x y : α}, lt x y = true → lt y x = false)
    (tr : ∀ {x y z : α}, P x → P y → P z → lt y x = false → lt z y = false → lt z x = false) {x : α} (px : P x) : ∀ {xs : List α}, (∀ y ∈ xs, P y) → xs.Pairwise (fun a b => lt b a = false) →
    (xs.take ((xs.filter fun y => !lt x y).length) ++ [x] ++ xs.drop ((xs.filter fun y => !lt x y).length)).Pairwise (fun a b => lt b a = false)
  | [], _, _ => by simp
  | y :: ys, hp, h => by
    have py := hp y (by simp)
    obtain ⟨h1, h2⟩ := List.pairwise_cons.mp h
    cases e : lt x y with
    | true =>
      have none : (y :: ys).filter (fun y => !lt x y) = [] := List.filter_eq_nil_iff.mpr fun z hz => by
        rcases List.mem_cons.mp hz with rfl | hz
        · simp [e]
        · have pz := hp z (by simp [hz])
          cases ez : lt x z with
          | true => simp
          | false =>
            have := tr py pz px (h1 z hz) ez
            rw [e] at this
            cases this
      rw [none]
      simp only [List.length_nil, List.take_zero, List.drop_zero, List.nil_append, List.singleton_append]
      refine List.pairwise_cons.mpr ⟨fun z hz => ?_, h⟩
      rcases List.mem_cons.mp hz with rfl | hz
      · exact as e
      · exact tr px py (hp z (by simp [hz])) (as e) (h1 z hz)
    | false =>
      have ih := row_put lt P as tr px (xs := ys) (fun z hz => hp z (by simp [hz])) h2
      rw [List.filter_cons_of_pos (by simp [e])]
      simp only [List.length_cons, List.take_succ_cons, List.drop_succ_cons, List.cons_append]
      refine List.pairwise_cons.mpr ⟨fun z hz => ?_, ih⟩
      rcases List.mem_append.mp hz with hz | hz
      · rcases List.mem_append.mp hz with hz | hz
        · exact h1 z (List.mem_of_mem_take hz)
        · rw [List.mem_singleton.mp hz]
          exact e
      · exact h1 z (List.mem_of_mem_drop hz)
section
variable {f g : Str → Int → Int}
theorem oneF_le (hf : ∀ n t t', t ≤ t' → f n t ≤ g n t') {m m' : Ms} {n : Str} {o : Od} (ht : m.time ≤ m'.time) : (oneF f m n o).2.time ≤ (oneF g m' n o).2.time := by
  have h1 := hf n _ _ ht
  cases o with
  | stop => show f n m.time + 1 ≤ g n m'.time + 1; omega
  | less a b => show f n m.time + 2 ≤ g n m'.time + 2; omega
  | wd k w b =>
    have h2 := hf w (f n m.time + 1) (g n m'.time + 1) (by omega)
    show f w (f n m.time + 1) + 1 + k.bt ≤ g w (g n m'.time + 1) + 1 + k.bt
    omega
theorem goF_le (hf : ∀ n t t', t ≤ t' → f n t ≤ g n t') : ∀ {j : Nat} {m m' : Ms}, Alike m m' → m.time ≤ m'.time → (goF f j m).2.time ≤ (goF g j m').2.time
  | 0, m, m', _, ht => ht
  | j + 1, m, m', a, ht => by
    unfold goF
    rw [← a.n]
    cases m.next with
    | none => exact ht
    | some n =>
      simp only
      rw [← a.c]
      cases m.cells.lookup n with
      | none => exact ht
      | some c =>
        cases c with
        | num _ => exact ht
        | ord o => exact goF_le hf (j := j) (oneF_alike (f := f) (g := g) (n := n) (o := o) a).1 (oneF_le hf ht)
end
theorem readT_more {sp : Int} {hd hd' : List Int} (d : Drum sp hd) (d' : Drum sp hd') (sub : ∀ x ∈ hd, x ∈ hd') (s t : Int) : readT sp hd' s t ≤ readT sp hd s t := by
  have F := read_first d.pos d.ne s t
  have F' := read_first d'.pos d'.ne s t
  refine Decidable.byContradiction fun z => ?_
  have := F'.no (readT sp hd s t) F.le (by omega)
  obtain ⟨x, hx, e⟩ := under_iff.mp F.yes
  rw [under_iff.mpr ⟨x, sub x hx, e⟩] at this
  cases this
theorem end_more {sp : Int} {hd hd' : List Int} {p : Prog} {l : Lay} {a : Str} {most : Int} (d : Drum sp hd) (d' : Drum sp hd') (sub : ∀ x ∈ hd, x ∈ hd') : endP sp hd' p l a most ≤ endP sp hd p l a most := by
  unfold endP
  rw [runP_F, runP_F]
  exact goF_le (f := readF sp hd' l) (g := readF sp hd l) (j := most.toNat) (fun n t t' h => Int.le_trans (readT_more d d' sub _ _) (readT_mono d _ h)) (m := ⟨p, 0, some a, 0⟩) (m' := ⟨p, 0, some a, 0⟩) ⟨rfl, rfl, rfl⟩ (Int.le_refl _)
theorem drum_more {sp : Int} {hd : List Int} (d : Drum sp hd) (few : hd.length < 3) {x : Int} (x0 : 0 ≤ x) (x1 : x < sp) (hx : x ∉ hd) : Drum sp (sortI (hd ++ [x])) ∧ ∀ y ∈ hd, y ∈ sortI (hd ++ [x]) := by
  have nd : (hd ++ [x]).Nodup := by
    rw [List.nodup_append]
    exact ⟨d.up.imp fun h => by omega, by simp, fun a ha b hb e => by rw [List.mem_singleton] at hb; subst hb; subst e; exact hx ha⟩
  have m : ∀ y, y ∈ sortI (hd ++ [x]) ↔ y ∈ hd ∨ y = x := fun y => by rw [(sortI_perm _).mem_iff]; simp
  refine ⟨⟨?_, ?_, ?_, sortI_strict nd⟩, fun y hy => (m y).mpr (.inl hy)⟩
  · intro e
    have := (m x).mpr (.inr rfl)
    rw [e] at this
    cases this
  · rw [(sortI_perm _).length_eq]
    simp
    omega
  · intro y hy
    rcases (m y).mp hy with h | rfl
    · exact d.lo y h
    · exact ⟨x0, x1⟩
theorem w_insert {Q : W → MH → Prop} {h : MH} {j : Nat} {ds : List D} {i : Int} {x : D} (e : h[j]? = some (.lst ds)) (hz : ds.length < sizeLine) (i0 : 0 ≤ i) (i1 : i < 2 ^ 63) (q : Q (.d .none) (h.set j (.lst (ds.take i.toNat ++ [x] ++ ds.drop i.toNat)))) : wp (oInsert (.ref j) [.d (.int i), .d x] h) Q := by
  refine w_of (x := .d .none) (h := h.set j (.lst (ds.take i.toNat ++ [x] ++ ds.drop i.toNat))) ?_ q
  unfold oInsert
  simp only [e]
  exact if_pos (And.intro hz (And.intro i0 i1))
end Dw
/-! turned layings -/
namespace Dw
open PySem PySem.Spec PyProof.Rows L2
section
variable {sp : Int} {p : Prog} {l : Lay}
theorem turn_add (l : Lay) (a b : Int) : turnL sp (turnL sp l a) b = turnL sp l (a + b) := by
  unfold turnL
  rw [List.map_map]
  refine List.map_congr_left fun x _ => ?_
  show (x.1, ((x.2 + a) % sp + b) % sp) = (x.1, (x.2 + (a + b)) % sp)
  rw [Int.emod_add_emod, Int.add_assoc]
theorem turn_none (h : ∀ x ∈ l, 0 ≤ x.2 ∧ x.2 < sp) : turnL sp l 0 = l := by
  unfold turnL
  conv => rhs; rw [← List.map_id l]
  refine List.map_congr_left fun x hx => ?_
  obtain ⟨h1, h2⟩ := h x hx
  show (x.1, (x.2 + 0) % sp) = x
  rw [Int.add_zero, Int.emod_eq_of_lt h1 h2]
theorem turn_whole (h : ∀ x ∈ l, 0 ≤ x.2 ∧ x.2 < sp) : turnL sp l sp = l := by
  conv => rhs; rw [← turn_none h]
  unfold turnL
  refine List.map_congr_left fun x hx => ?_
  show (x.1, (x.2 + sp) % sp) = (x.1, (x.2 + 0) % sp)
  rw [Int.add_emod_right, Int.add_zero]
theorem turn_back (h : ∀ x ∈ l, 0 ≤ x.2 ∧ x.2 < sp) (a : Int) : turnL sp (turnL sp l a) (0 - a) = l := by
  rw [turn_add, show a + (0 - a) = 0 by omega, turn_none h]
theorem turn_look {n : Str} {b : Int} : (turnL sp l b).lookup n = (l.lookup n).map fun s => (s + b) % sp := by
  unfold turnL
  induction l with
  | nil => rfl
  | cons x l ih =>
    obtain ⟨a, c⟩ := x
    rw [List.map_cons]
    by_cases hn : n = a
    · subst hn
      simp [List.lookup]
    · simp only [List.lookup, beq_eq_false_iff_ne.mpr hn]
      exact ih
end
section
variable {f g : Str → Int → Int}
/-- what is read alike goes alike -/
theorem goF_congr : ∀ {j : Nat} {m : Ms}, MsOk m → (∀ n ∈ namesP m.cells, ∀ t, f n t = g n t) → goF f j m = goF g j m
  | 0, m, _, _ => rfl
  | j + 1, m, h, e => by
    cases en : m.next with
    | none => rw [goF_nil en, goF_nil en]
    | some n =>
      obtain ⟨o, eo⟩ := h.nx n en
      have hn := name_mem eo
      have e1 : oneF f m n o = oneF g m n o := by
        cases o with
        | stop => unfold oneF; rw [e n hn]
        | less c d => unfold oneF; rw [e n hn]
        | wd k w c =>
          have hw : w ∈ namesP m.cells := by
            obtain ⟨i, ei⟩ := (h.pr.od n _ eo).1
            exact name_mem ei
          unfold oneF
          simp only
          rw [e n hn, e w hw]
      have hk := oneF_ok (f := g) h eo
      rw [goF_cons en eo, goF_cons en eo, e1, goF_congr hk fun x hx t => e x ?_ t]
      have := goF_names (f := g) (j := 1) h
      rw [goF_cons en eo] at this
      have this : namesP (oneF g m n o).2.cells = namesP m.cells := this
      rw [← this]
      exact hx
theorem oneF_later2 {b : Int} {m : Ms} {n : Str} {o : Od} (hf : ∀ n t, g n (t + b) = f n t + b) : oneF g (laterM b m) n o = (laterS b (oneF f m n o).1, laterM b (oneF f m n o).2) := by
  cases o with
  | stop => unfold oneF laterM laterS; simp only [hf, Option.map_none]; congr 2; omega
  | less c d => unfold oneF laterM laterS; simp only [hf, Option.map_none]; congr 2; omega
  | wd k w c =>
    have e : g n (m.time + b) + 1 = (f n m.time + 1) + b := by rw [hf]; omega
    unfold oneF laterM laterS
    simp only [hf, Option.map_some, e]
    rw [show f n m.time + b + 1 = (f n m.time + 1) + b by omega, hf]
    refine Prod.ext rfl ?_
    cases k <;> (unfold doneM; simp only; congr 1; omega)
theorem goF_later2 {b : Int} (hf : ∀ n t, g n (t + b) = f n t + b) : ∀ {j : Nat} {m : Ms}, goF g j (laterM b m) = ((goF f j m).1.map (laterS b), laterM b (goF f j m).2)
  | 0, m => rfl
  | j + 1, m => by
    unfold goF
    show (match m.next with
      | none => _
      | some n => _) = _
    cases m.next with
    | none => rfl
    | some n =>
      simp only
      show (match m.cells.lookup n with
        | some (.ord o) => _
        | _ => _) = _
      cases m.cells.lookup n with
      | none => rfl
      | some c =>
        cases c with
        | num _ => rfl
        | ord o =>
          simp only
          rw [oneF_later2 hf]
          simp only
          rw [goF_later2 hf]
          rfl
end
section
variable {sp : Int} {hd : List Int} {p : Prog} {l : Lay} {a : Str}
theorem lay_some (hl : LayOk sp p l) {n : Str} (hn : n ∈ namesP p) : ∃ s, l.lookup n = some s := by
  rw [← hl.nm] at hn
  exact lookup_some hn
theorem spot_turn (hl : LayOk sp p l) {n : Str} (hn : n ∈ namesP p) (b : Int) : spotL (turnL sp l b) n = (spotL l n + b) % sp := by
  obtain ⟨s, e⟩ := lay_some hl hn
  unfold spotL
  rw [turn_look, e]
  rfl
/-- turned, and begun so much later -/
theorem go_turn_later (d : Drum sp hd) (hp : PrOk p) (hl : LayOk sp p l) (ha : IsOrd p a) (b t : Int) (j : Nat) :
    goF (readF sp hd (turnL sp l b)) j ⟨p, 0, some a, t + b⟩ = ((goF (readF sp hd l) j ⟨p, 0, some a, t⟩).1.map (laterS b), laterM b (goF (readF sp hd l) j ⟨p, 0, some a, t⟩).2) := by
  rw [goF_congr (g := fun n t => readT sp hd ((spotL l n + b) % sp) t) (start_ok hp ha) fun n hn t => by
    show readT sp hd (spotL (turnL sp l b) n) t = _
    rw [spot_turn hl hn]]
  exact goF_later2 (f := readF sp hd l) (g := fun n t => readT sp hd ((spotL l n + b) % sp) t) (m := ⟨p, 0, some a, t⟩) fun n t => read_later d b _ t
/-- turned with the heads -/
theorem go_turn_heads (d : Drum sp hd) (hp : PrOk p) (hl : LayOk sp p l) (ha : IsOrd p a) (b t : Int) (j : Nat) :
    goF (readF sp (sortI (hd.map fun x => (x + b) % sp)) (turnL sp l b)) j ⟨p, 0, some a, t⟩ = goF (readF sp hd l) j ⟨p, 0, some a, t⟩ :=
  goF_congr (start_ok hp ha) fun n hn t => by
    show readT sp _ (spotL (turnL sp l b) n) t = readT sp hd (spotL l n) t
    rw [spot_turn hl hn]
    exact read_turned d b _ t
end
end Dw
/-! the free spots -/
namespace Dw
open PySem PySem.Spec PyProof.Rows L2
/-- a walk stops here -/
structure Stop (p : Prop) : Prop where
  out : p
def rangeI (sp : Int) : List Int := (List.range sp.toNat).map fun (i : Nat) => (i : Int)
section
variable {sp : Int} {p : Prog} {l : Lay} {x : Int}
theorem mem_rangeI : x ∈ rangeI sp ↔ 0 ≤ x ∧ x < sp := by
  constructor
  · intro h
    obtain ⟨i, hi, rfl⟩ := List.mem_map.mp h
    have := List.mem_range.mp hi
    omega
  · intro h
    exact List.mem_map.mpr ⟨x.toNat, List.mem_range.mpr (by omega), by omega⟩
theorem rangeI_lt : (rangeI sp).Pairwise (· < ·) := List.pairwise_map.mpr (List.pairwise_lt_range.imp fun h => by omega)
theorem rangeI_nd : (rangeI sp).Nodup := rangeI_lt.imp fun h => by omega
theorem rangeI_len (h : 0 ≤ sp) : ((rangeI sp).length : Int) = sp := by
  unfold rangeI
  simp
  omega
theorem free_is : freeL sp l = (rangeI sp).filter fun s => !decide (s ∈ spotsL l) := rfl
theorem mem_free : x ∈ freeL sp l ↔ (0 ≤ x ∧ x < sp) ∧ x ∉ spotsL l := by
  rw [free_is, List.mem_filter, mem_rangeI]
  simp
theorem free_lt : (freeL sp l).Pairwise (· < ·) := by rw [free_is]; exact rangeI_lt.filter _
theorem free_up : (freeL sp l).Pairwise (· ≤ ·) := free_lt.imp fun h => by omega
theorem free_perm (rg : ∀ x ∈ l, 0 ≤ x.2 ∧ x.2 < sp) (nd : (l.map (·.2)).Nodup) : (spotsL l ++ freeL sp l).Perm (rangeI sp) := by
  refine (List.perm_ext_iff_of_nodup ?_ rangeI_nd).mpr fun a => ?_
  · refine List.nodup_append.mpr ⟨nd, free_lt.imp fun h => by omega, fun a ha b hb e => ?_⟩
    subst e
    exact (mem_free.mp hb).2 ha
  · rw [List.mem_append, mem_free, mem_rangeI]
    constructor
    · rintro (h | h)
      · obtain ⟨y, hy, rfl⟩ := List.mem_map.mp h
        exact rg y hy
      · exact h.1
    · intro h
      by_cases hm : a ∈ spotsL l
      · exact .inl hm
      · exact .inr ⟨h, hm⟩
theorem free_len (h0 : 0 ≤ sp) (rg : ∀ x ∈ l, 0 ≤ x.2 ∧ x.2 < sp) (nd : (l.map (·.2)).Nodup) : ((freeL sp l).length : Int) = sp - l.length := by
  have := (free_perm rg nd).length_eq
  rw [List.length_append] at this
  have e2 := rangeI_len h0
  have e3 : (spotsL l).length = l.length := by unfold spotsL; simp
  omega
theorem low_names {ns : List Str} : (lowL ns).map (·.1) = ns := by
  unfold lowL
  rw [List.map_map]
  refine List.ext_getElem? fun i => ?_
  rw [List.getElem?_map]
  by_cases h : i < ns.length
  · rw [List.getElem?_range h, List.getElem?_eq_getElem h]
    show some (ns.getD i Str.empty) = _
    rw [List.getD_eq_getElem?_getD, List.getElem?_eq_getElem h]
    rfl
  · rw [List.getElem?_eq_none (by simpa using h), List.getElem?_eq_none (by omega)]
    rfl
theorem low_spots {ns : List Str} : (lowL ns).map (·.2) = rangeI (ns.length : Int) := by
  unfold lowL rangeI
  rw [List.map_map, Int.toNat_natCast]
  rfl
theorem low_lay (h : (p.length : Int) ≤ sp) : LayOk sp p (lowL (namesP p)) := by
  refine ⟨low_names, fun x hx => ?_, by rw [low_spots]; exact rangeI_nd⟩
  have : x.2 ∈ (lowL (namesP p)).map (·.2) := List.mem_map.mpr ⟨x, hx, rfl⟩
  rw [low_spots, mem_rangeI] at this
  have e : (namesP p).length = p.length := by unfold namesP; simp
  omega
/-- whether rows of a program's names are a laying -/
theorem lay_iff {m : Lay} (nm : m.map (·.1) = namesP p) (rg : ∀ x ∈ m, 0 ≤ x.2 ∧ x.2 < sp) : isLayB sp (namesP p) (layD m) = decide (m.map (·.2)).Nodup := by
  show (match spotsOf sp (namesP p) (m.map spotD) with
    | some ss => decide ss.Nodup
    | none => false) = _
  rw [← nm, spotsOf_lay rg]
theorem lay_short {es : List D} (h : es.length ≠ (namesP p).length) : isLayB sp (namesP p) (.tuple es) = false := by
  show (match spotsOf sp (namesP p) es with
    | some ss => decide ss.Nodup
    | none => false) = _
  cases e : spotsOf sp (namesP p) es with
  | none => rfl
  | some ss => exact absurd (spotsOf_len e).1 h
end
section
variable {ρ : ME} {h : MH} {Q : W → MH → Prop}
theorem w_lstRg1 {m : M} (q : wp (m ρ h) fun w h1 => ∃ n : Int, w = .d (.int n) ∧ (0 ≤ n ∧ n ≤ 100000) ∧ Q (.d (.list (iD (rangeI n)))) h1) : wp (mLstRg1 m ρ h) Q := by
  unfold mLstRg1
  rw [wp_bind]
  refine wp_mono q fun w h1 ⟨n, e, l, q⟩ => ?_
  subst e
  simp only
  rw [if_pos l, wp_ok]
  have : (List.range n.toNat).map (fun (i : Nat) => PyData.int (i : Int)) = iD (rangeI n) := by unfold rangeI iD; rw [List.map_map]; rfl
  rw [this]
  exact q
end
end Dw
/-! runs, order by order -/
namespace Dw
open PySem PySem.Spec PyProof.Rows L2
section
variable {f : Str → Int → Int} {m : Ms} {j : Nat}
theorem goF_snoc (h : MsOk m) {n : Str} {o : Od} (en : (goF f j m).2.next = some n) (eo : (goF f j m).2.cells.lookup n = some (.ord o)) :
    goF f (j + 1) m = ((goF f j m).1 ++ [(oneF f (goF f j m).2 n o).1], (oneF f (goF f j m).2 n o).2) := by
  rcases goF_succ (f := f) (j := j) h with ⟨h1, _⟩ | ⟨n', o', h1, h2, _, h4⟩
  · rw [en] at h1; cases h1
  · rw [en] at h1
    cases h1
    rw [eo] at h2
    cases h2
    exact h4
/-- over: more orders change nothing -/
theorem goF_over (e : (goF f j m).2.next = none) (h : MsOk m) : ∀ k, goF f (j + k) m = goF f j m
  | 0 => rfl
  | k + 1 => by
    have ih := goF_over e h k
    rcases goF_succ (f := f) (j := j + k) h with ⟨_, h2⟩ | ⟨n, o, h1, _⟩
    · rw [← Nat.add_assoc, h2, ih]
    · rw [ih, e] at h1; cases h1
/-- fewer orders: the beginning -/
theorem goF_take (h : MsOk m) : ∀ k, (goF f j m).1 = (goF f (j + k) m).1.take j
  | 0 => by rw [Nat.add_zero, List.take_of_length_le goF_len]
  | k + 1 => by
    have ih := goF_take h k
    rcases goF_succ (f := f) (j := j + k) h with ⟨_, h2⟩ | ⟨n, o, _, _, h3, h4⟩
    · rw [← Nat.add_assoc, h2, ih]
    · rw [← Nat.add_assoc, h4]
      show _ = List.take j ((goF f (j + k) m).1 ++ _)
      rw [List.take_append_of_le_length (by omega), ih]
theorem goF_full (h : MsOk m) (e : (goF f j m).2.next ≠ none) : (goF f j m).1.length = j := by
  induction j with
  | zero => rfl
  | succ j ih =>
    rcases goF_succ (f := f) (j := j) h with ⟨h1, h2⟩ | ⟨n, o, h1, _, h3, h4⟩
    · rw [h2] at e; exact absurd h1 e
    · rw [h4]; simp [h3]
end
/-- behind j orders: the names of these, cells, what is held, what is next, the beats of work -/
structure At (f : Str → Int → Int) (m : Ms) (j : Nat) (ns : List Str) (c : Prog) (v : Int) (nx : Option Str) (w : Int) : Prop where
  ok : MsOk m
  names : (goF f j m).1.map (·.1) = ns
  cells : (goF f j m).2.cells = c
  held : (goF f j m).2.held = v
  next : (goF f j m).2.next = nx
  time : (∀ n t, f n t = t) → (goF f j m).2.time = m.time + w
section
variable {f : Str → Int → Int} {m : Ms} {j : Nat} {ns : List Str} {c : Prog} {v w : Int} {n x a b : Str} {nx : Option Str}
theorem At.zero (ok : MsOk m) : At f m 0 [] m.cells m.held m.next 0 := ⟨ok, rfl, rfl, rfl, rfl, fun _ => by show m.time = _; omega⟩
theorem At.len (h : At f m j ns c v nx w) : ns.length ≤ j := by
  have := congrArg List.length h.names
  rw [List.length_map] at this
  have := goF_len (f := f) (j := j) (m := m)
  omega
theorem At.step (h : At f m j ns c v (some n) w) {o : Od} (e : c.lookup n = some (.ord o)) :
    goF f (j + 1) m = ((goF f j m).1 ++ [(oneF f (goF f j m).2 n o).1], (oneF f (goF f j m).2 n o).2) := goF_snoc h.ok h.next (by rw [h.cells]; exact e)
theorem At.wd {k : Wk} (h : At f m j ns c v (some n) w) (e : c.lookup n = some (.ord (.wd k x b))) :
    At f m (j + 1) (ns ++ [n]) (match k with | .save => setP c x (.num v) | _ => c) (match k with | .put => numOf c x | .add => capd (v + numOf c x) | .sub => capd (v - numOf c x) | .save => v) (some b) (w + 2 + k.bt) := by
  have st := h.step e
  refine ⟨h.ok, ?_, ?_, ?_, ?_, fun hf => ?_⟩
  · rw [st, List.map_append, h.names]; rfl
  · rw [st]
    cases k <;> simp only [oneF, doneM, h.cells, h.held]
  · rw [st]
    cases k <;> simp only [oneF, doneM, h.cells, h.held]
  · rw [st]; rfl
  · rw [st]
    have := h.time hf
    show f x (f n (goF f j m).2.time + 1) + 1 + k.bt = _
    rw [hf, hf]
    omega
theorem At.less (h : At f m j ns c v (some n) w) (e : c.lookup n = some (.ord (.less a b))) : At f m (j + 1) (ns ++ [n]) c v (some (if 0 ≤ v then b else a)) (w + 2) := by
  have st := h.step e
  refine ⟨h.ok, ?_, ?_, ?_, ?_, fun hf => ?_⟩
  · rw [st, List.map_append, h.names]; rfl
  · rw [st]; exact h.cells
  · rw [st]; exact h.held
  · rw [st]
    show some (if 0 ≤ (goF f j m).2.held then b else a) = _
    rw [h.held]
  · rw [st]
    have := h.time hf
    show f n (goF f j m).2.time + 2 = _
    rw [hf]
    omega
theorem At.stop (h : At f m j ns c v (some n) w) (e : c.lookup n = some (.ord .stop)) : At f m (j + 1) (ns ++ [n]) c v none (w + 1) := by
  have st := h.step e
  refine ⟨h.ok, ?_, ?_, ?_, ?_, fun hf => ?_⟩
  · rw [st, List.map_append, h.names]; rfl
  · rw [st]; exact h.cells
  · rw [st]; exact h.held
  · rw [st]; rfl
  · rw [st]
    have := h.time hf
    show f n (goF f j m).2.time + 1 = _
    rw [hf]
    omega
theorem At.more (h : At f m j ns c v none w) (k : Nat) : At f m (j + k) ns c v none w := by
  have e := goF_over h.next h.ok k
  exact ⟨h.ok, by rw [e]; exact h.names, by rw [e]; exact h.cells, by rw [e]; exact h.held, by rw [e]; exact h.next, by rw [e]; exact h.time⟩
/-- fewer orders -/
theorem At.names_take (h : At f m j ns c v nx w) {i : Nat} (hi : i ≤ j) : (goF f i m).1.map (·.1) = ns.take i := by
  obtain ⟨k, rfl⟩ := Nat.le.dest hi
  rw [goF_take h.ok k, ← h.names, List.map_take]
end
end Dw
/-! k32: steps -/
namespace Dw
open PySem PySem.Spec PyProof.Rows L2
local macro_rules | `(tactic| walk_at "dw") => `(tactic| (repeat (first
  | ((with_reducible refine' w_var ?e ?_); (case e => rfl))
  | with_reducible refine w_c ?_
  | with_reducible refine s_seq ?_
  | with_reducible refine s_set ?_
  | with_reducible refine w_op2 ?_
  | with_reducible refine w_add ?_
  | with_reducible refine w_sub ?_
  | with_reducible refine w_eq ?_
  | with_reducible refine w_ne ?_
  | with_reducible refine w_lt ?_
  | with_reducible refine w_gt ?_
  | with_reducible refine w_le ?_
  | with_reducible refine w_ge ?_
  | with_reducible refine w_eqb ?_
  | with_reducible refine w_neb ?_
  | with_reducible refine w_cons ?_
  | with_reducible refine w_eqs ?_
  | with_reducible refine w_nes ?_
  | with_reducible refine w_isIn ?_
  | with_reducible refine w_isN ?_
  | with_reducible refine w_isNotN ?_
  | with_reducible refine w_nil ?_
  | with_reducible refine w_call ?_
  | with_reducible refine w_calW ?_
  | with_reducible refine w_cal ?_
  | with_reducible refine w_ix ?_
  | with_reducible refine w_sl ?_
  | with_reducible refine w_pn ?_
  | with_reducible refine w_rev ?_
  | with_reducible refine w_ps ?_
  | with_reducible refine w_chain ?_
  | with_reducible refine w_tup ?_
  | with_reducible refine w_lst ?_
  | with_reducible refine w_lstR ?_
  | with_reducible refine w_dict ?_
  | with_reducible refine w_isa ?_
  | with_reducible refine w_itR1 ?_
  | with_reducible refine w_itS ?_
  | ((with_reducible refine' w_ixt0 ?e ?_); (case e => rfl))
  | ((with_reducible refine' w_ixl0 ?e ?_); (case e => rfl))
  | ((with_reducible refine' w_ixt ?e ?_); (case e => rfl))
  | ((with_reducible refine' w_ixl ?e ?_); (case e => rfl))
  | with_reducible refine w_itR2 ?_
  | with_reducible refine w_itZ ?_
  | with_reducible refine w_itE ?_
  | with_reducible refine w_lc ?_
  | with_reducible refine w_lcR ?_
  | with_reducible refine w_lstRg1R ?_
  | with_reducible refine s_par ?_
  | with_reducible refine s_par3 ?_
  | with_reducible refine s_asg ?_
  | with_reducible refine s_put ?_
  | with_reducible refine s_for ?_
  | with_reducible refine s_if ?_
  | with_reducible refine w_test ?_
  | with_reducible refine w_andT ?_
  | with_reducible refine w_orT ?_
  | with_reducible refine w_notT ?_
  | with_reducible refine w_ifE ?_
  | with_reducible refine w_andV ?_
  | with_reducible refine w_orV ?_
  | with_reducible refine w_notV ?_
  | with_reducible refine w_neg ?_
  | with_reducible refine s_ret ?_
  | with_reducible refine s_retN ?_
  | with_reducible refine s_skip ?_
  | with_reducible refine s_brk ?_
  | with_reducible refine s_cnt ?_
  | with_reducible refine s_expr ?_
  | with_reducible refine w_met ?_
  | with_reducible refine wp_ok.mpr ?_
  | with_reducible refine wps_rt.mpr ?_
  | with_reducible refine wps_nx.mpr ?_
  | with_reducible refine ite_t ?_
  | with_reducible refine ite_f ?_
  | ((with_reducible refine' w_mod ?e ?_); (case e => first | assumption | omega))
  | ((with_reducible refine' w_div ?e ?_); (case e => omega))
  | ((with_reducible refine' w_mul ?e ?_); (case e => omega))
  | ((with_reducible refine' Exists.intro _ (And.intro ?e ?_)); (case e => rfl))
  | ((with_reducible refine' Exists.intro _ (Exists.intro _ (And.intro ?e ?_))); (case e => rfl))
  | ((with_reducible refine' Exists.intro _ (Exists.intro _ (Exists.intro _ (And.intro ?e ?_)))); (case e => rfl))
  | ((with_reducible refine' ite_yes ?e ?_); (case e => rfl))
  | ((with_reducible refine' ite_no ?e ?_); (case e => rfl))
  | ((with_reducible refine And.intro ?e ?_); (case e => first | rfl | exact small_len _ (Nat.le_of_ble_eq_true rfl))))))

def kA (up : Bool) : Wk := if up then .add else .sub
def kB (up : Bool) : Wk := if up then .sub else .add
def sg (up : Bool) (x : Int) : Int := if up then x else 0 - x
def P32 (up : Bool) (num s : Int) : Prog := [("a", .ord (.wd .put "z" "b")), ("b", .ord (.wd (kA up) "y" "c")), ("c", .ord (.wd (kA up) "y" "d")), ("d", .ord (.wd .save "z" "e")), ("e", .ord (.wd (kA up) "z" "f")), ("f", .ord (.wd (kB up) "y" "b")), ("y", .num num), ("z", .num s)]
def L32 : Lay := [("a", 0), ("b", 1), ("c", 2), ("d", 3), ("e", 4), ("f", 5), ("y", 6), ("z", 7)]
def six : List Str := [("a" : Str), "b", "c", "d", "e", "f"]
section
variable {up : Bool} {num s v : Int} {j : Nat} {n : Str}
theorem p32_ok : PrOk (P32 up num s) := prOkB_is (by cases up <;> kernel_rfl)
theorem p32_a : IsOrd (P32 up num s) "a" := ⟨.wd .put "z" "b", by kernel_rfl⟩
theorem words32 : wordsOf (P32 up num s) = ([("y", num), ("z", s)] : Lay) := by cases up <;> kernel_rfl
theorem l32_ok : LayOk 10 (P32 up num s) L32 := ⟨by cases up <;> kernel_rfl, by unfold L32; simp, by unfold L32; decide⟩
theorem d32_ok : Drum 10 [0, 3, 6] := ⟨by decide, by decide, by decide, by decide⟩
def St (up : Bool) (num : Int) (j : Nat) (v s : Int) (n : Str) : Prop := ∃ ns w, At (readF 10 [0, 3, 6] L32) ⟨P32 up num 0, 0, some "a", 0⟩ j ns (P32 up num s) v (some n) w
theorem St.zero : St up num 0 0 0 "a" := ⟨_, _, At.zero (start_ok p32_ok p32_a)⟩
theorem St.at_a (h : St up num j v s "a") : St up num (j + 1) (s) s "b" := by
  obtain ⟨ns, w, h⟩ := h
  cases up with
  | true =>
    have h2 := h.wd (k := .put) (x := "z") (b := "b") (by kernel_rfl)
    have e1 : numOf (P32 true num s) "z" = s := by kernel_rfl
    simp only [e1] at h2
    exact ⟨_, _, h2⟩
  | false =>
    have h2 := h.wd (k := .put) (x := "z") (b := "b") (by kernel_rfl)
    have e1 : numOf (P32 false num s) "z" = s := by kernel_rfl
    simp only [e1] at h2
    exact ⟨_, _, h2⟩
theorem St.at_b (h : St up num j v s "b") : St up num (j + 1) (capd (v + sg up num)) s "c" := by
  obtain ⟨ns, w, h⟩ := h
  cases up with
  | true =>
    have h2 := h.wd (k := .add) (x := "y") (b := "c") (by kernel_rfl)
    have e1 : numOf (P32 true num s) "y" = num := by kernel_rfl
    simp only [e1] at h2
    exact ⟨_, _, h2⟩
  | false =>
    have h2 := h.wd (k := .sub) (x := "y") (b := "c") (by kernel_rfl)
    have e1 : numOf (P32 false num s) "y" = num := by kernel_rfl
    simp only [e1] at h2
    have e2 : capd (v + sg false num) = capd (v - num) := by unfold sg; congr 1 <;> simp <;> omega
    rw [e2]
    exact ⟨_, _, h2⟩
theorem St.at_c (h : St up num j v s "c") : St up num (j + 1) (capd (v + sg up num)) s "d" := by
  obtain ⟨ns, w, h⟩ := h
  cases up with
  | true =>
    have h2 := h.wd (k := .add) (x := "y") (b := "d") (by kernel_rfl)
    have e1 : numOf (P32 true num s) "y" = num := by kernel_rfl
    simp only [e1] at h2
    exact ⟨_, _, h2⟩
  | false =>
    have h2 := h.wd (k := .sub) (x := "y") (b := "d") (by kernel_rfl)
    have e1 : numOf (P32 false num s) "y" = num := by kernel_rfl
    simp only [e1] at h2
    have e2 : capd (v + sg false num) = capd (v - num) := by unfold sg; congr 1 <;> simp <;> omega
    rw [e2]
    exact ⟨_, _, h2⟩
theorem St.at_d (h : St up num j v s "d") : St up num (j + 1) (v) v "e" := by
  obtain ⟨ns, w, h⟩ := h
  cases up with
  | true =>
    have h2 := h.wd (k := .save) (x := "z") (b := "e") (by kernel_rfl)
    have e1 : setP (P32 true num s) "z" (.num v) = P32 true num v := by kernel_rfl
    simp only [e1] at h2
    exact ⟨_, _, h2⟩
  | false =>
    have h2 := h.wd (k := .save) (x := "z") (b := "e") (by kernel_rfl)
    have e1 : setP (P32 false num s) "z" (.num v) = P32 false num v := by kernel_rfl
    simp only [e1] at h2
    exact ⟨_, _, h2⟩
theorem St.at_e (h : St up num j v s "e") : St up num (j + 1) (capd (v + sg up s)) s "f" := by
  obtain ⟨ns, w, h⟩ := h
  cases up with
  | true =>
    have h2 := h.wd (k := .add) (x := "z") (b := "f") (by kernel_rfl)
    have e1 : numOf (P32 true num s) "z" = s := by kernel_rfl
    simp only [e1] at h2
    exact ⟨_, _, h2⟩
  | false =>
    have h2 := h.wd (k := .sub) (x := "z") (b := "f") (by kernel_rfl)
    have e1 : numOf (P32 false num s) "z" = s := by kernel_rfl
    simp only [e1] at h2
    have e2 : capd (v + sg false s) = capd (v - s) := by unfold sg; congr 1 <;> simp <;> omega
    rw [e2]
    exact ⟨_, _, h2⟩
theorem St.at_f (h : St up num j v s "f") : St up num (j + 1) (capd (v - sg up num)) s "b" := by
  obtain ⟨ns, w, h⟩ := h
  cases up with
  | true =>
    have h2 := h.wd (k := .sub) (x := "y") (b := "b") (by kernel_rfl)
    have e1 : numOf (P32 true num s) "y" = num := by kernel_rfl
    simp only [e1] at h2
    exact ⟨_, _, h2⟩
  | false =>
    have h2 := h.wd (k := .add) (x := "y") (b := "b") (by kernel_rfl)
    have e1 : numOf (P32 false num s) "y" = num := by kernel_rfl
    simp only [e1] at h2
    have e2 : capd (v - sg false num) = capd (v + num) := by unfold sg; congr 1 <;> simp <;> omega
    rw [e2]
    exact ⟨_, _, h2⟩
theorem St.held {most : Int} (h : St up num most.toNat v s n) : (runP 10 [0, 3, 6] (P32 up num 0) L32 "a" 0 most).2.held = v := by
  obtain ⟨ns, w, h⟩ := h
  rw [runP_F]
  exact h.held
theorem St.cells {most : Int} (h : St up num most.toNat v s n) : (runP 10 [0, 3, 6] (P32 up num 0) L32 "a" 0 most).2.cells = P32 up num s := by
  obtain ⟨ns, w, h⟩ := h
  rw [runP_F]
  exact h.cells
theorem sg_is {x : Int} : (if up = true then x else 0 - x) = sg up x := rfl
def Q32 (k : Wk) : Prog := [("a", .ord (.wd k "y" "a")), ("y", .num 99)]
theorem q32_ok {k : Wk} : PrOk (Q32 k) := prOkB_is (by cases k <;> kernel_rfl)
theorem q32_a {k : Wk} : IsOrd (Q32 k) "a" := ⟨.wd k "y" "a", by kernel_rfl⟩
theorem q32_l {k : Wk} : LayOk 4 (Q32 k) [("a", 0), ("y", 1)] := ⟨by kernel_rfl, by simp, by decide⟩
theorem q32_add {f : Str → Int → Int} : ∀ j : Nat, ∃ ns w, At f ⟨Q32 .add, 0, some "a", 0⟩ j ns (Q32 .add) (if 99 * (j : Int) < 9999 then 99 * (j : Int) else 9999) (some "a") w
  | 0 => ⟨_, _, At.zero (start_ok q32_ok q32_a)⟩
  | j + 1 => by
    obtain ⟨ns, w, h⟩ := q32_add (f := f) j
    have h2 := h.wd (k := .add) (x := "y") (b := "a") (by kernel_rfl)
    have e1 : numOf (Q32 .add) "y" = 99 := by kernel_rfl
    simp only [e1] at h2
    have e2 : capd ((if 99 * (j : Int) < 9999 then 99 * (j : Int) else 9999) + 99) = if 99 * ((j + 1 : Nat) : Int) < 9999 then 99 * ((j + 1 : Nat) : Int) else 9999 := by unfold capd; repeat' split <;> omega
    rw [e2] at h2
    exact ⟨_, _, h2⟩
theorem q32_sub {f : Str → Int → Int} : ∀ j : Nat, ∃ ns w, At f ⟨Q32 .sub, 0, some "a", 0⟩ j ns (Q32 .sub) (if -9999 < -99 * (j : Int) then -99 * (j : Int) else -9999) (some "a") w
  | 0 => ⟨_, _, At.zero (start_ok q32_ok q32_a)⟩
  | j + 1 => by
    obtain ⟨ns, w, h⟩ := q32_sub (f := f) j
    have h2 := h.wd (k := .sub) (x := "y") (b := "a") (by kernel_rfl)
    have e1 : numOf (Q32 .sub) "y" = 99 := by kernel_rfl
    simp only [e1] at h2
    have e2 : capd ((if -9999 < -99 * (j : Int) then -99 * (j : Int) else -9999) - 99) = if -9999 < -99 * ((j + 1 : Nat) : Int) then -99 * ((j + 1 : Nat) : Int) else -9999 := by unfold capd; repeat' split <;> omega
    rw [e2] at h2
    exact ⟨_, _, h2⟩
theorem lheld32_ok {h : MH} {x : Int} : m__law_held [.d (.int x)] h = .ok (.d (.int (capd x))) h := wp_congr_of <| by
  refine wp_fn ?_
  unfold b__law_held
  walk_at "dw"
  rw [retW_same, wp_ok]
  exact ⟨rfl, rfl⟩
theorem w_inBc {Q : W → MH → Prop} {h : MH} {b : Bool} (e : fIn (.str n) (.str "bc") = some (.bool b)) (q : Q (.d (.bool b)) h) : wp (inW fIn id (.d (.str n)) (.d (.str "bc")) h) Q := w_op2d e q
theorem in_bc : ∀ n ∈ six, fIn (.str n) (.str "bc") = some (.bool (decide (n = "b") || decide (n = "c"))) := fun n hn => by
  simp only [six, List.mem_cons, List.not_mem_nil, or_false] at hn
  rcases hn with rfl | rfl | rfl | rfl | rfl | rfl <;> kernel_rfl
def nextT : List (Str × Str) := [(("a" : Str), ("b" : Str)), ("b", "c"), ("c", "d"), ("d", "e"), ("e", "f"), ("f", "b")]
theorem disp32 {ρ : ME} {h : MH} : mDisp [(mC (.str "a"), mC (.str "b")), (mC (.str "b"), mC (.str "c")), (mC (.str "c"), mC (.str "d")), (mC (.str "d"), mC (.str "e")), (mC (.str "e"), mC (.str "f")), (mC (.str "f"), mC (.str "b"))] ρ h = .ok (.ref h.length) (h ++ [.dk (kvG PyData.str nextT)]) := by
  have e1 : evPs [(mC (.str "a"), mC (.str "b")), (mC (.str "b"), mC (.str "c")), (mC (.str "c"), mC (.str "d")), (mC (.str "d"), mC (.str "e")), (mC (.str "e"), mC (.str "f")), (mC (.str "f"), mC (.str "b"))] ρ (h ++ [.dk []]) = .ok (nextT.map fun x => (.d (.str x.1), .d (.str x.2))) (h ++ [.dk []]) := rfl
  have e2 : (h ++ [MO.dk []])[h.length]? = some (.dk []) := by rw [List.getElem?_append_right (Nat.le_refl _)]; simp
  have e3 : pairsW (nextT.map fun x => (W.d (.str x.1), W.d (.str x.2))) = some (kvG PyData.str nextT) := rfl
  unfold mDisp
  rw [e1]
  show (match (h ++ [MO.dk []])[h.length]?, pairsW (nextT.map fun x => (W.d (.str x.1), W.d (.str x.2))) with
    | some (.dk []), some kvs => if kvs.length ≤ 15 then Res.ok (W.ref h.length) ((h ++ [MO.dk []]).set h.length (.dk (mkD kvs))) else .stuck
    | _, _ => .stuck) = _
  rw [e2, e3]
  simp only
  rw [if_pos (by decide), show mkD (kvG PyData.str nextT) = kvG PyData.str nextT by kernel_rfl]
  simp
end

end Dw
/-! k32: bodies -/
namespace Dw
open PySem PySem.Spec PyProof.Rows L2
local macro_rules | `(tactic| walk_at "dw") => `(tactic| (repeat (first
  | ((with_reducible refine' w_var ?e ?_); (case e => rfl))
  | with_reducible refine w_c ?_
  | with_reducible refine s_seq ?_
  | with_reducible refine s_set ?_
  | with_reducible refine w_op2 ?_
  | with_reducible refine w_add ?_
  | with_reducible refine w_sub ?_
  | with_reducible refine w_eq ?_
  | with_reducible refine w_ne ?_
  | with_reducible refine w_lt ?_
  | with_reducible refine w_gt ?_
  | with_reducible refine w_le ?_
  | with_reducible refine w_ge ?_
  | with_reducible refine w_eqb ?_
  | with_reducible refine w_neb ?_
  | with_reducible refine w_cons ?_
  | with_reducible refine w_eqs ?_
  | with_reducible refine w_nes ?_
  | with_reducible refine w_isIn ?_
  | with_reducible refine w_isN ?_
  | with_reducible refine w_isNotN ?_
  | with_reducible refine w_nil ?_
  | with_reducible refine w_call ?_
  | with_reducible refine w_calW ?_
  | with_reducible refine w_cal ?_
  | with_reducible refine w_ix ?_
  | with_reducible refine w_sl ?_
  | with_reducible refine w_pn ?_
  | with_reducible refine w_rev ?_
  | with_reducible refine w_ps ?_
  | with_reducible refine w_chain ?_
  | with_reducible refine w_tup ?_
  | with_reducible refine w_lst ?_
  | with_reducible refine w_lstR ?_
  | with_reducible refine w_dict ?_
  | with_reducible refine w_isa ?_
  | with_reducible refine w_itR1 ?_
  | with_reducible refine w_itS ?_
  | ((with_reducible refine' w_ixt0 ?e ?_); (case e => rfl))
  | ((with_reducible refine' w_ixl0 ?e ?_); (case e => rfl))
  | ((with_reducible refine' w_ixt ?e ?_); (case e => rfl))
  | ((with_reducible refine' w_ixl ?e ?_); (case e => rfl))
  | with_reducible refine w_itR2 ?_
  | with_reducible refine w_itZ ?_
  | with_reducible refine w_itE ?_
  | with_reducible refine w_lc ?_
  | with_reducible refine w_lcR ?_
  | with_reducible refine w_lstRg1R ?_
  | with_reducible refine s_par ?_
  | with_reducible refine s_par3 ?_
  | with_reducible refine s_asg ?_
  | with_reducible refine s_put ?_
  | with_reducible refine s_for ?_
  | with_reducible refine s_if ?_
  | with_reducible refine w_test ?_
  | with_reducible refine w_andT ?_
  | with_reducible refine w_orT ?_
  | with_reducible refine w_notT ?_
  | with_reducible refine w_ifE ?_
  | with_reducible refine w_andV ?_
  | with_reducible refine w_orV ?_
  | with_reducible refine w_notV ?_
  | with_reducible refine w_neg ?_
  | with_reducible refine s_ret ?_
  | with_reducible refine s_retN ?_
  | with_reducible refine s_skip ?_
  | with_reducible refine s_brk ?_
  | with_reducible refine s_cnt ?_
  | with_reducible refine s_expr ?_
  | with_reducible refine w_met ?_
  | with_reducible refine wp_ok.mpr ?_
  | with_reducible refine wps_rt.mpr ?_
  | with_reducible refine wps_nx.mpr ?_
  | with_reducible refine ite_t ?_
  | with_reducible refine ite_f ?_
  | ((with_reducible refine' w_mod ?e ?_); (case e => first | assumption | omega))
  | ((with_reducible refine' w_div ?e ?_); (case e => omega))
  | ((with_reducible refine' w_mul ?e ?_); (case e => omega))
  | ((with_reducible refine' Exists.intro _ (And.intro ?e ?_)); (case e => rfl))
  | ((with_reducible refine' Exists.intro _ (Exists.intro _ (And.intro ?e ?_))); (case e => rfl))
  | ((with_reducible refine' Exists.intro _ (Exists.intro _ (Exists.intro _ (And.intro ?e ?_)))); (case e => rfl))
  | ((with_reducible refine' ite_yes ?e ?_); (case e => rfl))
  | ((with_reducible refine' ite_no ?e ?_); (case e => rfl))
  | ((with_reducible refine And.intro ?e ?_); (case e => first | rfl | exact small_len _ (Nat.le_of_ble_eq_true rfl))))))

section
variable {ns : List Int} {up : Bool} {num s v : Int} {n : Str} {j : Nat} {most : Int} {zs : List D} {hs : MH} {N B C : PS} {R : W → MH → Prop} {h : MH}
theorem lb3_ok {v3 v5 v6 v14 v15 v16 v17 v18 v19 : Option W} (hn : n ∈ six) (hs : St up num j v s n)
    (q : ∀ v s n t w3 w5 w6 w14 w15 w16 w17 w18 w19, n ∈ six → St up num (j + 1) v s n → N [some (.d (.list (iD ns))), some (.ref 0), some (.d (drumD 10 [0, 3, 6])), w3, some (.d (.bool up)), w5, w6, some (.d (.int num)), some (.d (progD (P32 up num 0))), some (.d (layD L32)), some (.d (.int most)), some (.d (.int v)), some (.d (.int s)), some (.d (.str n)), w14, w15, w16, w17, w18, w19] (h ++ t)) :
    wps (lb_law_3 [some (.d (.list (iD ns))), some (.ref 0), some (.d (drumD 10 [0, 3, 6])), v3, some (.d (.bool up)), v5, v6, some (.d (.int num)), some (.d (progD (P32 up num 0))), some (.d (layD L32)), some (.d (.int most)), some (.d (.int v)), some (.d (.int s)), some (.d (.str n)), v14, v15, v16, v17, v18, v19] h) N R B C := by
  have hin := in_bc n hn
  unfold lb_law_3
  simp only [six, List.mem_cons, List.not_mem_nil, or_false] at hn
  rcases hn with hn | hn | hn | hn | hn | hn
  · refine s_cut (fun ρ h' => Stop (∃ (v3 v5 v6 v14 v15 v16 v17 v18 v19 : Option W), ρ = [some (.d (.list (iD ns))), some (.ref 0), some (.d (drumD 10 [0, 3, 6])), v3, some (.d (.bool up)), v5, v6, some (.d (.int num)), some (.d (progD (P32 up num 0))), some (.d (layD L32)), some (.d (.int most)), some (.d (.int (s))), some (.d (.int s)), some (.d (.str n)), v14, v15, v16, v17, v18, v19] ∧ h' = h)) ?_ ?_
    · cases up
      all_goals
        walk_at "dw"
        refine ite_yes (by rw [hn]; kernel_rfl) ?_
        walk_at "dw"
        try (refine w_of lheld32_ok ?_; walk_at "dw")
        exact ⟨_, _, _, _, _, _, _, _, _, rfl, rfl⟩
    rintro ρ h' ⟨v3, v5, v6, v14, v15, v16, v17, v18, v19, rfl, rfl⟩
    walk_at "dw"
    refine w_of disp32 ?_
    walk_at "dw"
    refine w_ixkv app_at (show nextT.lookup n = some "b" by rw [hn]; kernel_rfl) ?_
    walk_at "dw"
    rw [hn] at hs
    exact q _ _ _ _ _ _ _ _ _ _ _ _ _ (by simp [six]) hs.at_a
  · refine s_cut (fun ρ h' => Stop (∃ (v3 v5 v6 v14 v15 v16 v17 v18 v19 : Option W), ρ = [some (.d (.list (iD ns))), some (.ref 0), some (.d (drumD 10 [0, 3, 6])), v3, some (.d (.bool up)), v5, v6, some (.d (.int num)), some (.d (progD (P32 up num 0))), some (.d (layD L32)), some (.d (.int most)), some (.d (.int (capd (v + sg up num)))), some (.d (.int s)), some (.d (.str n)), v14, v15, v16, v17, v18, v19] ∧ h' = h)) ?_ ?_
    · cases up
      all_goals
        walk_at "dw"
        refine ite_no (by rw [hn]; kernel_rfl) ?_
        walk_at "dw"
        refine w_inBc hin ?_
        walk_at "dw"
        refine ite_yes (by rw [hn]; kernel_rfl) ?_
        walk_at "dw"
        try (refine w_of lheld32_ok ?_; walk_at "dw")
        exact ⟨_, _, _, _, _, _, _, _, _, rfl, rfl⟩
    rintro ρ h' ⟨v3, v5, v6, v14, v15, v16, v17, v18, v19, rfl, rfl⟩
    walk_at "dw"
    refine w_of disp32 ?_
    walk_at "dw"
    refine w_ixkv app_at (show nextT.lookup n = some "c" by rw [hn]; kernel_rfl) ?_
    walk_at "dw"
    rw [hn] at hs
    exact q _ _ _ _ _ _ _ _ _ _ _ _ _ (by simp [six]) hs.at_b
  · refine s_cut (fun ρ h' => Stop (∃ (v3 v5 v6 v14 v15 v16 v17 v18 v19 : Option W), ρ = [some (.d (.list (iD ns))), some (.ref 0), some (.d (drumD 10 [0, 3, 6])), v3, some (.d (.bool up)), v5, v6, some (.d (.int num)), some (.d (progD (P32 up num 0))), some (.d (layD L32)), some (.d (.int most)), some (.d (.int (capd (v + sg up num)))), some (.d (.int s)), some (.d (.str n)), v14, v15, v16, v17, v18, v19] ∧ h' = h)) ?_ ?_
    · cases up
      all_goals
        walk_at "dw"
        refine ite_no (by rw [hn]; kernel_rfl) ?_
        walk_at "dw"
        refine w_inBc hin ?_
        walk_at "dw"
        refine ite_yes (by rw [hn]; kernel_rfl) ?_
        walk_at "dw"
        try (refine w_of lheld32_ok ?_; walk_at "dw")
        exact ⟨_, _, _, _, _, _, _, _, _, rfl, rfl⟩
    rintro ρ h' ⟨v3, v5, v6, v14, v15, v16, v17, v18, v19, rfl, rfl⟩
    walk_at "dw"
    refine w_of disp32 ?_
    walk_at "dw"
    refine w_ixkv app_at (show nextT.lookup n = some "d" by rw [hn]; kernel_rfl) ?_
    walk_at "dw"
    rw [hn] at hs
    exact q _ _ _ _ _ _ _ _ _ _ _ _ _ (by simp [six]) hs.at_c
  · refine s_cut (fun ρ h' => Stop (∃ (v3 v5 v6 v14 v15 v16 v17 v18 v19 : Option W), ρ = [some (.d (.list (iD ns))), some (.ref 0), some (.d (drumD 10 [0, 3, 6])), v3, some (.d (.bool up)), v5, v6, some (.d (.int num)), some (.d (progD (P32 up num 0))), some (.d (layD L32)), some (.d (.int most)), some (.d (.int (v))), some (.d (.int v)), some (.d (.str n)), v14, v15, v16, v17, v18, v19] ∧ h' = h)) ?_ ?_
    · cases up
      all_goals
        walk_at "dw"
        refine ite_no (by rw [hn]; kernel_rfl) ?_
        walk_at "dw"
        refine w_inBc hin ?_
        walk_at "dw"
        refine ite_no (by rw [hn]; kernel_rfl) ?_
        walk_at "dw"
        refine ite_yes (by rw [hn]; kernel_rfl) ?_
        walk_at "dw"
        try (refine w_of lheld32_ok ?_; walk_at "dw")
        exact ⟨_, _, _, _, _, _, _, _, _, rfl, rfl⟩
    rintro ρ h' ⟨v3, v5, v6, v14, v15, v16, v17, v18, v19, rfl, rfl⟩
    walk_at "dw"
    refine w_of disp32 ?_
    walk_at "dw"
    refine w_ixkv app_at (show nextT.lookup n = some "e" by rw [hn]; kernel_rfl) ?_
    walk_at "dw"
    rw [hn] at hs
    exact q _ _ _ _ _ _ _ _ _ _ _ _ _ (by simp [six]) hs.at_d
  · refine s_cut (fun ρ h' => Stop (∃ (v3 v5 v6 v14 v15 v16 v17 v18 v19 : Option W), ρ = [some (.d (.list (iD ns))), some (.ref 0), some (.d (drumD 10 [0, 3, 6])), v3, some (.d (.bool up)), v5, v6, some (.d (.int num)), some (.d (progD (P32 up num 0))), some (.d (layD L32)), some (.d (.int most)), some (.d (.int (capd (v + sg up s)))), some (.d (.int s)), some (.d (.str n)), v14, v15, v16, v17, v18, v19] ∧ h' = h)) ?_ ?_
    · cases up
      all_goals
        walk_at "dw"
        refine ite_no (by rw [hn]; kernel_rfl) ?_
        walk_at "dw"
        refine w_inBc hin ?_
        walk_at "dw"
        refine ite_no (by rw [hn]; kernel_rfl) ?_
        walk_at "dw"
        refine ite_no (by rw [hn]; kernel_rfl) ?_
        walk_at "dw"
        refine ite_yes (by rw [hn]; kernel_rfl) ?_
        walk_at "dw"
        try (refine w_of lheld32_ok ?_; walk_at "dw")
        exact ⟨_, _, _, _, _, _, _, _, _, rfl, rfl⟩
    rintro ρ h' ⟨v3, v5, v6, v14, v15, v16, v17, v18, v19, rfl, rfl⟩
    walk_at "dw"
    refine w_of disp32 ?_
    walk_at "dw"
    refine w_ixkv app_at (show nextT.lookup n = some "f" by rw [hn]; kernel_rfl) ?_
    walk_at "dw"
    rw [hn] at hs
    exact q _ _ _ _ _ _ _ _ _ _ _ _ _ (by simp [six]) hs.at_e
  · refine s_cut (fun ρ h' => Stop (∃ (v3 v5 v6 v14 v15 v16 v17 v18 v19 : Option W), ρ = [some (.d (.list (iD ns))), some (.ref 0), some (.d (drumD 10 [0, 3, 6])), v3, some (.d (.bool up)), v5, v6, some (.d (.int num)), some (.d (progD (P32 up num 0))), some (.d (layD L32)), some (.d (.int most)), some (.d (.int (capd (v - sg up num)))), some (.d (.int s)), some (.d (.str n)), v14, v15, v16, v17, v18, v19] ∧ h' = h)) ?_ ?_
    · cases up
      all_goals
        walk_at "dw"
        refine ite_no (by rw [hn]; kernel_rfl) ?_
        walk_at "dw"
        refine w_inBc hin ?_
        walk_at "dw"
        refine ite_no (by rw [hn]; kernel_rfl) ?_
        walk_at "dw"
        refine ite_no (by rw [hn]; kernel_rfl) ?_
        walk_at "dw"
        refine ite_no (by rw [hn]; kernel_rfl) ?_
        walk_at "dw"
        try (refine w_of lheld32_ok ?_; walk_at "dw")
        exact ⟨_, _, _, _, _, _, _, _, _, rfl, rfl⟩
    rintro ρ h' ⟨v3, v5, v6, v14, v15, v16, v17, v18, v19, rfl, rfl⟩
    walk_at "dw"
    refine w_of disp32 ?_
    walk_at "dw"
    refine w_ixkv app_at (show nextT.lookup n = some "b" by rw [hn]; kernel_rfl) ?_
    walk_at "dw"
    rw [hn] at hs
    exact q _ _ _ _ _ _ _ _ _ _ _ _ _ (by simp [six]) hs.at_f
theorem lb4_ok {v3 v5 v6 v11 v12 v13 v14 v15 v16 v17 v18 v19 : Option W} (h0 : 0 ≤ most) (hm : most ≤ 200)
    (q : ∀ t w3 w5 w6 w11 w12 w13 w14 w15 w16 w17 w18 w19, N [some (.d (.list (iD ns))), some (.ref 0), some (.d (drumD 10 [0, 3, 6])), w3, some (.d (.bool up)), w5, w6, some (.d (.int num)), some (.d (progD (P32 up num 0))), some (.d (layD L32)), some (.d (.int most)), w11, w12, w13, w14, w15, w16, w17, w18, w19] (h ++ t)) :
    wps (lb_law_4 [some (.d (.list (iD ns))), some (.ref 0), some (.d (drumD 10 [0, 3, 6])), v3, some (.d (.bool up)), v5, v6, some (.d (.int num)), some (.d (progD (P32 up num 0))), some (.d (layD L32)), some (.d (.int most)), v11, v12, v13, v14, v15, v16, v17, v18, v19] h) N R B C := by
  unfold lb_law_4
  refine s_cut (fun ρ h' => ∃ (v3 v5 v6 v14 v15 v16 v17 v18 v19 : Option W), ρ = [some (.d (.list (iD ns))), some (.ref 0), some (.d (drumD 10 [0, 3, 6])), v3, some (.d (.bool up)), v5, v6, some (.d (.int num)), some (.d (progD (P32 up num 0))), some (.d (layD L32)), some (.d (.int most)), some (.d (.int 0)), some (.d (.int 0)), some (.d (.str "a")), v14, v15, v16, v17, v18, v19] ∧ h' = h) ?_ ?_
  · walk_at "dw"
    exact ⟨_, _, _, _, _, _, _, _, _, rfl, rfl⟩
  rintro ρ h' ⟨v3, v5, v6, v14, v15, v16, v17, v18, v19, rfl, rfl⟩
  refine s_cut (fun ρ h1 => ∃ (v s : Int) (n : Str) (v3 v5 v6 v14 v15 v16 v17 v18 v19 : Option W), ρ = [some (.d (.list (iD ns))), some (.ref 0), some (.d (drumD 10 [0, 3, 6])), v3, some (.d (.bool up)), v5, v6, some (.d (.int num)), some (.d (progD (P32 up num 0))), some (.d (layD L32)), some (.d (.int most)), some (.d (.int v)), some (.d (.int s)), some (.d (.str n)), v14, v15, v16, v17, v18, v19] ∧ (∃ t, h1 = h' ++ t) ∧ St up num most.toNat v s n) ?_ ?_
  · refine s_for ?_
    walk_at "dw"
    refine ⟨by omega, ?_⟩
    refine loop_inv (fun j ρ h1 => ∃ (v s : Int) (n : Str) (v3 v5 v6 v14 v15 v16 v17 v18 v19 : Option W), ρ = [some (.d (.list (iD ns))), some (.ref 0), some (.d (drumD 10 [0, 3, 6])), v3, some (.d (.bool up)), v5, v6, some (.d (.int num)), some (.d (progD (P32 up num 0))), some (.d (layD L32)), some (.d (.int most)), some (.d (.int v)), some (.d (.int s)), some (.d (.str n)), v14, v15, v16, v17, v18, v19] ∧ (∃ t, h1 = h' ++ t) ∧ n ∈ six ∧ St up num j v s n) ?_ (fun _ _ _ _ _ => any_keep) ?_ ?_
    · exact ⟨0, 0, "a", _, _, _, _, _, _, _, _, _, rfl, ⟨[], by simp⟩, by simp [six], St.zero⟩
    · rintro j w ρ h1 ew ⟨v, s, n, v3, v5, v6, v14, v15, v16, v17, v18, v19, rfl, ⟨t, rfl⟩, hn, hst⟩
      refine ⟨_, rfl, ?_⟩
      refine lb3_ok hn hst fun v s n t2 w3 w5 w6 w14 w15 w16 w17 w18 w19 hn hst => ?_
      exact ⟨v, s, n, _, _, _, _, _, _, _, _, _, rfl, ⟨t ++ t2, by simp⟩, hn, hst⟩
    · rintro ρ h1 ⟨v, s, n, v3, v5, v6, v14, v15, v16, v17, v18, v19, rfl, ⟨t, rfl⟩, hn, hst⟩
      rw [rng_len] at hst
      exact ⟨v, s, n, _, _, _, _, _, _, _, _, _, rfl, ⟨t, rfl⟩, hst⟩
  rintro ρ h1 ⟨v, s, n, v3, v5, v6, v14, v15, v16, v17, v18, v19, rfl, ⟨t, rfl⟩, hst⟩
  walk_at "dw"
  refine w_of (run_ok d32_ok p32_ok l32_ok p32_a (by omega)) ?_
  unfold runD
  rw [hst.held, hst.cells, words32]
  walk_at "dw"
  refine ite_no (by simp) ?_
  walk_at "dw"
  refine w_neS (n := 50) rfl (show plainN 50 (.tuple [.tuple [.str "y", .int num], .tuple [.str "z", .int s]]) from ⟨by simp, fun z hz => ?_⟩) (by decide) ?_
  · simp only [ List.mem_cons, List.not_mem_nil, or_false] at hz
    rcases hz with rfl | rfl <;> exact ⟨by simp, fun z hz => by
      simp only [List.mem_cons, List.not_mem_nil, or_false] at hz
      rcases hz with rfl | rfl <;> trivial⟩
  walk_at "dw"
  exact q t _ _ _ _ _ _ _ _ _ _ _ _
end

end Dw
/-! k32: a turn of the law -/
namespace Dw
open PySem PySem.Spec PyProof.Rows L2
local macro_rules | `(tactic| walk_at "dw") => `(tactic| (repeat (first
  | ((with_reducible refine' w_var ?e ?_); (case e => rfl))
  | with_reducible refine w_c ?_
  | with_reducible refine s_seq ?_
  | with_reducible refine s_set ?_
  | with_reducible refine w_op2 ?_
  | with_reducible refine w_add ?_
  | with_reducible refine w_sub ?_
  | with_reducible refine w_eq ?_
  | with_reducible refine w_ne ?_
  | with_reducible refine w_lt ?_
  | with_reducible refine w_gt ?_
  | with_reducible refine w_le ?_
  | with_reducible refine w_ge ?_
  | with_reducible refine w_eqb ?_
  | with_reducible refine w_neb ?_
  | with_reducible refine w_cons ?_
  | with_reducible refine w_eqs ?_
  | with_reducible refine w_nes ?_
  | with_reducible refine w_isIn ?_
  | with_reducible refine w_isN ?_
  | with_reducible refine w_isNotN ?_
  | with_reducible refine w_nil ?_
  | with_reducible refine w_call ?_
  | with_reducible refine w_calW ?_
  | with_reducible refine w_cal ?_
  | with_reducible refine w_ix ?_
  | with_reducible refine w_sl ?_
  | with_reducible refine w_pn ?_
  | with_reducible refine w_rev ?_
  | with_reducible refine w_ps ?_
  | with_reducible refine w_chain ?_
  | with_reducible refine w_tup ?_
  | with_reducible refine w_lst ?_
  | with_reducible refine w_lstR ?_
  | with_reducible refine w_dict ?_
  | with_reducible refine w_isa ?_
  | with_reducible refine w_itR1 ?_
  | with_reducible refine w_itS ?_
  | ((with_reducible refine' w_ixt0 ?e ?_); (case e => rfl))
  | ((with_reducible refine' w_ixl0 ?e ?_); (case e => rfl))
  | ((with_reducible refine' w_ixt ?e ?_); (case e => rfl))
  | ((with_reducible refine' w_ixl ?e ?_); (case e => rfl))
  | with_reducible refine w_itR2 ?_
  | with_reducible refine w_itZ ?_
  | with_reducible refine w_itE ?_
  | with_reducible refine w_lc ?_
  | with_reducible refine w_lcR ?_
  | with_reducible refine w_lstRg1R ?_
  | with_reducible refine s_par ?_
  | with_reducible refine s_par3 ?_
  | with_reducible refine s_asg ?_
  | with_reducible refine s_put ?_
  | with_reducible refine s_for ?_
  | with_reducible refine s_if ?_
  | with_reducible refine w_test ?_
  | with_reducible refine w_andT ?_
  | with_reducible refine w_orT ?_
  | with_reducible refine w_notT ?_
  | with_reducible refine w_ifE ?_
  | with_reducible refine w_andV ?_
  | with_reducible refine w_orV ?_
  | with_reducible refine w_notV ?_
  | with_reducible refine w_neg ?_
  | with_reducible refine s_ret ?_
  | with_reducible refine s_retN ?_
  | with_reducible refine s_skip ?_
  | with_reducible refine s_brk ?_
  | with_reducible refine s_cnt ?_
  | with_reducible refine s_expr ?_
  | with_reducible refine w_met ?_
  | with_reducible refine wp_ok.mpr ?_
  | with_reducible refine wps_rt.mpr ?_
  | with_reducible refine wps_nx.mpr ?_
  | with_reducible refine ite_t ?_
  | with_reducible refine ite_f ?_
  | ((with_reducible refine' w_mod ?e ?_); (case e => first | assumption | omega))
  | ((with_reducible refine' w_div ?e ?_); (case e => omega))
  | ((with_reducible refine' w_mul ?e ?_); (case e => omega))
  | ((with_reducible refine' Exists.intro _ (And.intro ?e ?_)); (case e => rfl))
  | ((with_reducible refine' Exists.intro _ (Exists.intro _ (And.intro ?e ?_))); (case e => rfl))
  | ((with_reducible refine' Exists.intro _ (Exists.intro _ (Exists.intro _ (And.intro ?e ?_)))); (case e => rfl))
  | ((with_reducible refine' ite_yes ?e ?_); (case e => rfl))
  | ((with_reducible refine' ite_no ?e ?_); (case e => rfl))
  | ((with_reducible refine And.intro ?e ?_); (case e => first | rfl | exact small_len _ (Nat.le_of_ble_eq_true rfl))))))

section
variable {ns : List Int} {up : Bool} {num s v : Int} {zs : List D} {hs : MH} {N B C : PS} {R : W → MH → Prop} {h : MH}
theorem lb6_ok {v3 v4 v5 v6 v7 v8 v9 v10 v11 v12 v13 v14 v15 v16 v17 v18 v19 : Option W} (hz : zs.length < 500000)
    (q : ∀ w3 w4 w5 w6 w7 w8 w9 w10 w11 w12 w13 w14 w15 w16 w17 w18 w19 zs' hs', zs'.length ≤ zs.length + 2 → N [some (.d (.list (iD ns))), some (.ref 0), some (.d (drumD 10 [0, 3, 6])), w3, w4, w5, w6, w7, w8, w9, w10, w11, w12, w13, w14, w15, w16, w17, w18, w19] (.lst zs' :: hs')) :
    wps (lb_law_6 [some (.d (.list (iD ns))), some (.ref 0), some (.d (drumD 10 [0, 3, 6])), v3, v4, v5, v6, v7, v8, v9, v10, v11, v12, v13, v14, v15, v16, v17, v18, v19] (.lst zs :: hs)) N R B N := by
  unfold lb_law_6
  refine s_cut (fun ρ h' => Stop (∃ (up : Bool) (v3 v5 v6 v7 v8 v9 v10 v11 v12 v13 v14 v15 v16 v17 v18 v19 : Option W) (zs' : List D), ρ = [some (.d (.list (iD ns))), some (.ref 0), some (.d (drumD 10 [0, 3, 6])), v3, some (.d (.bool up)), v5, v6, v7, v8, v9, v10, v11, v12, v13, v14, v15, v16, v17, v18, v19] ∧ h' = .lst zs' :: hs ∧ zs'.length ≤ zs.length + 1)) ?_ ?_
  · walk_at "dw"
    refine w_draw (by omega) (by omega) fun r r0 r1 => ?_
    walk_at "dw"
    exact ⟨_, _, _, _, _, _, _, _, _, _, _, _, _, _, _, _, _, _, rfl, rfl, by simp⟩
  rintro ρ h' ⟨up, v3, v5, v6, v7, v8, v9, v10, v11, v12, v13, v14, v15, v16, v17, v18, v19, zs1, rfl, rfl, hz1⟩
  refine s_cut (fun ρ h' => Stop (∃ (v3 v7 v8 v9 v10 v11 v12 v13 v14 v15 v16 v17 v18 v19 : Option W), ρ = [some (.d (.list (iD ns))), some (.ref 0), some (.d (drumD 10 [0, 3, 6])), v3, some (.d (.bool up)), some (.d (.str (if up then "add" else "sub"))), some (.d (.str (if up then "sub" else "add"))), v7, v8, v9, v10, v11, v12, v13, v14, v15, v16, v17, v18, v19] ∧ h' = .lst zs1 :: hs)) ?_ ?_
  · cases up
    all_goals
      walk_at "dw"
      exact ⟨_, _, _, _, _, _, _, _, _, _, _, _, _, _, rfl, rfl⟩
  rintro ρ h' ⟨v3, v7, v8, v9, v10, v11, v12, v13, v14, v15, v16, v17, v18, v19, rfl, rfl⟩
  refine s_cut (fun ρ h' => Stop (∃ (num : Int) (v3 v8 v9 v10 v11 v12 v13 v14 v15 v16 v17 v18 v19 : Option W) (zs' : List D), ρ = [some (.d (.list (iD ns))), some (.ref 0), some (.d (drumD 10 [0, 3, 6])), v3, some (.d (.bool up)), some (.d (.str (if up then "add" else "sub"))), some (.d (.str (if up then "sub" else "add"))), some (.d (.int num)), v8, v9, v10, v11, v12, v13, v14, v15, v16, v17, v18, v19] ∧ h' = .lst zs' :: hs ∧ zs'.length ≤ zs.length + 2)) ?_ ?_
  · walk_at "dw"
    refine w_draw (by omega) (by omega) fun r r0 r1 => ?_
    walk_at "dw"
    exact ⟨_, _, _, _, _, _, _, _, _, _, _, _, _, _, _, rfl, rfl, by simp; omega⟩
  rintro ρ h' ⟨num, v3, v8, v9, v10, v11, v12, v13, v14, v15, v16, v17, v18, v19, zs2, rfl, rfl, hz2⟩
  refine s_cut (fun ρ h' => Stop (∃ (v3 v9 v10 v11 v12 v13 v14 v15 v16 v17 v18 v19 : Option W), ρ = [some (.d (.list (iD ns))), some (.ref 0), some (.d (drumD 10 [0, 3, 6])), v3, some (.d (.bool up)), some (.d (.str (if up then "add" else "sub"))), some (.d (.str (if up then "sub" else "add"))), some (.d (.int num)), some (.d (progD ((P32 up num 0).take 3))), v9, v10, v11, v12, v13, v14, v15, v16, v17, v18, v19] ∧ h' = .lst zs2 :: hs)) ?_ ?_
  · cases up
    all_goals
      walk_at "dw"
      exact ⟨_, _, _, _, _, _, _, _, _, _, _, _, rfl, rfl⟩
  rintro ρ h' ⟨v3, v9, v10, v11, v12, v13, v14, v15, v16, v17, v18, v19, rfl, rfl⟩
  refine s_cut (fun ρ h' => Stop (∃ (v3 v9 v10 v11 v12 v13 v14 v15 v16 v17 v18 v19 : Option W), ρ = [some (.d (.list (iD ns))), some (.ref 0), some (.d (drumD 10 [0, 3, 6])), v3, some (.d (.bool up)), some (.d (.str (if up then "add" else "sub"))), some (.d (.str (if up then "sub" else "add"))), some (.d (.int num)), some (.d (progD ((P32 up num 0).take 6))), v9, v10, v11, v12, v13, v14, v15, v16, v17, v18, v19] ∧ h' = .lst zs2 :: hs)) ?_ ?_
  · cases up
    all_goals
      unfold progD
      walk_at "dw"
      refine w_addt (small_len _ (by unfold P32; simp)) ?_
      walk_at "dw"
      exact ⟨v3, v9, v10, v11, v12, v13, v14, v15, v16, v17, v18, v19, rfl, rfl⟩
  rintro ρ h' ⟨v3, v9, v10, v11, v12, v13, v14, v15, v16, v17, v18, v19, rfl, rfl⟩
  refine s_cut (fun ρ h' => Stop (∃ (v3 v9 v10 v11 v12 v13 v14 v15 v16 v17 v18 v19 : Option W), ρ = [some (.d (.list (iD ns))), some (.ref 0), some (.d (drumD 10 [0, 3, 6])), v3, some (.d (.bool up)), some (.d (.str (if up then "add" else "sub"))), some (.d (.str (if up then "sub" else "add"))), some (.d (.int num)), some (.d (progD (P32 up num 0))), v9, v10, v11, v12, v13, v14, v15, v16, v17, v18, v19] ∧ h' = .lst zs2 :: hs)) ?_ ?_
  · cases up
    all_goals
      unfold progD
      walk_at "dw"
      refine w_addt (small_len _ (by unfold P32; simp)) ?_
      walk_at "dw"
      exact ⟨v3, v9, v10, v11, v12, v13, v14, v15, v16, v17, v18, v19, rfl, rfl⟩
  rintro ρ h' ⟨v3, v9, v10, v11, v12, v13, v14, v15, v16, v17, v18, v19, rfl, rfl⟩
  refine s_cut (fun ρ h' => Stop (∃ (v3 v5 v6 v10 v11 v12 v13 v14 v15 v16 v17 v18 v19 : Option W), ρ = [some (.d (.list (iD ns))), some (.ref 0), some (.d (drumD 10 [0, 3, 6])), v3, some (.d (.bool up)), v5, v6, some (.d (.int num)), some (.d (progD (P32 up num 0))), some (.d (layD L32)), v10, v11, v12, v13, v14, v15, v16, v17, v18, v19] ∧ h' = .lst zs2 :: hs)) ?_ ?_
  · walk_at "dw"
    unfold lc_law_5
    walk_at "dw"
    rw [show enumW (List.map cellD (P32 up num 0)) = ((P32 up num 0).zip [0, 1, 2, 3, 4, 5, 6, 7]).map (fun x : (Str × Ct) × Int => W.tup [.d (.int x.2), .d (cellD x.1)]) from rfl]
    refine w_map (fun x : (Str × Ct) × Int => W.tup [.d (.int x.2), .d (cellD x.1)]) (fun x => .tuple [.str x.1.1, .int x.2]) trivial (by unfold P32; simp) (fun x _ => ⟨_, rfl, ?_⟩) ?_
    · unfold ce_law_5
      walk_at "dw"
      first | rfl | exact ⟨rfl, rfl⟩
    walk_at "dw"
    exact ⟨_, _, _, _, _, _, _, _, _, _, _, _, _, rfl, rfl⟩
  rintro ρ h' ⟨v3, v5, v6, v10, v11, v12, v13, v14, v15, v16, v17, v18, v19, rfl, rfl⟩
  walk_at "dw"
  refine loop_inv (fun i ρ h' => ∃ (v3 v5 v6 v10 v11 v12 v13 v14 v15 v16 v17 v18 v19 : Option W) (t : MH), ρ = [some (.d (.list (iD ns))), some (.ref 0), some (.d (drumD 10 [0, 3, 6])), v3, some (.d (.bool up)), v5, v6, some (.d (.int num)), some (.d (progD (P32 up num 0))), some (.d (layD L32)), v10, v11, v12, v13, v14, v15, v16, v17, v18, v19] ∧ h' = .lst zs2 :: (hs ++ t)) ?_ (fun _ _ _ _ _ => trivial) ?_ ?_
  · exact ⟨_, _, _, _, _, _, _, _, _, _, _, _, _, [], rfl, by simp⟩
  · rintro i w ρ h' ew ⟨v3, v5, v6, v10, v11, v12, v13, v14, v15, v16, v17, v18, v19, t, rfl, rfl⟩
    obtain ⟨most, rfl, m0, m1⟩ : ∃ m : Int, w = .d (.int m) ∧ 0 ≤ m ∧ m ≤ 200 := by
      have := List.mem_of_getElem? ew
      simp only [List.map_cons, List.map_nil, List.mem_cons, List.not_mem_nil, or_false] at this
      rcases this with rfl | rfl | rfl | rfl | rfl | rfl | rfl | rfl <;> exact ⟨_, rfl, by omega, by omega⟩
    refine ⟨_, rfl, ?_⟩
    refine lb4_ok m0 m1 fun t2 w3 w5 w6 w11 w12 w13 w14 w15 w16 w17 w18 w19 => ?_
    exact ⟨_, _, _, _, _, _, _, _, _, _, _, _, _, t ++ t2, rfl, by simp⟩
  · rintro ρ h' ⟨v3, v5, v6, v10, v11, v12, v13, v14, v15, v16, v17, v18, v19, t, rfl, rfl⟩
    exact q _ _ _ _ _ _ _ _ _ _ _ _ _ _ _ _ _ _ _ hz2
end

end Dw
/-! k32: the law -/
namespace Dw
open PySem PySem.Spec PyProof.Rows L2
local macro_rules | `(tactic| walk_at "dw") => `(tactic| (repeat (first
  | ((with_reducible refine' w_var ?e ?_); (case e => rfl))
  | with_reducible refine w_c ?_
  | with_reducible refine s_seq ?_
  | with_reducible refine s_set ?_
  | with_reducible refine w_op2 ?_
  | with_reducible refine w_add ?_
  | with_reducible refine w_sub ?_
  | with_reducible refine w_eq ?_
  | with_reducible refine w_ne ?_
  | with_reducible refine w_lt ?_
  | with_reducible refine w_gt ?_
  | with_reducible refine w_le ?_
  | with_reducible refine w_ge ?_
  | with_reducible refine w_eqb ?_
  | with_reducible refine w_neb ?_
  | with_reducible refine w_cons ?_
  | with_reducible refine w_eqs ?_
  | with_reducible refine w_nes ?_
  | with_reducible refine w_isIn ?_
  | with_reducible refine w_isN ?_
  | with_reducible refine w_isNotN ?_
  | with_reducible refine w_nil ?_
  | with_reducible refine w_call ?_
  | with_reducible refine w_calW ?_
  | with_reducible refine w_cal ?_
  | with_reducible refine w_ix ?_
  | with_reducible refine w_sl ?_
  | with_reducible refine w_pn ?_
  | with_reducible refine w_rev ?_
  | with_reducible refine w_ps ?_
  | with_reducible refine w_chain ?_
  | with_reducible refine w_tup ?_
  | with_reducible refine w_lst ?_
  | with_reducible refine w_lstR ?_
  | with_reducible refine w_dict ?_
  | with_reducible refine w_isa ?_
  | with_reducible refine w_itR1 ?_
  | with_reducible refine w_itS ?_
  | ((with_reducible refine' w_ixt0 ?e ?_); (case e => rfl))
  | ((with_reducible refine' w_ixl0 ?e ?_); (case e => rfl))
  | ((with_reducible refine' w_ixt ?e ?_); (case e => rfl))
  | ((with_reducible refine' w_ixl ?e ?_); (case e => rfl))
  | with_reducible refine w_itR2 ?_
  | with_reducible refine w_itZ ?_
  | with_reducible refine w_itE ?_
  | with_reducible refine w_lc ?_
  | with_reducible refine w_lcR ?_
  | with_reducible refine w_lstRg1R ?_
  | with_reducible refine s_par ?_
  | with_reducible refine s_par3 ?_
  | with_reducible refine s_asg ?_
  | with_reducible refine s_put ?_
  | with_reducible refine s_for ?_
  | with_reducible refine s_if ?_
  | with_reducible refine w_test ?_
  | with_reducible refine w_andT ?_
  | with_reducible refine w_orT ?_
  | with_reducible refine w_notT ?_
  | with_reducible refine w_ifE ?_
  | with_reducible refine w_andV ?_
  | with_reducible refine w_orV ?_
  | with_reducible refine w_notV ?_
  | with_reducible refine w_neg ?_
  | with_reducible refine s_ret ?_
  | with_reducible refine s_retN ?_
  | with_reducible refine s_skip ?_
  | with_reducible refine s_brk ?_
  | with_reducible refine s_cnt ?_
  | with_reducible refine s_expr ?_
  | with_reducible refine w_met ?_
  | with_reducible refine wp_ok.mpr ?_
  | with_reducible refine wps_rt.mpr ?_
  | with_reducible refine wps_nx.mpr ?_
  | with_reducible refine ite_t ?_
  | with_reducible refine ite_f ?_
  | ((with_reducible refine' w_mod ?e ?_); (case e => first | assumption | omega))
  | ((with_reducible refine' w_div ?e ?_); (case e => omega))
  | ((with_reducible refine' w_mul ?e ?_); (case e => omega))
  | ((with_reducible refine' Exists.intro _ (And.intro ?e ?_)); (case e => rfl))
  | ((with_reducible refine' Exists.intro _ (Exists.intro _ (And.intro ?e ?_))); (case e => rfl))
  | ((with_reducible refine' Exists.intro _ (Exists.intro _ (Exists.intro _ (And.intro ?e ?_)))); (case e => rfl))
  | ((with_reducible refine' ite_yes ?e ?_); (case e => rfl))
  | ((with_reducible refine' ite_no ?e ?_); (case e => rfl))
  | ((with_reducible refine And.intro ?e ?_); (case e => first | rfl | exact small_len _ (Nat.le_of_ble_eq_true rfl))))))

section
variable {ns : List Int} {most : Int} {zs : List D} {hs : MH} {N B C : PS} {R : W → MH → Prop} {h : MH}
theorem q32_d : Drum 4 [0] := ⟨by decide, by decide, by decide, by decide⟩

theorem lb2_ok {v3 v4 v5 v6 v7 v8 v9 v11 v12 v13 v14 v15 v17 v18 v19 : Option W} (h0 : 0 ≤ most) (hm : most ≤ 200)
    (q : ∀ w3 w4 w5 w6 w7 w8 w9 w11 w12 w13 w14 w15 w17 w18 w19, N [some (.d (.list (iD ns))), some (.ref 0), some (.d (drumD 10 [0, 3, 6])), w3, w4, w5, w6, w7, w8, w9, some (.d (.int most)), w11, w12, w13, w14, w15, some (.d (progD (Q32 .add))), w17, w18, w19] h) :
    wps (lb_law_2 [some (.d (.list (iD ns))), some (.ref 0), some (.d (drumD 10 [0, 3, 6])), v3, v4, v5, v6, v7, v8, v9, some (.d (.int most)), v11, v12, v13, v14, v15, some (.d (progD (Q32 .add))), v17, v18, v19] h) N R B C := by
  unfold lb_law_2
  walk_at "dw"
  refine w_of (run_ok q32_d (q32_ok (k := .add)) q32_l q32_a (by omega)) ?_
  unfold runD
  obtain ⟨ns', w', at_⟩ := q32_add (f := readF 4 [0] [("a", 0), ("y", 1)]) most.toNat
  rw [Int.toNat_of_nonneg h0] at at_
  have e1 : (runP 4 [0] (Q32 .add) [("a", 0), ("y", 1)] "a" 0 most).2.held = if 99 * most < 9999 then 99 * most else 9999 := by rw [runP_F]; exact at_.held
  rw [e1]
  walk_at "dw"
  refine ite_no (by simp) ?_
  walk_at "dw"
  exact q _ _ _ _ _ _ _ _ _ _ _ _ _ _ _

theorem lb1_ok {v3 v4 v5 v6 v7 v8 v9 v11 v12 v13 v14 v15 v18 v19 : Option W} (h0 : 0 ≤ most) (hm : most ≤ 200)
    (q : ∀ w3 w4 w5 w6 w7 w8 w9 w11 w12 w13 w14 w15 w18 w19, N [some (.d (.list (iD ns))), some (.ref 0), some (.d (drumD 10 [0, 3, 6])), w3, w4, w5, w6, w7, w8, w9, some (.d (.int most)), w11, w12, w13, w14, w15, some (.d (progD (Q32 .add))), some (.d (progD (Q32 .sub))), w18, w19] h) :
    wps (lb_law_1 [some (.d (.list (iD ns))), some (.ref 0), some (.d (drumD 10 [0, 3, 6])), v3, v4, v5, v6, v7, v8, v9, some (.d (.int most)), v11, v12, v13, v14, v15, some (.d (progD (Q32 .add))), some (.d (progD (Q32 .sub))), v18, v19] h) N R B C := by
  unfold lb_law_1
  walk_at "dw"
  refine w_of (run_ok q32_d (q32_ok (k := .sub)) q32_l q32_a (by omega)) ?_
  unfold runD
  obtain ⟨ns', w', at_⟩ := q32_sub (f := readF 4 [0] [("a", 0), ("y", 1)]) most.toNat
  rw [Int.toNat_of_nonneg h0] at at_
  have e1 : (runP 4 [0] (Q32 .sub) [("a", 0), ("y", 1)] "a" 0 most).2.held = if -9999 < -99 * most then -99 * most else -9999 := by rw [runP_F]; exact at_.held
  rw [e1]
  walk_at "dw"
  refine ite_no (by simp) ?_
  walk_at "dw"
  exact q _ _ _ _ _ _ _ _ _ _ _ _ _ _
end
theorem law_true : LawTrue m_law := law_of fun ns hns => by
  have four : ∀ (i : Nat) (w : W), [W.d (.int 100), .d (.int 101), .d (.int 102), .d (.int 200)][i]? = some w → ∃ m : Int, w = .d (.int m) ∧ 0 ≤ m ∧ m ≤ 200 := fun i w ew => by
    have := List.mem_of_getElem? ew
    simp only [List.map_cons, List.map_nil, List.mem_cons, List.not_mem_nil, or_false] at this
    rcases this with rfl | rfl | rfl | rfl <;> exact ⟨_, rfl, by omega, by omega⟩
  unfold b_law
  refine s_cut (fun ρ h => Stop (∃ (v2 v3 v4 v5 v6 v7 v8 v9 v10 v11 v12 v13 v14 v15 v16 v17 v18 v19 : Option W), ρ = [some (.d (.list (iD ns))), some (.ref 0), v2, v3, v4, v5, v6, v7, v8, v9, v10, v11, v12, v13, v14, v15, v16, v17, v18, v19] ∧ h = .lst [] :: [])) ?_ ?_
  · walk_at "dw"
    exact ⟨_, _, _, _, _, _, _, _, _, _, _, _, _, _, _, _, _, _, rfl, rfl⟩
  rintro ρ h ⟨v2, v3, v4, v5, v6, v7, v8, v9, v10, v11, v12, v13, v14, v15, v16, v17, v18, v19, rfl, rfl⟩
  refine s_cut (fun ρ h => Stop (∃ (v3 v4 v5 v6 v7 v8 v9 v10 v11 v12 v13 v14 v15 v16 v17 v18 v19 : Option W), ρ = [some (.d (.list (iD ns))), some (.ref 0), some (.d (drumD 10 [0, 3, 6])), v3, v4, v5, v6, v7, v8, v9, v10, v11, v12, v13, v14, v15, v16, v17, v18, v19] ∧ h = .lst [] :: [])) ?_ ?_
  · walk_at "dw"
    exact ⟨_, _, _, _, _, _, _, _, _, _, _, _, _, _, _, _, _, rfl, rfl⟩
  rintro ρ h ⟨v3, v4, v5, v6, v7, v8, v9, v10, v11, v12, v13, v14, v15, v16, v17, v18, v19, rfl, rfl⟩
  refine s_cut (fun ρ h => Stop (∃ (v3 v4 v5 v6 v7 v8 v9 v10 v11 v12 v13 v14 v15 v16 v17 v18 v19 : Option W) (zs : List D) (hs : MH), ρ = [some (.d (.list (iD ns))), some (.ref 0), some (.d (drumD 10 [0, 3, 6])), v3, v4, v5, v6, v7, v8, v9, v10, v11, v12, v13, v14, v15, v16, v17, v18, v19] ∧ h = .lst zs :: hs)) ?_ ?_
  · walk_at "dw"
    refine ⟨by decide, ?_⟩
    refine loop_inv (fun i ρ h => ∃ (v3 v4 v5 v6 v7 v8 v9 v10 v11 v12 v13 v14 v15 v16 v17 v18 v19 : Option W) (zs : List D) (hs : MH), ρ = [some (.d (.list (iD ns))), some (.ref 0), some (.d (drumD 10 [0, 3, 6])), v3, v4, v5, v6, v7, v8, v9, v10, v11, v12, v13, v14, v15, v16, v17, v18, v19] ∧ h = .lst zs :: hs ∧ zs.length ≤ 2 * i) ?_ (fun _ _ _ _ _ => any_keep) ?_ ?_
    · exact ⟨_, _, _, _, _, _, _, _, _, _, _, _, _, _, _, _, _, [], [], rfl, rfl, Nat.le_refl _⟩
    · rintro i w ρ h ew ⟨v3, v4, v5, v6, v7, v8, v9, v10, v11, v12, v13, v14, v15, v16, v17, v18, v19, zs, hs, rfl, rfl, hz⟩
      obtain ⟨hi, rfl⟩ := rng_at ew
      have hi : i < 6 := hi
      refine ⟨_, rfl, ?_⟩
      refine lb6_ok (by omega) fun w3 w4 w5 w6 w7 w8 w9 w10 w11 w12 w13 w14 w15 w16 w17 w18 w19 zs' hs' hz' => ?_
      exact ⟨_, _, _, _, _, _, _, _, _, _, _, _, _, _, _, _, _, zs', hs', rfl, rfl, by omega⟩
    · rintro ρ h ⟨v3, v4, v5, v6, v7, v8, v9, v10, v11, v12, v13, v14, v15, v16, v17, v18, v19, zs, hs, rfl, rfl, hz⟩
      exact ⟨_, _, _, _, _, _, _, _, _, _, _, _, _, _, _, _, _, zs, hs, rfl, rfl⟩
  rintro ρ h ⟨v3, v4, v5, v6, v7, v8, v9, v10, v11, v12, v13, v14, v15, v16, v17, v18, v19, zs, hs, rfl, rfl⟩
  refine s_cut (fun ρ h => Stop (∃ (v3 v4 v5 v6 v7 v8 v9 v10 v11 v12 v13 v14 v15 v17 v18 v19 : Option W), ρ = [some (.d (.list (iD ns))), some (.ref 0), some (.d (drumD 10 [0, 3, 6])), v3, v4, v5, v6, v7, v8, v9, v10, v11, v12, v13, v14, v15, some (.d (progD (Q32 .add))), v17, v18, v19] ∧ h = .lst zs :: hs)) ?_ ?_
  · walk_at "dw"
    exact ⟨_, _, _, _, _, _, _, _, _, _, _, _, _, _, _, _, rfl, rfl⟩
  rintro ρ h ⟨v3, v4, v5, v6, v7, v8, v9, v10, v11, v12, v13, v14, v15, v17, v18, v19, rfl, rfl⟩
  refine s_cut (fun ρ h => Stop (∃ (v3 v4 v5 v6 v7 v8 v9 v10 v11 v12 v13 v14 v15 v17 v18 v19 : Option W), ρ = [some (.d (.list (iD ns))), some (.ref 0), some (.d (drumD 10 [0, 3, 6])), v3, v4, v5, v6, v7, v8, v9, v10, v11, v12, v13, v14, v15, some (.d (progD (Q32 .add))), v17, v18, v19] ∧ h = .lst zs :: hs)) ?_ ?_
  · walk_at "dw"
    refine loop_inv (fun i ρ h => ∃ (v3 v4 v5 v6 v7 v8 v9 v10 v11 v12 v13 v14 v15 v17 v18 v19 : Option W), ρ = [some (.d (.list (iD ns))), some (.ref 0), some (.d (drumD 10 [0, 3, 6])), v3, v4, v5, v6, v7, v8, v9, v10, v11, v12, v13, v14, v15, some (.d (progD (Q32 .add))), v17, v18, v19] ∧ h = .lst zs :: hs) ?_ (fun _ _ _ _ _ => trivial) ?_ ?_
    · exact ⟨_, _, _, _, _, _, _, _, _, _, _, _, _, _, _, _, rfl, rfl⟩
    · rintro i w ρ h ew ⟨v3, v4, v5, v6, v7, v8, v9, v10, v11, v12, v13, v14, v15, v17, v18, v19, rfl, rfl⟩
      obtain ⟨m, rfl, m0, m1⟩ := four i w ew
      refine ⟨_, rfl, ?_⟩
      exact lb2_ok m0 m1 fun w3 w4 w5 w6 w7 w8 w9 w11 w12 w13 w14 w15 w17 w18 w19 => ⟨_, _, _, _, _, _, _, _, _, _, _, _, _, _, _, _, rfl, rfl⟩
    · rintro ρ h ⟨v3, v4, v5, v6, v7, v8, v9, v10, v11, v12, v13, v14, v15, v17, v18, v19, rfl, rfl⟩
      exact ⟨_, _, _, _, _, _, _, _, _, _, _, _, _, _, _, _, rfl, rfl⟩
  rintro ρ h ⟨v3, v4, v5, v6, v7, v8, v9, v10, v11, v12, v13, v14, v15, v17, v18, v19, rfl, rfl⟩
  refine s_cut (fun ρ h => Stop (∃ (v3 v4 v5 v6 v7 v8 v9 v10 v11 v12 v13 v14 v15 v18 v19 : Option W), ρ = [some (.d (.list (iD ns))), some (.ref 0), some (.d (drumD 10 [0, 3, 6])), v3, v4, v5, v6, v7, v8, v9, v10, v11, v12, v13, v14, v15, some (.d (progD (Q32 .add))), some (.d (progD (Q32 .sub))), v18, v19] ∧ h = .lst zs :: hs)) ?_ ?_
  · walk_at "dw"
    exact ⟨_, _, _, _, _, _, _, _, _, _, _, _, _, _, _, rfl, rfl⟩
  rintro ρ h ⟨v3, v4, v5, v6, v7, v8, v9, v10, v11, v12, v13, v14, v15, v18, v19, rfl, rfl⟩
  refine s_cut (fun ρ h => Stop (∃ (v3 v4 v5 v6 v7 v8 v9 v10 v11 v12 v13 v14 v15 v18 v19 : Option W), ρ = [some (.d (.list (iD ns))), some (.ref 0), some (.d (drumD 10 [0, 3, 6])), v3, v4, v5, v6, v7, v8, v9, v10, v11, v12, v13, v14, v15, some (.d (progD (Q32 .add))), some (.d (progD (Q32 .sub))), v18, v19] ∧ h = .lst zs :: hs)) ?_ ?_
  · walk_at "dw"
    refine loop_inv (fun i ρ h => ∃ (v3 v4 v5 v6 v7 v8 v9 v10 v11 v12 v13 v14 v15 v18 v19 : Option W), ρ = [some (.d (.list (iD ns))), some (.ref 0), some (.d (drumD 10 [0, 3, 6])), v3, v4, v5, v6, v7, v8, v9, v10, v11, v12, v13, v14, v15, some (.d (progD (Q32 .add))), some (.d (progD (Q32 .sub))), v18, v19] ∧ h = .lst zs :: hs) ?_ (fun _ _ _ _ _ => trivial) ?_ ?_
    · exact ⟨_, _, _, _, _, _, _, _, _, _, _, _, _, _, _, rfl, rfl⟩
    · rintro i w ρ h ew ⟨v3, v4, v5, v6, v7, v8, v9, v10, v11, v12, v13, v14, v15, v18, v19, rfl, rfl⟩
      obtain ⟨m, rfl, m0, m1⟩ := four i w ew
      refine ⟨_, rfl, ?_⟩
      exact lb1_ok m0 m1 fun w3 w4 w5 w6 w7 w8 w9 w11 w12 w13 w14 w15 w18 w19 => ⟨_, _, _, _, _, _, _, _, _, _, _, _, _, _, _, rfl, rfl⟩
    · rintro ρ h ⟨v3, v4, v5, v6, v7, v8, v9, v10, v11, v12, v13, v14, v15, v18, v19, rfl, rfl⟩
      exact ⟨_, _, _, _, _, _, _, _, _, _, _, _, _, _, _, rfl, rfl⟩
  rintro ρ h ⟨v3, v4, v5, v6, v7, v8, v9, v10, v11, v12, v13, v14, v15, v18, v19, rfl, rfl⟩
  walk_at "dw"
  rfl

end Dw
namespace Dw
open PySem PySem.Spec PyProof.Rows L2
def top (i : Nat) : Stmt := PySem.Challenge.pw_drumwords_k32_whole_bounds_of_sums.main.body.getD i (.Pass ⟨0, 0, 0, 0⟩)
def inClass (st : Stmt) (j : Nat) : Stmt := match st with
  | .ClassDef _ _ _ body _ _ _ _ _ _ _ => body.getD j (.Pass ⟨0, 0, 0, 0⟩)
  | _ => .Pass ⟨0, 0, 0, 0⟩
abbrev s_read_time : Stmt := top 1
abbrev s_names : Stmt := top 8
abbrev s_orders : Stmt := top 9
abbrev s_need_order : Stmt := top 10
abbrev s_is_laying : Stmt := top 13
abbrev s_held : Stmt := top 14
abbrev s_Machine___init__ : Stmt := inClass (top 15) 0
abbrev s_Machine_done : Stmt := inClass (top 15) 1
abbrev s_Machine_step : Stmt := inClass (top 15) 2
abbrev s_Machine_words : Stmt := inClass (top 15) 3
abbrev s_steps_of : Stmt := top 16
abbrev s_run : Stmt := top 17
abbrev s__law_draw : Stmt := top 19
abbrev s__law_held : Stmt := top 21
abbrev s_law : Stmt := top 22

def lamE : Expr → Option Expr
  | .Call _ args _ _ => args[4]?
  | .Attribute (.Subscript (.Call _ args _ _) _ _) _ _ => args[4]?
  | _ => none
def lamS : Stmt → Option Expr
  | .Assign _ v _ => lamE v
  | .Expr v _ => lamE v
  | .Return (some v) _ => lamE v
  | _ => none
def lamIn (st : Stmt) (j : Nat) : Option Expr := ((defBody st)[j]?).bind lamS
def lamP : Option Expr → Arguments
  | some (.Lambda p _ _ _) => p
  | _ => defArgs (top 0)
def lamB : Option Expr → Expr
  | some (.Lambda _ b _ _) => b
  | e => e.getD (.Name "" ⟨0, 0, 0, 0⟩)
def lamC : Option Expr → Scope
  | some (.Lambda _ _ c _) => c
  | _ => defScope (top 0)
abbrev lc_run : LamCode := ⟨"run.<locals>.<lambda>", lamP (lamIn s_run 3), lamB (lamIn s_run 3), lamC (lamIn s_run 3), ["name", "at"], ["drum", "table"]⟩
structure Txt (w : World) (K : PySem.W.Frag) (mg : Str → Option Value) : Prop where
  ok : True
  g_bool : mg "bool" = none
  g_dict : mg "dict" = none
  g_enumerate : mg "enumerate" = none
  g_int : mg "int" = none
  g_isinstance : mg "isinstance" = none
  g_len : mg "len" = none
  g_max : mg "max" = none
  g_min : mg "min" = none
  g_range : mg "range" = none
  g_set : mg "set" = none
  g_sorted : mg "sorted" = none
  g_str : mg "str" = none
  g_tuple : mg "tuple" = none
  g_zip : mg "zip" = none
  c_BEATS : KD K w mg "BEATS" k_BEATS
  c_CAP : GC K mg "CAP" c_CAP
  kt : tupsOk K = true
  ex : ExcTab K mg excL
  k_Machine : ClsN K mg "Machine" ["cells", "held", "next", "time"]
section
variable [LamTab] {P : Program} {w : World} {K : PySem.W.Frag} {mg : Str → Option Value} {base : Heap}
theorem sc_read_time : FnScope ["drum", "spot", "time", "head"] ["drum", "spot", "time"] (defScope s_read_time) := ⟨rfl, rfl, rfl, by decide +kernel, rfl, by decide +kernel, by decide +kernel⟩
theorem st_read_time {f : Addr} {fd : FuncData} (T : Txt w K mg) (F : Fun K "read_time" "read_time" s_read_time f fd) (mgf : mg "read_time" = some (.ref f)) (b : Binds K fd ["drum", "spot", "time"] []) : FSt P w K mg base 1 "read_time" 3 m_read_time :=
  fst_of F mgf b sc_read_time rfl fun cdv A outer s H E hr => by
    have sc := sc_read_time
    have tk : Takes (cxOf (L2.CX P w) P w K mg base ["drum", "spot", "time", "head"] "read_time" (defScope s_read_time) f cdv A outer s H E) (fun cls d _ H' => E cls d H') := takes_of rfl rfl rfl rfl
    have hp : PassesOwn (model P w) (A.deeper (envOfC "read_time" (defScope s_read_time) s.heap.objs.size f cdv)) (cxOf (L2.CX P w) P w K mg base ["drum", "spot", "time", "head"] "read_time" (defScope s_read_time) f cdv A outer s H E).env (cxOf (L2.CX P w) P w K mg base ["drum", "spot", "time", "head"] "read_time" (defScope s_read_time) f cdv A outer s H E).xe := passes_of rfl
    exact (jss_one (js_ret (je_callB (cr_min rfl hr) (by exact rfl) T.g_min boot_min (ja_cons (je_lc rfl sc.nd (ji_seq (je_ix (hu_of hr) (je_var 0) je_int (fun _ _ => rfl) (fun _ _ => rfl))) (blkOk_by (own := [("head", 3)]) (by kernel_rfl)) (fun _ _ _ _ _ => (jg_name 3 sc.nd)) (fun _ _ _ _ _ => jts_nil) (fun _ _ _ _ _ => (je_op bin_add (je_var 2) (je_op bin_mod (je_op bin_sub (je_op bin_sub (je_var 1) (je_var 3)) (je_var 2)) (je_ix (hu_of hr) (je_var 0) je_int (fun _ _ => rfl) (fun _ _ => rfl)))))) ja_nil))))
theorem sc_names : FnScope ["program", "name", "content"] ["program"] (defScope s_names) := ⟨rfl, rfl, rfl, by decide +kernel, rfl, by decide +kernel, by decide +kernel⟩
theorem st_names {f : Addr} {fd : FuncData} (T : Txt w K mg) (F : Fun K "names" "names" s_names f fd) (mgf : mg "names" = some (.ref f)) (b : Binds K fd ["program"] []) : FSt P w K mg base 1 "names" 1 m_names :=
  fst_of F mgf b sc_names rfl fun cdv A outer s H E hr => by
    have sc := sc_names
    have tk : Takes (cxOf (L2.CX P w) P w K mg base ["program", "name", "content"] "names" (defScope s_names) f cdv A outer s H E) (fun cls d _ H' => E cls d H') := takes_of rfl rfl rfl rfl
    have hp : PassesOwn (model P w) (A.deeper (envOfC "names" (defScope s_names) s.heap.objs.size f cdv)) (cxOf (L2.CX P w) P w K mg base ["program", "name", "content"] "names" (defScope s_names) f cdv A outer s H E).env (cxOf (L2.CX P w) P w K mg base ["program", "name", "content"] "names" (defScope s_names) f cdv A outer s H E).xe := passes_of rfl
    exact (jss_one (js_ret (je_callT (cr_tuple) (by exact rfl) T.g_tuple boot_tuple (ja_cons (je_lc rfl sc.nd (ji_seq (je_var 0)) (blkOk_by (own := [("name", 1), ("content", 2)]) (by kernel_rfl)) (fun _ _ _ _ _ => (jg_tup rfl (jgs_cons (jg_name 1 sc.nd) (jgs_cons (jg_name 2 sc.nd) jgs_nil)))) (fun _ _ _ _ _ => jts_nil) (fun _ _ _ _ _ => (je_var 1))) ja_nil))))
theorem sc_orders : FnScope ["program", "name", "content"] ["program"] (defScope s_orders) := ⟨rfl, rfl, rfl, by decide +kernel, rfl, by decide +kernel, by decide +kernel⟩
theorem st_orders {f : Addr} {fd : FuncData} (T : Txt w K mg) (F : Fun K "orders" "orders" s_orders f fd) (mgf : mg "orders" = some (.ref f)) (b : Binds K fd ["program"] []) : FSt P w K mg base 1 "orders" 1 m_orders :=
  fst_of F mgf b sc_orders rfl fun cdv A outer s H E hr => by
    have sc := sc_orders
    have tk : Takes (cxOf (L2.CX P w) P w K mg base ["program", "name", "content"] "orders" (defScope s_orders) f cdv A outer s H E) (fun cls d _ H' => E cls d H') := takes_of rfl rfl rfl rfl
    have hp : PassesOwn (model P w) (A.deeper (envOfC "orders" (defScope s_orders) s.heap.objs.size f cdv)) (cxOf (L2.CX P w) P w K mg base ["program", "name", "content"] "orders" (defScope s_orders) f cdv A outer s H E).env (cxOf (L2.CX P w) P w K mg base ["program", "name", "content"] "orders" (defScope s_orders) f cdv A outer s H E).xe := passes_of rfl
    exact (jss_one (js_ret (je_callT (cr_tuple) (by exact rfl) T.g_tuple boot_tuple (ja_cons (je_lc rfl sc.nd (ji_seq (je_var 0)) (blkOk_by (own := [("name", 1), ("content", 2)]) (by kernel_rfl)) (fun _ _ _ _ _ => (jg_tup rfl (jgs_cons (jg_name 1 sc.nd) (jgs_cons (jg_name 2 sc.nd) jgs_nil)))) (fun _ _ _ _ _ => (jts_one (jt_truth (je_isa (by exact rfl) T.g_isinstance (by exact rfl) T.g_tuple PyProof.Rows.boot_tuple (je_var 2))))) (fun _ _ _ _ _ => (je_var 1))) ja_nil))))
theorem sc_need_order : FnScope ["program", "name"] ["program", "name"] (defScope s_need_order) := ⟨rfl, rfl, rfl, by decide +kernel, rfl, by decide +kernel, by decide +kernel⟩
theorem st_need_order {f : Addr} {fd : FuncData} (T : Txt w K mg) (F : Fun K "need_order" "need_order" s_need_order f fd) (mgf : mg "need_order" = some (.ref f)) (b : Binds K fd ["program", "name"] []) (T_orders : FSt P w K mg base 1 "orders" 1 m_orders) : FSt P w K mg base 2 "need_order" 2 m_need_order :=
  fst_of F mgf b sc_need_order rfl fun cdv A outer s H E hr => by
    have sc := sc_need_order
    have tk : Takes (cxOf (L2.CX P w) P w K mg base ["program", "name"] "need_order" (defScope s_need_order) f cdv A outer s H E) (fun cls d _ H' => E cls d H') := takes_of rfl rfl rfl rfl
    have hp : PassesOwn (model P w) (A.deeper (envOfC "need_order" (defScope s_need_order) s.heap.objs.size f cdv)) (cxOf (L2.CX P w) P w K mg base ["program", "name"] "need_order" (defScope s_need_order) f cdv A outer s H E).env (cxOf (L2.CX P w) P w K mg base ["program", "name"] "need_order" (defScope s_need_order) f cdv A outer s H E).xe := passes_of rfl
    exact (jss_one (js_if (jt_notIn (hu_of hr) (cmp_notIn hr) rfl (je_var 1) (je_call T_orders hr (by decide) tk (by exact rfl) (ja_cons (je_var 0) ja_nil) (hlen := (len_cons len_nil)))) (jss_one (js_raise T.ex rfl tk (by exact rfl))) jss_nil))
theorem sc_is_laying : FnScope ["drum", "program", "thing", "name", "one", "spots", "spot"] ["drum", "program", "thing"] (defScope s_is_laying) := ⟨rfl, rfl, rfl, by decide +kernel, rfl, by decide +kernel, by decide +kernel⟩
theorem st_is_laying {f : Addr} {fd : FuncData} (T : Txt w K mg) (F : Fun K "is_laying" "is_laying" s_is_laying f fd) (mgf : mg "is_laying" = some (.ref f)) (b : Binds K fd ["drum", "program", "thing"] []) (T_names : FSt P w K mg base 1 "names" 1 m_names) : FSt P w K mg base 2 "is_laying" 3 m_is_laying :=
  fst_of F mgf b sc_is_laying rfl fun cdv A outer s H E hr => by
    have sc := sc_is_laying
    have tk : Takes (cxOf (L2.CX P w) P w K mg base ["drum", "program", "thing", "name", "one", "spots", "spot"] "is_laying" (defScope s_is_laying) f cdv A outer s H E) (fun cls d _ H' => E cls d H') := takes_of rfl rfl rfl rfl
    have hp : PassesOwn (model P w) (A.deeper (envOfC "is_laying" (defScope s_is_laying) s.heap.objs.size f cdv)) (cxOf (L2.CX P w) P w K mg base ["drum", "program", "thing", "name", "one", "spots", "spot"] "is_laying" (defScope s_is_laying) f cdv A outer s H E).env (cxOf (L2.CX P w) P w K mg base ["drum", "program", "thing", "name", "one", "spots", "spot"] "is_laying" (defScope s_is_laying) f cdv A outer s H E).xe := passes_of rfl
    exact (jss_cons (js_if (jt_bool (jw_or (jt_not (jt_truth (je_isa (by exact rfl) T.g_isinstance (by exact rfl) T.g_tuple PyProof.Rows.boot_tuple (je_var 2)))) (jw_or1 (jt_cmp (cmp_ne hr) b_ne rfl (je_callB (cr_len) (by exact rfl) T.g_len PySem.boot_len (ja_cons (je_var 2) ja_nil)) (je_callB (cr_len) (by exact rfl) T.g_len PySem.boot_len (ja_cons (je_call T_names hr (by decide) tk (by exact rfl) (ja_cons (je_var 1) ja_nil) (hlen := (len_cons len_nil))) ja_nil)))))) (jss_one (js_ret je_bl)) jss_nil)
  (jss_cons (js_for (vs := [3, 4]) hp rfl (ji_zip (by exact rfl) T.g_zip (ja_cons (je_call T_names hr (by decide) tk (by exact rfl) (ja_cons (je_var 1) ja_nil) (hlen := (len_cons len_nil))) (ja_cons (je_var 2) ja_nil))) (jg_tup rfl (jgs_cons (jg_name 3 sc.nd) (jgs_cons (jg_name 4 sc.nd) jgs_nil))) (jss_cons (js_if (jt_bool (jw_or (jt_not (jt_truth (je_isa (by exact rfl) T.g_isinstance (by exact rfl) T.g_tuple PyProof.Rows.boot_tuple (je_var 4)))) (jw_or (jt_cmp (cmp_ne hr) b_ne rfl (je_callB (cr_len) (by exact rfl) T.g_len PySem.boot_len (ja_cons (je_var 4) ja_nil)) je_int) (jw_or (jt_not (jt_truth (je_isa (by exact rfl) T.g_isinstance (by exact rfl) T.g_str PyProof.Rows.boot_str (je_ix (hu_of hr) (je_var 4) je_int (fun _ _ => rfl) (fun _ _ => rfl))))) (jw_or1 (jt_cmp (cmp_ne hr) b_ne rfl (je_ix (hu_of hr) (je_var 4) je_int (fun _ _ => rfl) (fun _ _ => rfl)) (je_var 3))))))) (jss_one (js_ret je_bl)) jss_nil)
  (jss_one (js_if (jt_bool (jw_or (jt_not (jt_truth (je_isa (by exact rfl) T.g_isinstance (by exact rfl) T.g_int PyProof.Rows.boot_int (je_ix (hu_of hr) (je_var 4) je_int (fun _ _ => rfl) (fun _ _ => rfl))))) (jw_or (jt_truth (je_isa (by exact rfl) T.g_isinstance (by exact rfl) T.g_bool PyProof.Rows.boot_bool (je_ix (hu_of hr) (je_var 4) je_int (fun _ _ => rfl) (fun _ _ => rfl)))) (jw_or1 (jt_not (jt_chain (cmp_le hr) (cmp_lt hr) b_lt je_int (je_ix (hu_of hr) (je_var 4) je_int (fun _ _ => rfl) (fun _ _ => rfl)) (je_ix (hu_of hr) (je_var 0) je_int (fun _ _ => rfl) (fun _ _ => rfl)))))))) (jss_one (js_ret je_bl)) jss_nil))))
  (jss_cons (js_setLc (i := 5) rfl sc.nd rfl rfl (sw_true rfl rfl rfl (by decide +kernel)) (ji_seq (je_var 2)) (blkOk_by (own := [("name", 3), ("spot", 6)]) (by kernel_rfl)) (fun _ _ _ _ _ => (jg_tup rfl (jgs_cons (jg_name 3 sc.nd) (jgs_cons (jg_name 6 sc.nd) jgs_nil)))) (fun _ _ _ _ _ => jts_nil) (fun _ _ _ _ _ => (je_var 6)))
  (jss_one (js_ret (je_cmp (cmp_eq hr) rfl (je_lenSet (by exact rfl) T.g_len (by exact rfl) T.g_set (je_var 5)) (je_callB (cr_len) (by exact rfl) T.g_len PySem.boot_len (ja_cons (je_var 5) ja_nil))))))))
theorem sc_held : FnScope ["number"] ["number"] (defScope s_held) := ⟨rfl, rfl, rfl, by decide +kernel, rfl, by decide +kernel, by decide +kernel⟩
theorem st_held {f : Addr} {fd : FuncData} (T : Txt w K mg) (F : Fun K "held" "held" s_held f fd) (mgf : mg "held" = some (.ref f)) (b : Binds K fd ["number"] []) : FSt P w K mg base 1 "held" 1 m_held :=
  fst_of F mgf b sc_held rfl fun cdv A outer s H E hr => by
    have sc := sc_held
    have tk : Takes (cxOf (L2.CX P w) P w K mg base ["number"] "held" (defScope s_held) f cdv A outer s H E) (fun cls d _ H' => E cls d H') := takes_of rfl rfl rfl rfl
    have hp : PassesOwn (model P w) (A.deeper (envOfC "held" (defScope s_held) s.heap.objs.size f cdv)) (cxOf (L2.CX P w) P w K mg base ["number"] "held" (defScope s_held) f cdv A outer s H E).env (cxOf (L2.CX P w) P w K mg base ["number"] "held" (defScope s_held) f cdv A outer s H E).xe := passes_of rfl
    exact (jss_one (js_ret (je_callB (cr_max rfl hr) (by exact rfl) T.g_max boot_max (ja_cons (je_op bin_sub je_int (je_glob (by exact rfl) T.c_CAP)) (ja_cons (je_callB (cr_min rfl hr) (by exact rfl) T.g_min boot_min (ja_cons (je_glob (by exact rfl) T.c_CAP) (ja_cons (je_var 0) ja_nil))) ja_nil)))))
theorem sc_Machine___init__ : FnScope ["self", "program", "start", "time"] ["self", "program", "start", "time"] (defScope s_Machine___init__) := ⟨rfl, rfl, rfl, by decide +kernel, rfl, by decide +kernel, by decide +kernel⟩
theorem st_Machine___init__ {f : Addr} {fd : FuncData} (T : Txt w K mg) (F : Fun K "__init__" "Machine.__init__" s_Machine___init__ f fd) (b : Binds K fd ["self", "program", "start", "time"] []) : FnOk P w K mg base (L2.CX P w) 1 f fd ["self", "program", "start", "time"] (spF K mg 4 m_Machine___init__) :=
  fnok_of F sc_Machine___init__ rfl fun cdv A outer s H E hr => by
    have sc := sc_Machine___init__
    have tk : Takes (cxOf (L2.CX P w) P w K mg base ["self", "program", "start", "time"] "Machine.__init__" (defScope s_Machine___init__) f cdv A outer s H E) (fun cls d _ H' => E cls d H') := takes_of rfl rfl rfl rfl
    have hp : PassesOwn (model P w) (A.deeper (envOfC "Machine.__init__" (defScope s_Machine___init__) s.heap.objs.size f cdv)) (cxOf (L2.CX P w) P w K mg base ["self", "program", "start", "time"] "Machine.__init__" (defScope s_Machine___init__) f cdv A outer s H E).env (cxOf (L2.CX P w) P w K mg base ["self", "program", "start", "time"] "Machine.__init__" (defScope s_Machine___init__) f cdv A outer s H E).xe := passes_of rfl
    exact (jss_cons (js_fld T.k_Machine (je_var 0) (je_callTW (cw_dict rfl T.kt) (by exact rfl) T.g_dict PyProof.Rows.boot_dict (ja_cons (je_var 1) ja_nil)))
  (jss_cons (js_fld T.k_Machine (je_var 0) je_int)
  (jss_cons (js_fld T.k_Machine (je_var 0) (je_var 2))
  (jss_one (js_fld T.k_Machine (je_var 0) (je_var 3))))))
theorem sc_Machine_done : FnScope ["self", "order"] ["self", "order"] (defScope s_Machine_done) := ⟨rfl, rfl, rfl, by decide +kernel, rfl, by decide +kernel, by decide +kernel⟩
theorem st_Machine_done {f : Addr} {fd : FuncData} (T : Txt w K mg) (F : Fun K "done" "Machine.done" s_Machine_done f fd) (b : Binds K fd ["self", "order"] []) (T_held : FSt P w K mg base 1 "held" 1 m_held) : FnOk P w K mg base (L2.CX P w) 2 f fd ["self", "order"] (spF K mg 2 m_Machine_done) :=
  fnok_of F sc_Machine_done rfl fun cdv A outer s H E hr => by
    have sc := sc_Machine_done
    have tk : Takes (cxOf (L2.CX P w) P w K mg base ["self", "order"] "Machine.done" (defScope s_Machine_done) f cdv A outer s H E) (fun cls d _ H' => E cls d H') := takes_of rfl rfl rfl rfl
    have hp : PassesOwn (model P w) (A.deeper (envOfC "Machine.done" (defScope s_Machine_done) s.heap.objs.size f cdv)) (cxOf (L2.CX P w) P w K mg base ["self", "order"] "Machine.done" (defScope s_Machine_done) f cdv A outer s H E).env (cxOf (L2.CX P w) P w K mg base ["self", "order"] "Machine.done" (defScope s_Machine_done) f cdv A outer s H E).xe := passes_of rfl
    exact (jss_one (js_if (jt_cmp (cmp_eq hr) b_eq rfl (je_ix (hu_of hr) (je_var 1) je_int (fun _ _ => rfl) (fun _ _ => rfl)) je_str) (jss_one (js_fld T.k_Machine (je_var 0) (je_ix (hu_of hr) (je_fld T.k_Machine (je_var 0)) (je_ix (hu_of hr) (je_var 1) je_int (fun _ _ => rfl) (fun _ _ => rfl)) (fun _ _ => rfl) (fun _ _ => rfl)))) (jss_one (js_if (jt_cmp (cmp_eq hr) b_eq rfl (je_ix (hu_of hr) (je_var 1) je_int (fun _ _ => rfl) (fun _ _ => rfl)) je_str) (jss_one (js_fld T.k_Machine (je_var 0) (je_call T_held hr (by decide) tk (by exact rfl) (ja_cons (je_op bin_add (je_fld T.k_Machine (je_var 0)) (je_ix (hu_of hr) (je_fld T.k_Machine (je_var 0)) (je_ix (hu_of hr) (je_var 1) je_int (fun _ _ => rfl) (fun _ _ => rfl)) (fun _ _ => rfl) (fun _ _ => rfl))) ja_nil) (hlen := (len_cons len_nil))))) (jss_one (js_if (jt_cmp (cmp_eq hr) b_eq rfl (je_ix (hu_of hr) (je_var 1) je_int (fun _ _ => rfl) (fun _ _ => rfl)) je_str) (jss_one (js_fld T.k_Machine (je_var 0) (je_call T_held hr (by decide) tk (by exact rfl) (ja_cons (je_op bin_sub (je_fld T.k_Machine (je_var 0)) (je_ix (hu_of hr) (je_fld T.k_Machine (je_var 0)) (je_ix (hu_of hr) (je_var 1) je_int (fun _ _ => rfl) (fun _ _ => rfl)) (fun _ _ => rfl) (fun _ _ => rfl))) ja_nil) (hlen := (len_cons len_nil))))) (jss_one (js_put (hu_of hr) (je_fld T.k_Machine (je_var 0)) (je_ix (hu_of hr) (je_var 1) je_int (fun _ _ => rfl) (fun _ _ => rfl)) (je_fld T.k_Machine (je_var 0))))))))))
theorem sc_Machine_step : FnScope ["self", "read", "word", "order"] ["self", "read", "word"] (defScope s_Machine_step) := ⟨rfl, rfl, rfl, by decide +kernel, rfl, by decide +kernel, by decide +kernel⟩
theorem st_Machine_step {f : Addr} {fd : FuncData} (T : Txt w K mg) (F : Fun K "step" "Machine.step" s_Machine_step f fd) (b : Binds K fd ["self", "read", "word"] []) (T_Machine_done : MethN P w K mg base 2 "Machine" "done" 2 m_Machine_done) : FnOk P w K mg base (L2.CX P w) 3 f fd ["self", "read", "word"] (spF K mg 3 m_Machine_step) :=
  fnok_of F sc_Machine_step rfl fun cdv A outer s H E hr => by
    have sc := sc_Machine_step
    have tk : Takes (cxOf (L2.CX P w) P w K mg base ["self", "read", "word", "order"] "Machine.step" (defScope s_Machine_step) f cdv A outer s H E) (fun cls d _ H' => E cls d H') := takes_of rfl rfl rfl rfl
    have hp : PassesOwn (model P w) (A.deeper (envOfC "Machine.step" (defScope s_Machine_step) s.heap.objs.size f cdv)) (cxOf (L2.CX P w) P w K mg base ["self", "read", "word", "order"] "Machine.step" (defScope s_Machine_step) f cdv A outer s H E).env (cxOf (L2.CX P w) P w K mg base ["self", "read", "word", "order"] "Machine.step" (defScope s_Machine_step) f cdv A outer s H E).xe := passes_of rfl
    exact (jss_cons (js_asg (vs := [3]) (je_ix (hu_of hr) (je_fld T.k_Machine (je_var 0)) (je_fld T.k_Machine (je_var 0)) (fun _ _ => rfl) (fun _ _ => rfl)) (jg_name 3 sc.nd))
  (jss_one (js_if (jt_cmp (cmp_eq hr) b_eq rfl (je_ix (hu_of hr) (je_var 3) je_int (fun _ _ => rfl) (fun _ _ => rfl)) je_str) (jss_cons (js_fld T.k_Machine (je_var 0) (je_op bin_add (je_var 1) je_int))
  (jss_one (js_fld T.k_Machine (je_var 0) je_non))) (jss_one (js_if (jt_cmp (cmp_eq hr) b_eq rfl (je_ix (hu_of hr) (je_var 3) je_int (fun _ _ => rfl) (fun _ _ => rfl)) je_str) (jss_cons (js_fld T.k_Machine (je_var 0) (je_op bin_add (je_var 1) je_int))
  (jss_one (js_fld T.k_Machine (je_var 0) (je_ix (hu_of hr) (je_var 3) (je_op bin_add je_int (je_callT (cr_int) (by exact rfl) T.g_int boot_int (ja_cons (je_cmp (cmp_ge hr) rfl (je_fld T.k_Machine (je_var 0)) je_int) ja_nil))) (fun _ _ => rfl) (fun _ _ => rfl))))) (jss_cons (js_expr (je_meth T_Machine_done hr (by decide) (je_var 0) (ja_cons (je_var 3) ja_nil) (len_cons len_nil)))
  (jss_cons (js_fld T.k_Machine (je_var 0) (je_op bin_add (je_op bin_add (je_var 2) je_int) (je_ixK T.c_BEATS (by exact rfl) (je_ix (hu_of hr) (je_var 3) je_int (fun _ _ => rfl) (fun _ _ => rfl)) (fun _ _ => rfl))))
  (jss_one (js_fld T.k_Machine (je_var 0) (je_ix (hu_of hr) (je_var 3) je_int (fun _ _ => rfl) (fun _ _ => rfl)))))))))))
theorem sc_Machine_words : FnScope ["self", "name"] ["self"] (defScope s_Machine_words) := ⟨rfl, rfl, rfl, by decide +kernel, rfl, by decide +kernel, by decide +kernel⟩
theorem st_Machine_words {f : Addr} {fd : FuncData} (T : Txt w K mg) (F : Fun K "words" "Machine.words" s_Machine_words f fd) (b : Binds K fd ["self"] []) : FnOk P w K mg base (L2.CX P w) 1 f fd ["self"] (spF K mg 1 m_Machine_words) :=
  fnok_of F sc_Machine_words rfl fun cdv A outer s H E hr => by
    have sc := sc_Machine_words
    have tk : Takes (cxOf (L2.CX P w) P w K mg base ["self", "name"] "Machine.words" (defScope s_Machine_words) f cdv A outer s H E) (fun cls d _ H' => E cls d H') := takes_of rfl rfl rfl rfl
    have hp : PassesOwn (model P w) (A.deeper (envOfC "Machine.words" (defScope s_Machine_words) s.heap.objs.size f cdv)) (cxOf (L2.CX P w) P w K mg base ["self", "name"] "Machine.words" (defScope s_Machine_words) f cdv A outer s H E).env (cxOf (L2.CX P w) P w K mg base ["self", "name"] "Machine.words" (defScope s_Machine_words) f cdv A outer s H E).xe := passes_of rfl
    exact (jss_one (js_ret (je_callT (cr_tuple) (by exact rfl) T.g_tuple boot_tuple (ja_cons (je_lc rfl sc.nd (ji_seq (je_callBW (cw_sorted2 rfl hr) (by exact rfl) T.g_sorted PyProof.Rows.boot_sorted (ja_cons (je_fld T.k_Machine (je_var 0)) ja_nil))) (blkOk_by (own := [("name", 1)]) (by kernel_rfl)) (fun _ _ _ _ _ => (jg_name 1 sc.nd)) (fun _ _ _ _ _ => (jts_one (jt_truth (je_isa (by exact rfl) T.g_isinstance (by exact rfl) T.g_int PyProof.Rows.boot_int (je_ix (hu_of hr) (je_fld T.k_Machine (je_var 0)) (je_var 1) (fun _ _ => rfl) (fun _ _ => rfl)))))) (fun _ _ _ _ _ => (je_tup (ja_cons (je_var 1) (ja_cons (je_ix (hu_of hr) (je_fld T.k_Machine (je_var 0)) (je_var 1) (fun _ _ => rfl) (fun _ _ => rfl)) ja_nil))))) ja_nil))))
theorem cl_run (T : Txt w K mg) (hC : LamTab.code 0 = some lc_run) (T_read_time : FSt P w K mg base 1 "read_time" 3 m_read_time) : CloOk P w K mg base 2 0 lam_run :=
  clo_of (N := ["name", "at", "drum", "table"]) hC (NdefX.nscope_by (by decide +kernel)) (fun cl pm cdv ctv us hl => match us, hl with | [_, _], _ => rfl) fun A outer s H f cd cl E hr =>
    (je_call T_read_time hr (by decide) takes0 (by exact rfl) (ja_cons (je_var 2) (ja_cons (je_ix (hu_of hr) (je_var 3) (je_var 0) (fun _ _ => rfl) (fun _ _ => rfl)) (ja_cons (je_var 1) ja_nil))) (hlen := (len_cons (len_cons (len_cons len_nil)))))
theorem sc_steps_of : FnScope ["program", "start", "time", "most", "when", "machine", "found", "name", "order", "read", "word"] ["program", "start", "time", "most", "when"] (defScope s_steps_of) := ⟨rfl, rfl, rfl, by decide +kernel, rfl, by decide +kernel, by decide +kernel⟩
theorem st_steps_of {f : Addr} {fd : FuncData} (T : Txt w K mg) (F : Fun K "steps_of" "steps_of" s_steps_of f fd) (mgf : mg "steps_of" = some (.ref f)) (b : Binds K fd ["program", "start", "time", "most", "when"] []) (T_Machine___init__ : MkN P w K mg base 1 "Machine" 4 m_Machine___init__) (T_Machine_step : MethN P w K mg base 3 "Machine" "step" 3 m_Machine_step) (hT : ∀ k, CloOk P w K mg base 2 k (lamT k)) (hps : ∀ k c, LamTab.code k = some c → c.ps.length = 2) : FSt P w K mg base 4 "steps_of" 5 m_steps_of :=
  fst_of F mgf b sc_steps_of rfl fun cdv A outer s H E hr => by
    have sc := sc_steps_of
    have tk : Takes (cxOf (L2.CX P w) P w K mg base ["program", "start", "time", "most", "when", "machine", "found", "name", "order", "read", "word"] "steps_of" (defScope s_steps_of) f cdv A outer s H E) (fun cls d _ H' => E cls d H') := takes_of rfl rfl rfl rfl
    have hp : PassesOwn (model P w) (A.deeper (envOfC "steps_of" (defScope s_steps_of) s.heap.objs.size f cdv)) (cxOf (L2.CX P w) P w K mg base ["program", "start", "time", "most", "when", "machine", "found", "name", "order", "read", "word"] "steps_of" (defScope s_steps_of) f cdv A outer s H E).env (cxOf (L2.CX P w) P w K mg base ["program", "start", "time", "most", "when", "machine", "found", "name", "order", "read", "word"] "steps_of" (defScope s_steps_of) f cdv A outer s H E).xe := passes_of rfl
    exact (jss_cons (js_asg (vs := [5]) (je_make T_Machine___init__ hr (by decide) (by exact rfl) (ja_cons (je_var 0) (ja_cons (je_var 1) (ja_cons (je_var 2) ja_nil))) (len_cons (len_cons (len_cons len_nil)))) (jg_name 5 sc.nd))
  (jss_cons (js_asg (vs := [6]) (je_tup ja_nil) (jg_name 6 sc.nd))
  (jss_cons (js_while hp (jt_bool (jw_and (jt_cmp (cmp_isNot) b_isNot rfl (je_fld T.k_Machine (je_var 5)) je_non) (jw_and1 (jt_cmp (cmp_lt hr) b_lt rfl (je_callB (cr_len) (by exact rfl) T.g_len PySem.boot_len (ja_cons (je_var 6) ja_nil)) (je_var 3))))) (jss_cons (js_asg (vs := [7]) (je_fld T.k_Machine (je_var 5)) (jg_name 7 sc.nd))
  (jss_cons (js_asg (vs := [8]) (je_ix (hu_of hr) (je_fld T.k_Machine (je_var 5)) (je_var 7) (fun _ _ => rfl) (fun _ _ => rfl)) (jg_name 8 sc.nd))
  (jss_cons (js_asg (vs := [9]) (je_callV hT hr (by decide) 2 hps rfl (by first | exact Or.inl rfl | exact Or.inr (Or.inl rfl) | exact Or.inr (Or.inr rfl)) (ja_cons (je_var 7) (ja_cons (je_fld T.k_Machine (je_var 5)) ja_nil)) (len_cons (len_cons len_nil))) (jg_name 9 sc.nd))
  (jss_cons (js_asg (vs := [10]) je_non (jg_name 10 sc.nd))
  (jss_cons (js_if (jt_inK T.c_BEATS (by exact rfl) rfl (je_ix (hu_of hr) (je_var 8) je_int (fun _ _ => rfl) (fun _ _ => rfl))) (jss_one (js_asg (vs := [10]) (je_callV hT hr (by decide) 2 hps rfl (by first | exact Or.inl rfl | exact Or.inr (Or.inl rfl) | exact Or.inr (Or.inr rfl)) (ja_cons (je_ix (hu_of hr) (je_var 8) je_int (fun _ _ => rfl) (fun _ _ => rfl)) (ja_cons (je_op bin_add (je_var 9) je_int) ja_nil)) (len_cons (len_cons len_nil))) (jg_name 10 sc.nd))) jss_nil)
  (jss_cons (js_expr (je_meth T_Machine_step hr (by decide) (je_var 5) (ja_cons (je_var 9) (ja_cons (je_var 10) ja_nil)) (len_cons (len_cons len_nil))))
  (jss_one (js_asg (vs := [6]) (je_op bin_add (je_var 6) (je_tup (ja_cons (je_tup (ja_cons (je_var 7) (ja_cons (je_var 9) (ja_cons (je_var 10) ja_nil)))) ja_nil))) (jg_name 6 sc.nd))))))))))
  (jss_one (js_ret (je_tup (ja_cons (je_var 6) (ja_cons (je_var 5) ja_nil))))))))
theorem sc_run : FnScope ["drum", "program", "laying", "start", "time", "most", "table", "found", "machine"] ["drum", "program", "laying", "start", "time", "most"] (defScope s_run) := ⟨rfl, rfl, rfl, by decide +kernel, rfl, by decide +kernel, by decide +kernel⟩
theorem st_run {f : Addr} {fd : FuncData} (T : Txt w K mg) {c : Addr} (F : FunC K "run" "run" s_run f fd c) (mgf : mg "run" = some (.ref f)) (b : Binds K fd ["drum", "program", "laying", "start", "time", "most"] []) (T_Machine_words : MethN P w K mg base 1 "Machine" "words" 1 m_Machine_words) (T_is_laying : FSt P w K mg base 2 "is_laying" 3 m_is_laying) (T_need_order : FSt P w K mg base 2 "need_order" 2 m_need_order) (T_steps_of : FSt P w K mg base 4 "steps_of" 5 m_steps_of) {P' : Addr} (TB : LamX.TabB base mg c P') (hmT : (P', lc_run.qual) ∈ tabT) (huT : ∀ p ∈ tabT, p.1 = P' → p.2 = lc_run.qual) (hC : LamTab.code 0 = some lc_run) : FSt P w K mg base 5 "run" 6 m_run :=
  fst_ofC F mgf b sc_run rfl fun A outer s H E hr => by
    have sc := sc_run
    have tk : Takes (cxOf (L2.CX P w) P w K mg base ["drum", "program", "laying", "start", "time", "most", "table", "found", "machine"] "run" (defScope s_run) f (.ref c) A outer s H E) (fun cls d _ H' => E cls d H') := takes_of rfl rfl rfl rfl
    have hp : PassesOwn (model P w) (A.deeper (envOfC "run" (defScope s_run) s.heap.objs.size f (.ref c))) (cxOf (L2.CX P w) P w K mg base ["drum", "program", "laying", "start", "time", "most", "table", "found", "machine"] "run" (defScope s_run) f (.ref c) A outer s H E).env (cxOf (L2.CX P w) P w K mg base ["drum", "program", "laying", "start", "time", "most", "table", "found", "machine"] "run" (defScope s_run) f (.ref c) A outer s H E).xe := passes_of rfl
    exact (jss_cons (js_expr (je_call T_need_order hr (by decide) tk (by exact rfl) (ja_cons (je_var 1) (ja_cons (je_var 3) ja_nil)) (hlen := (len_cons (len_cons len_nil)))))
  (jss_cons (js_if (jt_not (jt_truth (je_call T_is_laying hr (by decide) tk (by exact rfl) (ja_cons (je_var 0) (ja_cons (je_var 1) (ja_cons (je_var 2) ja_nil))) (hlen := (len_cons (len_cons (len_cons len_nil))))))) (jss_one (js_raise T.ex rfl tk (by exact rfl))) jss_nil)
  (jss_cons (js_asg (vs := [6]) (je_callTW (cw_dict rfl T.kt) (by exact rfl) T.g_dict PyProof.Rows.boot_dict (ja_cons (je_var 2) ja_nil)) (jg_name 6 sc.nd))
  (jss_cons (js_asg (vs := [7, 8]) (je_callHO T_steps_of hr (by decide) (by exact rfl) hC (by decide +kernel) (by decide +kernel) (free_by (b := (defScope s_run).names) (by decide +kernel)) (fun _ => rfl) rfl (jal_cons (je_var 1) (jal_cons (je_var 3) (jal_cons (je_var 4) (jal_cons (je_var 5) (jal_nil (C := lc_run) TB (by exact rfl) rfl hmT huT rfl (free_by (b := (defScope s_run).names) (by decide +kernel))))))) (len_cons (len_cons (len_cons (len_cons len_nil))))) (jg_tup rfl (jgs_cons (jg_name 7 sc.nd) (jgs_cons (jg_name 8 sc.nd) jgs_nil))))
  (jss_one (js_ret (je_tup (ja_cons (je_var 7) (ja_cons (je_cmp (cmp_is) rfl (je_fld T.k_Machine (je_var 8)) je_non) (ja_cons (je_fld T.k_Machine (je_var 8)) (ja_cons (je_fld T.k_Machine (je_var 8)) (ja_cons (je_meth0 T_Machine_words hr (by decide) (je_var 8)) ja_nil))))))))))))
theorem sc__law_draw : FnScope ["_law_script", "_law_town", "_law_many", "_law_k", "_law_cell", "_law_number", "_law_more"] ["_law_script", "_law_town", "_law_many"] (defScope s__law_draw) := ⟨rfl, rfl, rfl, by decide +kernel, rfl, by decide +kernel, by decide +kernel⟩
theorem st__law_draw {f : Addr} {fd : FuncData} (T : Txt w K mg) (F : Fun K "_law_draw" "_law_draw" s__law_draw f fd) (mgf : mg "_law_draw" = some (.ref f)) (b : Binds K fd ["_law_script", "_law_town", "_law_many"] []) : FSt P w K mg base 1 "_law_draw" 3 m__law_draw :=
  fst_of F mgf b sc__law_draw rfl fun cdv A outer s H E hr => by
    have sc := sc__law_draw
    have tk : Takes (cxOf (L2.CX P w) P w K mg base ["_law_script", "_law_town", "_law_many", "_law_k", "_law_cell", "_law_number", "_law_more"] "_law_draw" (defScope s__law_draw) f cdv A outer s H E) (fun cls d _ H' => E cls d H') := takes_of rfl rfl rfl rfl
    have hp : PassesOwn (model P w) (A.deeper (envOfC "_law_draw" (defScope s__law_draw) s.heap.objs.size f cdv)) (cxOf (L2.CX P w) P w K mg base ["_law_script", "_law_town", "_law_many", "_law_k", "_law_cell", "_law_number", "_law_more"] "_law_draw" (defScope s__law_draw) f cdv A outer s H E).env (cxOf (L2.CX P w) P w K mg base ["_law_script", "_law_town", "_law_many", "_law_k", "_law_cell", "_law_number", "_law_more"] "_law_draw" (defScope s__law_draw) f cdv A outer s H E).xe := passes_of rfl
    exact (jss_cons (js_expr (je_met PySem.F.slot_list_append PySem.F.type_list_append mt_append (fun _ _ _ _ _ a b c => tyV_lst a b c) (fun _ _ _ _ _ _ _ _ _ a b c d => app_ho a b c d) (je_var 1) (ja_cons je_int ja_nil)))
  (jss_cons (js_asg (vs := [3]) (je_callB (cr_len) (by exact rfl) T.g_len PySem.boot_len (ja_cons (je_var 1) ja_nil)) (jg_name 3 sc.nd))
  (jss_cons (js_asg (vs := [4]) je_int (jg_name 4 sc.nd))
  (jss_cons (js_if (jt_truth (je_var 0)) (jss_one (js_asg (vs := [4]) (je_ix (hu_of hr) (je_var 0) (je_op bin_mod (je_var 3) (je_callB (cr_len) (by exact rfl) T.g_len PySem.boot_len (ja_cons (je_var 0) ja_nil))) (fun _ _ => rfl) (fun _ _ => rfl)) (jg_name 4 sc.nd))) jss_nil)
  (jss_cons (js_asg (vs := [5]) (je_op bin_mod (je_op bin_add (je_var 4) (je_op bin_mul je_int (je_var 3))) je_int) (jg_name 5 sc.nd))
  (jss_cons (js_asg (vs := [5]) (je_op bin_mod (je_op bin_mul (je_op bin_mod (je_op bin_mul (je_var 5) (je_var 5)) je_int) je_int) je_int) (jg_name 5 sc.nd))
  (jss_cons (js_asg (vs := [6]) (je_op bin_mod (je_op bin_mul (je_op bin_mod (je_op bin_mul (je_var 5) (je_var 5)) je_int) je_int) je_int) (jg_name 6 sc.nd))
  (jss_one (js_ret (je_op bin_mod (je_op bin_add (je_op bin_mul (je_op bin_div (je_var 5) je_int) je_int) (je_op bin_div (je_var 6) je_int)) (je_var 2)))))))))))
theorem sc__law_held : FnScope ["_law_number"] ["_law_number"] (defScope s__law_held) := ⟨rfl, rfl, rfl, by decide +kernel, rfl, by decide +kernel, by decide +kernel⟩
theorem st__law_held {f : Addr} {fd : FuncData} (T : Txt w K mg) (F : Fun K "_law_held" "_law_held" s__law_held f fd) (mgf : mg "_law_held" = some (.ref f)) (b : Binds K fd ["_law_number"] []) : FSt P w K mg base 1 "_law_held" 1 m__law_held :=
  fst_of F mgf b sc__law_held rfl fun cdv A outer s H E hr => by
    have sc := sc__law_held
    have tk : Takes (cxOf (L2.CX P w) P w K mg base ["_law_number"] "_law_held" (defScope s__law_held) f cdv A outer s H E) (fun cls d _ H' => E cls d H') := takes_of rfl rfl rfl rfl
    have hp : PassesOwn (model P w) (A.deeper (envOfC "_law_held" (defScope s__law_held) s.heap.objs.size f cdv)) (cxOf (L2.CX P w) P w K mg base ["_law_number"] "_law_held" (defScope s__law_held) f cdv A outer s H E).env (cxOf (L2.CX P w) P w K mg base ["_law_number"] "_law_held" (defScope s__law_held) f cdv A outer s H E).xe := passes_of rfl
    exact (jss_one (js_ret (je_callB (cr_max rfl hr) (by exact rfl) T.g_max boot_max (ja_cons (je_neg je_int) (ja_cons (je_callB (cr_min rfl hr) (by exact rfl) T.g_min boot_min (ja_cons je_int (ja_cons (je_var 0) ja_nil))) ja_nil)))))
theorem sc_law : FnScope ["_law_script", "_law_town", "_law_spots", "_law_k", "_law_up", "_law_first", "_law_more", "_law_number", "_law_program", "_law_laying", "_law_most", "_law_total", "_law_saved", "_law_here", "_law_turn", "_law_told", "_law_simple", "_law_less", "_law_at", "_law_cell"] ["_law_script"] (defScope s_law) := ⟨rfl, rfl, rfl, by decide +kernel, rfl, by decide +kernel, by decide +kernel⟩
theorem st_law {f : Addr} {fd : FuncData} (T : Txt w K mg) (F : Fun K "law" "law" s_law f fd) (mgf : mg "law" = some (.ref f)) (b : Binds K fd ["_law_script"] []) (T__law_draw : FSt P w K mg base 1 "_law_draw" 3 m__law_draw) (T__law_held : FSt P w K mg base 1 "_law_held" 1 m__law_held) (T_run : FSt P w K mg base 5 "run" 6 m_run) : FnOk P w K mg base (L2.CX P w) 6 f fd ["_law_script"] (spF K mg 1 m_law) :=
  fnok_of F sc_law rfl fun cdv A outer s H E hr => by
    have sc := sc_law
    have tk : Takes (cxOf (L2.CX P w) P w K mg base ["_law_script", "_law_town", "_law_spots", "_law_k", "_law_up", "_law_first", "_law_more", "_law_number", "_law_program", "_law_laying", "_law_most", "_law_total", "_law_saved", "_law_here", "_law_turn", "_law_told", "_law_simple", "_law_less", "_law_at", "_law_cell"] "law" (defScope s_law) f cdv A outer s H E) (fun cls d _ H' => E cls d H') := takes_of rfl rfl rfl rfl
    have hp : PassesOwn (model P w) (A.deeper (envOfC "law" (defScope s_law) s.heap.objs.size f cdv)) (cxOf (L2.CX P w) P w K mg base ["_law_script", "_law_town", "_law_spots", "_law_k", "_law_up", "_law_first", "_law_more", "_law_number", "_law_program", "_law_laying", "_law_most", "_law_total", "_law_saved", "_law_here", "_law_turn", "_law_told", "_law_simple", "_law_less", "_law_at", "_law_cell"] "law" (defScope s_law) f cdv A outer s H E).env (cxOf (L2.CX P w) P w K mg base ["_law_script", "_law_town", "_law_spots", "_law_k", "_law_up", "_law_first", "_law_more", "_law_number", "_law_program", "_law_laying", "_law_most", "_law_total", "_law_saved", "_law_here", "_law_turn", "_law_told", "_law_simple", "_law_less", "_law_at", "_law_cell"] "law" (defScope s_law) f cdv A outer s H E).xe := passes_of rfl
    exact (jss_cons (js_asg (vs := [1]) (je_lstR ja_nil) (jg_name 1 sc.nd))
  (jss_cons (js_asg (vs := [2]) (je_tup (ja_cons je_int (ja_cons (je_tup (ja_cons je_int (ja_cons je_int (ja_cons je_int ja_nil)))) ja_nil))) (jg_name 2 sc.nd))
  (jss_cons (js_for (vs := [3]) hp rfl (ji_range1 (by exact rfl) T.g_range (ja_cons je_int ja_nil)) (jg_name 3 sc.nd) (jss_cons (js_asg (vs := [4]) (je_cmp (cmp_eq hr) rfl (je_call T__law_draw hr (by decide) tk (by exact rfl) (ja_cons (je_var 0) (ja_cons (je_var 1) (ja_cons je_int ja_nil))) (hlen := (len_cons (len_cons (len_cons len_nil))))) je_int) (jg_name 4 sc.nd))
  (jss_cons (js_asg (vs := [5, 6]) (je_if (jt_truth (je_var 4)) (je_tup (ja_cons je_str (ja_cons je_str ja_nil))) (je_tup (ja_cons je_str (ja_cons je_str ja_nil)))) (jg_tup rfl (jgs_cons (jg_name 5 sc.nd) (jgs_cons (jg_name 6 sc.nd) jgs_nil))))
  (jss_cons (js_asg (vs := [7]) (je_op bin_sub je_int (je_call T__law_draw hr (by decide) tk (by exact rfl) (ja_cons (je_var 0) (ja_cons (je_var 1) (ja_cons je_int ja_nil))) (hlen := (len_cons (len_cons (len_cons len_nil)))))) (jg_name 7 sc.nd))
  (jss_cons (js_asg (vs := [8]) (je_tup (ja_cons (je_tup (ja_cons je_str (ja_cons (je_tup (ja_cons je_str (ja_cons je_str (ja_cons je_str ja_nil)))) ja_nil))) (ja_cons (je_tup (ja_cons je_str (ja_cons (je_tup (ja_cons (je_var 5) (ja_cons je_str (ja_cons je_str ja_nil)))) ja_nil))) (ja_cons (je_tup (ja_cons je_str (ja_cons (je_tup (ja_cons (je_var 5) (ja_cons je_str (ja_cons je_str ja_nil)))) ja_nil))) ja_nil)))) (jg_name 8 sc.nd))
  (jss_cons (js_asg (vs := [8]) (je_op bin_add (je_var 8) (je_tup (ja_cons (je_tup (ja_cons je_str (ja_cons (je_tup (ja_cons je_str (ja_cons je_str (ja_cons je_str ja_nil)))) ja_nil))) (ja_cons (je_tup (ja_cons je_str (ja_cons (je_tup (ja_cons (je_var 5) (ja_cons je_str (ja_cons je_str ja_nil)))) ja_nil))) (ja_cons (je_tup (ja_cons je_str (ja_cons (je_tup (ja_cons (je_var 6) (ja_cons je_str (ja_cons je_str ja_nil)))) ja_nil))) ja_nil))))) (jg_name 8 sc.nd))
  (jss_cons (js_asg (vs := [8]) (je_op bin_add (je_var 8) (je_tup (ja_cons (je_tup (ja_cons je_str (ja_cons (je_var 7) ja_nil))) (ja_cons (je_tup (ja_cons je_str (ja_cons je_int ja_nil))) ja_nil)))) (jg_name 8 sc.nd))
  (jss_cons (js_asg (vs := [9]) (je_callT (cr_tuple) (by exact rfl) T.g_tuple boot_tuple (ja_cons (je_lc rfl sc.nd (ji_enum (by exact rfl) T.g_enumerate (ja_cons (je_var 8) ja_nil)) (blkOk_by (own := [("_law_at", 18), ("_law_cell", 19)]) (by kernel_rfl)) (fun _ _ _ _ _ => (jg_tup rfl (jgs_cons (jg_name 18 sc.nd) (jgs_cons (jg_name 19 sc.nd) jgs_nil)))) (fun _ _ _ _ _ => jts_nil) (fun _ _ _ _ _ => (je_tup (ja_cons (je_ix (hu_of hr) (je_var 19) je_int (fun _ _ => rfl) (fun _ _ => rfl)) (ja_cons (je_var 18) ja_nil))))) ja_nil)) (jg_name 9 sc.nd))
  (jss_one (js_for (vs := [10]) hp rfl (ji_seq (je_tup (ja_cons je_int (ja_cons je_int (ja_cons je_int (ja_cons je_int (ja_cons je_int (ja_cons je_int (ja_cons je_int (ja_cons je_int ja_nil)))))))))) (jg_name 10 sc.nd) (jss_cons (js_asg (vs := [11, 12, 13]) (je_tup (ja_cons je_int (ja_cons je_int (ja_cons je_str ja_nil)))) (jg_tup rfl (jgs_cons (jg_name 11 sc.nd) (jgs_cons (jg_name 12 sc.nd) (jgs_cons (jg_name 13 sc.nd) jgs_nil)))))
  (jss_cons (js_for (vs := [14]) hp rfl (ji_range1 (by exact rfl) T.g_range (ja_cons (je_var 10) ja_nil)) (jg_name 14 sc.nd) (jss_cons (js_if (jt_cmp (cmp_eq hr) b_eq rfl (je_var 13) je_str) (jss_one (js_asg (vs := [11]) (je_var 12) (jg_name 11 sc.nd))) (jss_one (js_if (jt_in (hu_of hr) (cmp_in hr) rfl (je_var 13) je_str) (jss_one (js_asg (vs := [11]) (je_call T__law_held hr (by decide) tk (by exact rfl) (ja_cons (je_op bin_add (je_var 11) (je_if (jt_truth (je_var 4)) (je_var 7) (je_op bin_sub je_int (je_var 7)))) ja_nil) (hlen := (len_cons len_nil))) (jg_name 11 sc.nd))) (jss_one (js_if (jt_cmp (cmp_eq hr) b_eq rfl (je_var 13) je_str) (jss_one (js_asg (vs := [12]) (je_var 11) (jg_name 12 sc.nd))) (jss_one (js_if (jt_cmp (cmp_eq hr) b_eq rfl (je_var 13) je_str) (jss_one (js_asg (vs := [11]) (je_call T__law_held hr (by decide) tk (by exact rfl) (ja_cons (je_op bin_add (je_var 11) (je_if (jt_truth (je_var 4)) (je_var 12) (je_op bin_sub je_int (je_var 12)))) ja_nil) (hlen := (len_cons len_nil))) (jg_name 11 sc.nd))) (jss_one (js_asg (vs := [11]) (je_call T__law_held hr (by decide) tk (by exact rfl) (ja_cons (je_op bin_sub (je_var 11) (je_if (jt_truth (je_var 4)) (je_var 7) (je_op bin_sub je_int (je_var 7)))) ja_nil) (hlen := (len_cons len_nil))) (jg_name 11 sc.nd))))))))))
  (jss_one (js_asg (vs := [13]) (je_ix (hu_of hr) (je_disp (jp_cons je_str je_str (jp_cons je_str je_str (jp_cons je_str je_str (jp_cons je_str je_str (jp_cons je_str je_str (jp_cons je_str je_str jp_nil)))))) rfl rfl (fun z => by cases z) (by decide)) (je_var 13) (fun _ _ => rfl) (fun _ _ => rfl)) (jg_name 13 sc.nd)))))
  (jss_cons (js_asg (vs := [15]) (je_call T_run hr (by decide) tk (by exact rfl) (ja_cons (je_var 2) (ja_cons (je_var 8) (ja_cons (je_var 9) (ja_cons je_str (ja_cons je_int (ja_cons (je_var 10) ja_nil)))))) (hlen := (len_cons (len_cons (len_cons (len_cons (len_cons (len_cons len_nil)))))))) (jg_name 15 sc.nd))
  (jss_one (js_if (jt_bool (jw_or (jt_cmp (cmp_ne hr) b_ne rfl (je_ix (hu_of hr) (je_var 15) je_int (fun _ _ => rfl) (fun _ _ => rfl)) (je_var 11)) (jw_or1 (jt_cmp (cmp_ne hr) b_ne rfl (je_ix (hu_of hr) (je_var 15) je_int (fun _ _ => rfl) (fun _ _ => rfl)) (je_tup (ja_cons (je_tup (ja_cons je_str (ja_cons (je_var 7) ja_nil))) (ja_cons (je_tup (ja_cons je_str (ja_cons (je_var 12) ja_nil))) ja_nil))))))) (jss_one (js_ret je_bl)) jss_nil)))))))))))))))
  (jss_cons (js_asg (vs := [16]) (je_tup (ja_cons (je_tup (ja_cons je_str (ja_cons (je_tup (ja_cons je_str (ja_cons je_str (ja_cons je_str ja_nil)))) ja_nil))) (ja_cons (je_tup (ja_cons je_str (ja_cons je_int ja_nil))) ja_nil))) (jg_name 16 sc.nd))
  (jss_cons (js_for (vs := [10]) hp rfl (ji_seq (je_tup (ja_cons je_int (ja_cons je_int (ja_cons je_int (ja_cons je_int ja_nil)))))) (jg_name 10 sc.nd) (jss_one (js_if (jt_cmp (cmp_ne hr) b_ne rfl (je_ix (hu_of hr) (je_call T_run hr (by decide) tk (by exact rfl) (ja_cons (je_tup (ja_cons je_int (ja_cons (je_tup (ja_cons je_int ja_nil)) ja_nil))) (ja_cons (je_var 16) (ja_cons (je_tup (ja_cons (je_tup (ja_cons je_str (ja_cons je_int ja_nil))) (ja_cons (je_tup (ja_cons je_str (ja_cons je_int ja_nil))) ja_nil))) (ja_cons je_str (ja_cons je_int (ja_cons (je_var 10) ja_nil)))))) (hlen := (len_cons (len_cons (len_cons (len_cons (len_cons (len_cons len_nil)))))))) je_int (fun _ _ => rfl) (fun _ _ => rfl)) (je_callB (cr_min rfl hr) (by exact rfl) T.g_min boot_min (ja_cons je_int (ja_cons (je_op bin_mul je_int (je_var 10)) ja_nil)))) (jss_one (js_ret je_bl)) jss_nil)))
  (jss_cons (js_asg (vs := [17]) (je_tup (ja_cons (je_tup (ja_cons je_str (ja_cons (je_tup (ja_cons je_str (ja_cons je_str (ja_cons je_str ja_nil)))) ja_nil))) (ja_cons (je_tup (ja_cons je_str (ja_cons je_int ja_nil))) ja_nil))) (jg_name 17 sc.nd))
  (jss_cons (js_for (vs := [10]) hp rfl (ji_seq (je_tup (ja_cons je_int (ja_cons je_int (ja_cons je_int (ja_cons je_int ja_nil)))))) (jg_name 10 sc.nd) (jss_one (js_if (jt_cmp (cmp_ne hr) b_ne rfl (je_ix (hu_of hr) (je_call T_run hr (by decide) tk (by exact rfl) (ja_cons (je_tup (ja_cons je_int (ja_cons (je_tup (ja_cons je_int ja_nil)) ja_nil))) (ja_cons (je_var 17) (ja_cons (je_tup (ja_cons (je_tup (ja_cons je_str (ja_cons je_int ja_nil))) (ja_cons (je_tup (ja_cons je_str (ja_cons je_int ja_nil))) ja_nil))) (ja_cons je_str (ja_cons je_int (ja_cons (je_var 10) ja_nil)))))) (hlen := (len_cons (len_cons (len_cons (len_cons (len_cons (len_cons len_nil)))))))) je_int (fun _ _ => rfl) (fun _ _ => rfl)) (je_callB (cr_max rfl hr) (by exact rfl) T.g_max boot_max (ja_cons (je_neg je_int) (ja_cons (je_op bin_mul (je_neg je_int) (je_var 10)) ja_nil)))) (jss_one (js_ret je_bl)) jss_nil)))
  (jss_one (js_ret je_bl)))))))))
end
def lamCode : Nat → Option LamCode
  | 0 => some lc_run
  | _ => none
theorem lam_ps (k : Nat) (c : LamCode) (e : lamCode k = some c) : c.ps.length = 2 := by
  unfold lamCode at e
  split at e <;> first | (cases e; rfl) | cases e
theorem all_mk {l : PySem.W.OpenLaw} {w : World} {K : PySem.W.Frag} {h : Heap} {mg : Str → Option Value} {fa : Addr} {ts : List Addr} (X : K.In h) (G : h.Ns mainGlobals mg) (hfa : mg "law" = some (.ref fa)) (Y : ∀ P ∈ ts, h.get? P = some (PySem.W.tabObj #[]))
    {C_Machine : Addr}
    {f0 f1 f2 f3 f4 f5 f6 f7 f8 f9 f10 f11 f12 f13 f14 : Addr}
    {od0 an0 od1 an1 od2 an2 od3 an3 od4 an4 od5 an5 od6 an6 od7 an7 od8 an8 od9 an9 od10 an10 od11 an11 od12 an12 od13 an13 od14 an14 : Option Addr}
    {sl0 sl1 sl2 sl3 sl4 sl5 sl6 sl7 sl8 sl9 sl10 sl11 sl12 sl13 sl14 : Array (Option Value)}
    {oc0 kV0 dc0 pm0 ct0 oc1 kV1 dc1 pm1 ct1 oc2 kV2 dc2 pm2 ct2 oc3 kV3 dc3 pm3 ct3 oc4 kV4 dc4 pm4 ct4 oc5 kV5 dc5 pm5 ct5 oc6 kV6 dc6 pm6 ct6 oc7 kV7 dc7 pm7 ct7 oc8 kV8 dc8 pm8 ct8 oc9 kV9 dc9 pm9 ct9 oc10 kV10 dc10 pm10 ct10 oc11 kV11 dc11 pm11 ct11 oc12 kV12 dc12 pm12 ct12 oc13 kV13 dc13 pm13 ct13 oc14 kV14 dc14 pm14 ct14 : Value}
    {cd0 cd1 cd2 cd3 cd4 cd5 cd6 cd7 cd8 cd9 cd10 cd12 cd13 cd14 : Value}
    {cc11 P11 : Addr} {cv11 : Array Value} {co11 : Option Addr} {cs11 : Array (Option Value)}
    {E_NoName : Addr}
    {E_BadLaying : Addr}
    {B_BEATS : Addr} {es_BEATS : Array DictEntry} {n_BEATS : Nat}
    {t0_BEATS : Tok}
    {t1_BEATS : Tok}
    {t2_BEATS : Tok}
    {t3_BEATS : Tok}
    {tk_CAP : Tok}
    (gC_Machine : PySem.W.nsIn K mainGlobals "Machine" = some (some (.ref C_Machine)))
    (a0 : PySem.W.nsIn K mainGlobals "read_time" = some (some (.ref f0)))
    (l0 : K.lookup f0 = some ⟨oc0, od0, .func (PySem.W.fnOf "read_time" "read_time" (defArgs s_read_time) (defBody s_read_time) (defScope s_read_time) .none kV0 dc0 pm0 an0 cd0 ct0), sl0⟩)
    (c0 : PySem.W.codeIn K cd0 "read_time" = true)
    (k0 : PySem.W.keepIn K (.ref f0) = true)
    (a1 : PySem.W.nsIn K mainGlobals "names" = some (some (.ref f1)))
    (l1 : K.lookup f1 = some ⟨oc1, od1, .func (PySem.W.fnOf "names" "names" (defArgs s_names) (defBody s_names) (defScope s_names) .none kV1 dc1 pm1 an1 cd1 ct1), sl1⟩)
    (c1 : PySem.W.codeIn K cd1 "names" = true)
    (k1 : PySem.W.keepIn K (.ref f1) = true)
    (a2 : PySem.W.nsIn K mainGlobals "orders" = some (some (.ref f2)))
    (l2 : K.lookup f2 = some ⟨oc2, od2, .func (PySem.W.fnOf "orders" "orders" (defArgs s_orders) (defBody s_orders) (defScope s_orders) .none kV2 dc2 pm2 an2 cd2 ct2), sl2⟩)
    (c2 : PySem.W.codeIn K cd2 "orders" = true)
    (k2 : PySem.W.keepIn K (.ref f2) = true)
    (a3 : PySem.W.nsIn K mainGlobals "need_order" = some (some (.ref f3)))
    (l3 : K.lookup f3 = some ⟨oc3, od3, .func (PySem.W.fnOf "need_order" "need_order" (defArgs s_need_order) (defBody s_need_order) (defScope s_need_order) .none kV3 dc3 pm3 an3 cd3 ct3), sl3⟩)
    (c3 : PySem.W.codeIn K cd3 "need_order" = true)
    (k3 : PySem.W.keepIn K (.ref f3) = true)
    (a4 : PySem.W.nsIn K mainGlobals "is_laying" = some (some (.ref f4)))
    (l4 : K.lookup f4 = some ⟨oc4, od4, .func (PySem.W.fnOf "is_laying" "is_laying" (defArgs s_is_laying) (defBody s_is_laying) (defScope s_is_laying) .none kV4 dc4 pm4 an4 cd4 ct4), sl4⟩)
    (c4 : PySem.W.codeIn K cd4 "is_laying" = true)
    (k4 : PySem.W.keepIn K (.ref f4) = true)
    (a5 : PySem.W.nsIn K mainGlobals "held" = some (some (.ref f5)))
    (l5 : K.lookup f5 = some ⟨oc5, od5, .func (PySem.W.fnOf "held" "held" (defArgs s_held) (defBody s_held) (defScope s_held) .none kV5 dc5 pm5 an5 cd5 ct5), sl5⟩)
    (c5 : PySem.W.codeIn K cd5 "held" = true)
    (k5 : PySem.W.keepIn K (.ref f5) = true)
    (a6 : PySem.W.findIn K (.ref C_Machine) "__init__" = some (some (.ref f6)))
    (l6 : K.lookup f6 = some ⟨oc6, od6, .func (PySem.W.fnOf "__init__" "Machine.__init__" (defArgs s_Machine___init__) (defBody s_Machine___init__) (defScope s_Machine___init__) .none kV6 dc6 pm6 an6 cd6 ct6), sl6⟩)
    (c6 : PySem.W.codeIn K cd6 "Machine.__init__" = true)
    (k6 : PySem.W.keepIn K (.ref f6) = true)
    (n6 : PySem.W.isFn K (.ref f6) = true)
    (a7 : PySem.W.findIn K (.ref C_Machine) "done" = some (some (.ref f7)))
    (l7 : K.lookup f7 = some ⟨oc7, od7, .func (PySem.W.fnOf "done" "Machine.done" (defArgs s_Machine_done) (defBody s_Machine_done) (defScope s_Machine_done) .none kV7 dc7 pm7 an7 cd7 ct7), sl7⟩)
    (c7 : PySem.W.codeIn K cd7 "Machine.done" = true)
    (k7 : PySem.W.keepIn K (.ref f7) = true)
    (n7 : PySem.W.isFn K (.ref f7) = true)
    (a8 : PySem.W.findIn K (.ref C_Machine) "step" = some (some (.ref f8)))
    (l8 : K.lookup f8 = some ⟨oc8, od8, .func (PySem.W.fnOf "step" "Machine.step" (defArgs s_Machine_step) (defBody s_Machine_step) (defScope s_Machine_step) .none kV8 dc8 pm8 an8 cd8 ct8), sl8⟩)
    (c8 : PySem.W.codeIn K cd8 "Machine.step" = true)
    (k8 : PySem.W.keepIn K (.ref f8) = true)
    (n8 : PySem.W.isFn K (.ref f8) = true)
    (a9 : PySem.W.findIn K (.ref C_Machine) "words" = some (some (.ref f9)))
    (l9 : K.lookup f9 = some ⟨oc9, od9, .func (PySem.W.fnOf "words" "Machine.words" (defArgs s_Machine_words) (defBody s_Machine_words) (defScope s_Machine_words) .none kV9 dc9 pm9 an9 cd9 ct9), sl9⟩)
    (c9 : PySem.W.codeIn K cd9 "Machine.words" = true)
    (k9 : PySem.W.keepIn K (.ref f9) = true)
    (n9 : PySem.W.isFn K (.ref f9) = true)
    (a10 : PySem.W.nsIn K mainGlobals "steps_of" = some (some (.ref f10)))
    (l10 : K.lookup f10 = some ⟨oc10, od10, .func (PySem.W.fnOf "steps_of" "steps_of" (defArgs s_steps_of) (defBody s_steps_of) (defScope s_steps_of) .none kV10 dc10 pm10 an10 cd10 ct10), sl10⟩)
    (c10 : PySem.W.codeIn K cd10 "steps_of" = true)
    (k10 : PySem.W.keepIn K (.ref f10) = true)
    (a11 : PySem.W.nsIn K mainGlobals "run" = some (some (.ref f11)))
    (l11 : K.lookup f11 = some ⟨oc11, od11, .func (PySem.W.fnOf "run" "run" (defArgs s_run) (defBody s_run) (defScope s_run) .none kV11 dc11 pm11 an11 (.ref cc11) ct11), sl11⟩)
    (c11 : PySem.W.codeIn K (.ref cc11) "run" = true)
    (k11 : PySem.W.keepIn K (.ref f11) = true)
    (v11 : K.lookup cc11 = some ⟨.type "code", co11, .fields cv11, cs11⟩)
    (p11 : cv11[11]? = some (.ref P11))
    (hh11 : PySem.W.codeHdIn K cc11 P11 = true)
    (tt11 : P11 ∈ ts)
    (nn11 : K.lookup P11 = none)
    (gp11 : mainGlobals ≠ P11)
    (a12 : PySem.W.nsIn K mainGlobals "_law_draw" = some (some (.ref f12)))
    (l12 : K.lookup f12 = some ⟨oc12, od12, .func (PySem.W.fnOf "_law_draw" "_law_draw" (defArgs s__law_draw) (defBody s__law_draw) (defScope s__law_draw) .none kV12 dc12 pm12 an12 cd12 ct12), sl12⟩)
    (c12 : PySem.W.codeIn K cd12 "_law_draw" = true)
    (k12 : PySem.W.keepIn K (.ref f12) = true)
    (a13 : PySem.W.nsIn K mainGlobals "_law_held" = some (some (.ref f13)))
    (l13 : K.lookup f13 = some ⟨oc13, od13, .func (PySem.W.fnOf "_law_held" "_law_held" (defArgs s__law_held) (defBody s__law_held) (defScope s__law_held) .none kV13 dc13 pm13 an13 cd13 ct13), sl13⟩)
    (c13 : PySem.W.codeIn K cd13 "_law_held" = true)
    (k13 : PySem.W.keepIn K (.ref f13) = true)
    (a14 : PySem.W.nsIn K mainGlobals "law" = some (some (.ref f14)))
    (l14 : K.lookup f14 = some ⟨oc14, od14, .func (PySem.W.fnOf "law" "law" (defArgs s_law) (defBody s_law) (defScope s_law) .none kV14 dc14 pm14 an14 cd14 ct14), sl14⟩)
    (c14 : PySem.W.codeIn K cd14 "law" = true)
    (k14 : PySem.W.keepIn K (.ref f14) = true)
    (pg_Machine : PySem.W.plainGet K C_Machine Str.empty = true)
    (hd_Machine : PySem.W.hasDictIn K C_Machine = true)
    (po_Machine : PySem.W.plainOver K C_Machine = true)
    (sa_Machine : PySem.W.findIn K (.ref C_Machine) "__setattr__" = some (some (.builtin "object.__setattr__")))
    (na_Machine_cells : PySem.W.findIn K (.ref C_Machine) "cells" = some none)
    (na_Machine_held : PySem.W.findIn K (.ref C_Machine) "held" = some none)
    (na_Machine_next : PySem.W.findIn K (.ref C_Machine) "next" = some none)
    (na_Machine_time : PySem.W.findIn K (.ref C_Machine) "time" = some none)
    (mk_Machine : PySem.W.makesIn K C_Machine = true)
    (kp_Machine : PySem.W.keepIn K (.ref C_Machine) = true)
    (gE_NoName : PySem.W.nsIn K mainGlobals "NoName" = some (some (.ref E_NoName)))
    (e1_NoName : PySem.W.excIn K E_NoName bmVE "ValueError.__new__" = true)
    (e2_NoName : PySem.W.keepIn K (.ref E_NoName) = true)
    (e3_NoName : PySem.W.subIn K (.ref E_NoName) (.type "BaseException") = some true)
    (e4_NoName : PySem.W.typeIn K (.ref E_NoName) = some (.type "type"))
    (gE_BadLaying : PySem.W.nsIn K mainGlobals "BadLaying" = some (some (.ref E_BadLaying)))
    (e1_BadLaying : PySem.W.excIn K E_BadLaying bmVE "ValueError.__new__" = true)
    (e2_BadLaying : PySem.W.keepIn K (.ref E_BadLaying) = true)
    (e3_BadLaying : PySem.W.subIn K (.ref E_BadLaying) (.type "BaseException") = some true)
    (e4_BadLaying : PySem.W.typeIn K (.ref E_BadLaying) = some (.type "type"))
    (ee_NoName_NoName : PySem.W.exmOne K (.ref E_NoName) (.ref E_NoName) = some true)
    (ee_NoName_BadLaying : PySem.W.exmOne K (.ref E_NoName) (.ref E_BadLaying) = some false)
    (ee_BadLaying_NoName : PySem.W.exmOne K (.ref E_BadLaying) (.ref E_NoName) = some false)
    (ee_BadLaying_BadLaying : PySem.W.exmOne K (.ref E_BadLaying) (.ref E_BadLaying) = some true)
    (hkt : tupsOk K = true)
    (z_bool : PySem.W.nsIn K mainGlobals "bool" = some none)
    (z_dict : PySem.W.nsIn K mainGlobals "dict" = some none)
    (z_enumerate : PySem.W.nsIn K mainGlobals "enumerate" = some none)
    (z_int : PySem.W.nsIn K mainGlobals "int" = some none)
    (z_isinstance : PySem.W.nsIn K mainGlobals "isinstance" = some none)
    (z_len : PySem.W.nsIn K mainGlobals "len" = some none)
    (z_max : PySem.W.nsIn K mainGlobals "max" = some none)
    (z_min : PySem.W.nsIn K mainGlobals "min" = some none)
    (z_range : PySem.W.nsIn K mainGlobals "range" = some none)
    (z_set : PySem.W.nsIn K mainGlobals "set" = some none)
    (z_sorted : PySem.W.nsIn K mainGlobals "sorted" = some none)
    (z_str : PySem.W.nsIn K mainGlobals "str" = some none)
    (z_tuple : PySem.W.nsIn K mainGlobals "tuple" = some none)
    (z_zip : PySem.W.nsIn K mainGlobals "zip" = some none)
    (q_BEATS : PySem.W.nsIn K mainGlobals "BEATS" = some (some (.ref B_BEATS)))
    (ql_BEATS : K.lookup B_BEATS = some ⟨.type "dict", none, .dict es_BEATS n_BEATS, #[]⟩)
    (qk_BEATS : PySem.W.KeysLit w.params es_BEATS.toList)
    (qs_BEATS : (B_BEATS == sysModules) = false)
    (qe0_BEATS : PySem.W.nsIn K B_BEATS "put" = some (some (.int 0 t0_BEATS)))
    (qe1_BEATS : PySem.W.nsIn K B_BEATS "add" = some (some (.int 1 t1_BEATS)))
    (qe2_BEATS : PySem.W.nsIn K B_BEATS "sub" = some (some (.int 1 t2_BEATS)))
    (qe3_BEATS : PySem.W.nsIn K B_BEATS "save" = some (some (.int 0 t3_BEATS)))
    (qn0_BEATS : PySem.W.nsIn K B_BEATS "less" = some none)
    (qn1_BEATS : PySem.W.nsIn K B_BEATS "stop" = some none)
    (q_CAP : PySem.W.nsIn K mainGlobals "CAP" = some (some (.int 9999 tk_CAP))) (t : LawTrue m_law) :
    LamX.LawAtS l w K (L2.CX l.prog w) 6 63 "_law_script" mg fa h := by
  have e := hfa.symm.trans (PySem.W.mg_of X G a14)
  cases e
  letI lt : LamTab := ⟨lamCode, [(cc11, P11, lc_run.qual)]⟩
  have hC0 : LamTab.code 0 = some lc_run := rfl
  have hps : ∀ k c, LamTab.code k = some c → c.ps.length = 2 := lam_ps
  have hmT0 : (P11, lc_run.qual) ∈ tabT := by
    show _ ∈ [(P11, lc_run.qual)]
    simp only [List.mem_cons, true_or, or_true]
  have huT0 : ∀ p ∈ tabT, p.1 = P11 → p.2 = lc_run.qual := List.forall_mem_cons.mpr ⟨fun e => rfl, fun _ h => nomatch h⟩
  have T : Txt w K mg := ⟨trivial, PySem.W.mg_none_of X G z_bool, PySem.W.mg_none_of X G z_dict, PySem.W.mg_none_of X G z_enumerate, PySem.W.mg_none_of X G z_int, PySem.W.mg_none_of X G z_isinstance, PySem.W.mg_none_of X G z_len, PySem.W.mg_none_of X G z_max, PySem.W.mg_none_of X G z_min, PySem.W.mg_none_of X G z_range, PySem.W.mg_none_of X G z_set, PySem.W.mg_none_of X G z_sorted, PySem.W.mg_none_of X G z_str, PySem.W.mg_none_of X G z_tuple, PySem.W.mg_none_of X G z_zip, ⟨_, _, _, PySem.W.mg_of X G q_BEATS, ⟨ql_BEATS, qk_BEATS, qs_BEATS⟩, kd_of (kd_cons ⟨_, qe0_BEATS⟩ (kd_cons ⟨_, qe1_BEATS⟩ (kd_cons ⟨_, qe2_BEATS⟩ (kd_cons ⟨_, qe3_BEATS⟩ (kd_cons qn0_BEATS (kd_cons qn1_BEATS (kd_nil)))))))⟩, ⟨.int 9999, _, PySem.W.mg_of X G q_CAP, ⟨_, rfl⟩, fun F => .int _⟩, hkt, ⟨(List.forall_mem_cons.mpr ⟨⟨E_NoName, PySem.W.mg_of X G gE_NoName, e1_NoName, e2_NoName, e3_NoName, e4_NoName⟩, (List.forall_mem_cons.mpr ⟨⟨E_BadLaying, PySem.W.mg_of X G gE_BadLaying, e1_BadLaying, e2_BadLaying, e3_BadLaying, e4_BadLaying⟩, fun _ h => nomatch h⟩)⟩), (List.forall_mem_cons.mpr ⟨(List.forall_mem_cons.mpr ⟨⟨E_NoName, E_NoName, PySem.W.mg_of X G gE_NoName, PySem.W.mg_of X G gE_NoName, ee_NoName_NoName⟩, (List.forall_mem_cons.mpr ⟨⟨E_NoName, E_BadLaying, PySem.W.mg_of X G gE_NoName, PySem.W.mg_of X G gE_BadLaying, ee_NoName_BadLaying⟩, fun _ h => nomatch h⟩)⟩), (List.forall_mem_cons.mpr ⟨(List.forall_mem_cons.mpr ⟨⟨E_BadLaying, E_NoName, PySem.W.mg_of X G gE_BadLaying, PySem.W.mg_of X G gE_NoName, ee_BadLaying_NoName⟩, (List.forall_mem_cons.mpr ⟨⟨E_BadLaying, E_BadLaying, PySem.W.mg_of X G gE_BadLaying, PySem.W.mg_of X G gE_BadLaying, ee_BadLaying_BadLaying⟩, fun _ h => nomatch h⟩)⟩), fun _ h => nomatch h⟩)⟩)⟩, ⟨C_Machine, PySem.W.mg_of X G gC_Machine, ⟨pg_Machine, hd_Machine, po_Machine, sa_Machine⟩, (List.forall_mem_cons.mpr ⟨na_Machine_cells, (List.forall_mem_cons.mpr ⟨na_Machine_held, (List.forall_mem_cons.mpr ⟨na_Machine_next, (List.forall_mem_cons.mpr ⟨na_Machine_time, fun _ h => nomatch h⟩)⟩)⟩)⟩)⟩⟩
  have F0 := fun_mk (st := s_read_time) l0 c0 k0
  have B0 := F0.binds (ps := ["drum", "spot", "time"]) fun _ _ _ _ _ _ us hl => match us, hl with | [_, _, _], _ => rfl
  have F1 := fun_mk (st := s_names) l1 c1 k1
  have B1 := F1.binds (ps := ["program"]) fun _ _ _ _ _ _ us hl => match us, hl with | [_], _ => rfl
  have F2 := fun_mk (st := s_orders) l2 c2 k2
  have B2 := F2.binds (ps := ["program"]) fun _ _ _ _ _ _ us hl => match us, hl with | [_], _ => rfl
  have F3 := fun_mk (st := s_need_order) l3 c3 k3
  have B3 := F3.binds (ps := ["program", "name"]) fun _ _ _ _ _ _ us hl => match us, hl with | [_, _], _ => rfl
  have F4 := fun_mk (st := s_is_laying) l4 c4 k4
  have B4 := F4.binds (ps := ["drum", "program", "thing"]) fun _ _ _ _ _ _ us hl => match us, hl with | [_, _, _], _ => rfl
  have F5 := fun_mk (st := s_held) l5 c5 k5
  have B5 := F5.binds (ps := ["number"]) fun _ _ _ _ _ _ us hl => match us, hl with | [_], _ => rfl
  have F6 := fun_mk (st := s_Machine___init__) l6 c6 k6
  have B6 := F6.binds (ps := ["self", "program", "start", "time"]) fun _ _ _ _ _ _ us hl => match us, hl with | [_, _, _, _], _ => rfl
  have F7 := fun_mk (st := s_Machine_done) l7 c7 k7
  have B7 := F7.binds (ps := ["self", "order"]) fun _ _ _ _ _ _ us hl => match us, hl with | [_, _], _ => rfl
  have F8 := fun_mk (st := s_Machine_step) l8 c8 k8
  have B8 := F8.binds (ps := ["self", "read", "word"]) fun _ _ _ _ _ _ us hl => match us, hl with | [_, _, _], _ => rfl
  have F9 := fun_mk (st := s_Machine_words) l9 c9 k9
  have B9 := F9.binds (ps := ["self"]) fun _ _ _ _ _ _ us hl => match us, hl with | [_], _ => rfl
  have F10 := fun_mk (st := s_steps_of) l10 c10 k10
  have B10 := F10.binds (ps := ["program", "start", "time", "most", "when"]) fun _ _ _ _ _ _ us hl => match us, hl with | [_, _, _, _, _], _ => rfl
  have F11 := funC_mk (st := s_run) l11 c11 k11
  have B11 := F11.fn.binds (ps := ["drum", "program", "laying", "start", "time", "most"]) fun _ _ _ _ _ _ us hl => match us, hl with | [_, _, _, _, _, _], _ => rfl
  have F12 := fun_mk (st := s__law_draw) l12 c12 k12
  have B12 := F12.binds (ps := ["_law_script", "_law_town", "_law_many"]) fun _ _ _ _ _ _ us hl => match us, hl with | [_, _, _], _ => rfl
  have F13 := fun_mk (st := s__law_held) l13 c13 k13
  have B13 := F13.binds (ps := ["_law_number"]) fun _ _ _ _ _ _ us hl => match us, hl with | [_], _ => rfl
  have F14 := fun_mk (st := s_law) l14 c14 k14
  have B14 := F14.binds (ps := ["_law_script"]) fun _ _ _ _ _ _ us hl => match us, hl with | [_], _ => rfl
  refine ⟨PySem.W.fnOf "law" "law" (defArgs s_law) (defBody s_law) (defScope s_law) .none kV14 dc14 pm14 an14 cd14 ct14, [(cc11, P11)], spLaw K, (List.forall_mem_cons.mpr ⟨Y P11 tt11, fun _ h => nomatch h⟩), (List.forall_mem_cons.mpr ⟨nn11, fun _ h => nomatch h⟩), (List.forall_mem_cons.mpr ⟨PySem.W.codeHd_of_K X hh11, fun _ h => nomatch h⟩), fun s v => .of_eq rfl, fun H a ns hl _ hT hS => ⟨a, ns, rfl, hS, hl, (List.forall_mem_cons.mpr ⟨hT (cc11, P11) (by simp only [List.mem_cons, true_or, or_true]), fun _ h => nomatch h⟩), fun _ => rfl⟩, fun base bK bN hTB => ?_⟩
  have TB0 : LamX.TabB base mg cc11 P11 := hTB (cc11, P11) (by simp only [List.mem_cons, true_or, or_true])
  have T_read_time := st_read_time (P := l.prog) (w := w) (base := base) T F0 (PySem.W.mg_of X G a0) B0 
  have T_names := st_names (P := l.prog) (w := w) (base := base) T F1 (PySem.W.mg_of X G a1) B1 
  have T_orders := st_orders (P := l.prog) (w := w) (base := base) T F2 (PySem.W.mg_of X G a2) B2 
  have T_need_order := st_need_order (P := l.prog) (w := w) (base := base) T F3 (PySem.W.mg_of X G a3) B3 T_orders
  have T_is_laying := st_is_laying (P := l.prog) (w := w) (base := base) T F4 (PySem.W.mg_of X G a4) B4 T_names
  have T_held := st_held (P := l.prog) (w := w) (base := base) T F5 (PySem.W.mg_of X G a5) B5 
  have T_Machine___init__ : MkN l.prog w K mg base 1 "Machine" 4 m_Machine___init__ := ⟨⟨C_Machine, _, _, _, PySem.W.mg_of X G gC_Machine, ⟨mk_Machine, a6, n6, kp_Machine⟩, B6, st_Machine___init__ (P := l.prog) (w := w) (base := base) T F6 B6 ⟩⟩
  have T_Machine_done : MethN l.prog w K mg base 2 "Machine" "done" 2 m_Machine_done := ⟨⟨C_Machine, _, _, _, PySem.W.mg_of X G gC_Machine, ⟨pg_Machine, hd_Machine, po_Machine, sa_Machine⟩, ⟨a7, n7, k7⟩, B7, st_Machine_done (P := l.prog) (w := w) (base := base) T F7 B7 T_held⟩⟩
  have T_Machine_step : MethN l.prog w K mg base 3 "Machine" "step" 3 m_Machine_step := ⟨⟨C_Machine, _, _, _, PySem.W.mg_of X G gC_Machine, ⟨pg_Machine, hd_Machine, po_Machine, sa_Machine⟩, ⟨a8, n8, k8⟩, B8, st_Machine_step (P := l.prog) (w := w) (base := base) T F8 B8 T_Machine_done⟩⟩
  have T_Machine_words : MethN l.prog w K mg base 1 "Machine" "words" 1 m_Machine_words := ⟨⟨C_Machine, _, _, _, PySem.W.mg_of X G gC_Machine, ⟨pg_Machine, hd_Machine, po_Machine, sa_Machine⟩, ⟨a9, n9, k9⟩, B9, st_Machine_words (P := l.prog) (w := w) (base := base) T F9 B9 ⟩⟩
  have Q0 := cl_run (P := l.prog) (base := base) T hC0 T_read_time
  have hT : ∀ k, CloOk l.prog w K mg base 2 k (lamT k) := fun k => match k with
    | 0 => Q0.mono (by decide)
    | 1 => .none rfl
    | 2 => .none rfl
    | 3 => .none rfl
    | _ + 4 => .none rfl
  have T_steps_of := st_steps_of (P := l.prog) (w := w) (base := base) T F10 (PySem.W.mg_of X G a10) B10 T_Machine___init__ T_Machine_step hT hps
  have T_run := st_run (P := l.prog) (w := w) (base := base) T F11 (PySem.W.mg_of X G a11) B11 T_Machine_words T_is_laying T_need_order T_steps_of TB0 hmT0 huT0 hC0
  have T__law_draw := st__law_draw (P := l.prog) (w := w) (base := base) T F12 (PySem.W.mg_of X G a12) B12 
  have T__law_held := st__law_held (P := l.prog) (w := w) (base := base) T F13 (PySem.W.mg_of X G a13) B13 
  have T_law := st_law (P := l.prog) (w := w) (base := base) T F14 (PySem.W.mg_of X G a14) B14 T__law_draw T__law_held T_run
  exact law_ok T_law t
end Dw
open PySem PySem.W PyProof.Rows in
set_option maxRecDepth 100000 in
set_option maxHeartbeats 0 in
theorem PySem.Challenge.cw_drumwords_k32_whole_bounds_of_sums_holds : PySem.Challenge.rw_drumwords_k32_whole_bounds_of_sums.Holds := by
  w_on; o_law; k_head; (case hw => w_witness2)
  k_fill
  refine LamX.walk_ofTs (n := 63) (k := 6) (x := "_law_script") (CX := fun w => L2.CX (PySem.Challenge.rw_drumwords_k32_whole_bounds_of_sums).prog w) (l := PySem.Challenge.rw_drumwords_k32_whole_bounds_of_sums) rfl (by decide) rfl ⟨rfl, by decide, by decide⟩ (fun w h Y => PySem.W.km_in_of Y) ?F (fun _ _ _ _ _ z => Dw.cx_no0 z)
  case F =>
    intro w mg fa h Y KX G hmg
    refine' Dw.all_mk KX G hmg (PySem.W.km_tabs_of Y) ?gC_Machine ?a0 ?l0 ?c0 ?k0 ?a1 ?l1 ?c1 ?k1 ?a2 ?l2 ?c2 ?k2 ?a3 ?l3 ?c3 ?k3 ?a4 ?l4 ?c4 ?k4 ?a5 ?l5 ?c5 ?k5 ?a6 ?l6 ?c6 ?k6 ?n6 ?a7 ?l7 ?c7 ?k7 ?n7 ?a8 ?l8 ?c8 ?k8 ?n8 ?a9 ?l9 ?c9 ?k9 ?n9 ?a10 ?l10 ?c10 ?k10 ?a11 ?l11 ?c11 ?k11 ?v11 ?p11 ?hh11 ?tt11 ?nn11 ?gp11 ?a12 ?l12 ?c12 ?k12 ?a13 ?l13 ?c13 ?k13 ?a14 ?l14 ?c14 ?k14 ?pg_Machine ?hd_Machine ?po_Machine ?sa_Machine ?na_Machine_cells ?na_Machine_held ?na_Machine_next ?na_Machine_time ?mk_Machine ?kp_Machine ?gE_NoName ?e1_NoName ?e2_NoName ?e3_NoName ?e4_NoName ?gE_BadLaying ?e1_BadLaying ?e2_BadLaying ?e3_BadLaying ?e4_BadLaying ?ee_NoName_NoName ?ee_NoName_BadLaying ?ee_BadLaying_NoName ?ee_BadLaying_BadLaying ?hkt ?z_bool ?z_dict ?z_enumerate ?z_int ?z_isinstance ?z_len ?z_max ?z_min ?z_range ?z_set ?z_sorted ?z_str ?z_tuple ?z_zip ?q_BEATS ?ql_BEATS ?qk_BEATS ?qs_BEATS ?qe0_BEATS ?qe1_BEATS ?qe2_BEATS ?qe3_BEATS ?qn0_BEATS ?qn1_BEATS ?q_CAP Dw.law_true
    (case gC_Machine => k_is)
    (case a0 => k_is)
    (case l0 => k_is)
    (case c0 => k_is)
    (case k0 => k_is)
    (case a1 => k_is)
    (case l1 => k_is)
    (case c1 => k_is)
    (case k1 => k_is)
    (case a2 => k_is)
    (case l2 => k_is)
    (case c2 => k_is)
    (case k2 => k_is)
    (case a3 => k_is)
    (case l3 => k_is)
    (case c3 => k_is)
    (case k3 => k_is)
    (case a4 => k_is)
    (case l4 => k_is)
    (case c4 => k_is)
    (case k4 => k_is)
    (case a5 => k_is)
    (case l5 => k_is)
    (case c5 => k_is)
    (case k5 => k_is)
    (case a6 => k_is)
    (case l6 => k_is)
    (case c6 => k_is)
    (case k6 => k_is)
    (case n6 => k_is)
    (case a7 => k_is)
    (case l7 => k_is)
    (case c7 => k_is)
    (case k7 => k_is)
    (case n7 => k_is)
    (case a8 => k_is)
    (case l8 => k_is)
    (case c8 => k_is)
    (case k8 => k_is)
    (case n8 => k_is)
    (case a9 => k_is)
    (case l9 => k_is)
    (case c9 => k_is)
    (case k9 => k_is)
    (case n9 => k_is)
    (case a10 => k_is)
    (case l10 => k_is)
    (case c10 => k_is)
    (case k10 => k_is)
    (case a11 => k_is)
    (case l11 => k_is)
    (case c11 => k_is)
    (case k11 => k_is)
    (case v11 => k_is)
    (case p11 => exact rfl)
    (case hh11 => kernel_rfl)
    (case tt11 => decide)
    (case nn11 => kernel_rfl)
    (case gp11 => decide)
    (case a12 => k_is)
    (case l12 => k_is)
    (case c12 => k_is)
    (case k12 => k_is)
    (case a13 => k_is)
    (case l13 => k_is)
    (case c13 => k_is)
    (case k13 => k_is)
    (case a14 => k_is)
    (case l14 => k_is)
    (case c14 => k_is)
    (case k14 => k_is)
    (case pg_Machine => k_is)
    (case hd_Machine => k_is)
    (case po_Machine => k_is)
    (case sa_Machine => k_is)
    (case na_Machine_cells => k_is)
    (case na_Machine_held => k_is)
    (case na_Machine_next => k_is)
    (case na_Machine_time => k_is)
    (case mk_Machine => k_is)
    (case kp_Machine => k_is)
    (case gE_NoName => k_is)
    (case e1_NoName => kernel_rfl)
    (case e2_NoName => k_is)
    (case e3_NoName => k_is)
    (case e4_NoName => k_is)
    (case gE_BadLaying => k_is)
    (case e1_BadLaying => kernel_rfl)
    (case e2_BadLaying => k_is)
    (case e3_BadLaying => k_is)
    (case e4_BadLaying => k_is)
    (case ee_NoName_NoName => kernel_rfl)
    (case ee_NoName_BadLaying => kernel_rfl)
    (case ee_BadLaying_NoName => kernel_rfl)
    (case ee_BadLaying_BadLaying => kernel_rfl)
    (case hkt => kernel_rfl)
    (case z_bool => k_is)
    (case z_dict => k_is)
    (case z_enumerate => k_is)
    (case z_int => k_is)
    (case z_isinstance => k_is)
    (case z_len => k_is)
    (case z_max => k_is)
    (case z_min => k_is)
    (case z_range => k_is)
    (case z_set => k_is)
    (case z_sorted => k_is)
    (case z_str => k_is)
    (case z_tuple => k_is)
    (case z_zip => k_is)
    (case q_BEATS => k_is)
    (case ql_BEATS => k_is)
    (case qk_BEATS => exact ⟨⟨_, _, rfl, rfl⟩, ⟨⟨_, _, rfl, rfl⟩, ⟨⟨_, _, rfl, rfl⟩, ⟨⟨_, _, rfl, rfl⟩, trivial⟩⟩⟩⟩)
    (case qs_BEATS => decide)
    (case qe0_BEATS => k_is)
    (case qe1_BEATS => k_is)
    (case qe2_BEATS => k_is)
    (case qe3_BEATS => k_is)
    (case qn0_BEATS => k_is)
    (case qn1_BEATS => k_is)
    (case q_CAP => k_is)
