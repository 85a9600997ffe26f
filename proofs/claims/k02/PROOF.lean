import PyProof.Rows.All
import Wide.All
import OpenK.AllK
import Wide.FinOn
import HandS.ForMost
import HandS.Lambda
import HandS.Nested
import HandS.HotCalls
import HandS.ExcInitHot
import HandS.Wide
import HandS.TryOnly
import HandS.Zip
import HandS.Defaults
import HandS.Style
import HandS.TupAny
import HandS.IsInst
import HandS.FStr
import HandS.Conv
import HandS.RaiseMore
import PyProof.ReprRoads
import HandS.Deep
import HandS.SortInts
import HandS.Replace
import HandS.StrMore
import HandS.Strs
import HandS.Iter
import HandS.More
import HandS.Dict
import HandS.ExcOwn
import HandS.ExcInit
import KE.KExcIs
import HandS.TryMany
import KE.KTryMore
import HandS.ExcIs
import HandS.ExcField
import HandS.SetFor
import HandS.EndTab
import KE.KNestM
import HandS.ClsMeth
import HandS.ReplaceDef
import PySem.Challenge.RW_anycreases_k02_texts_of_ratios
set_option Elab.async false
set_option linter.all false
set_option maxRecDepth 100000
set_option maxHeartbeats 4000000
/-! values as trees, apart from the heap -/
namespace DD
open PySem L2
inductive D where
  | non | bl (b : Bool) | int (i : Int) | str (s : Str)
  | lst (xs : List D) | tup (xs : List D) | ins (c : Nat) (ds : List D) | scr (ns : List Int)
  | dct | fn (n : Nat)
/-- the classes' places and their fields' names -/
structure Pin where
  a : Addr
  d : Addr
  c : Nat
structure Tb where
  K : PySem.W.Frag
  ca : Nat → Addr
  fl : Nat → List Str
  /-- functions that are values: what a name of the module holds, and what an object is -/
  fa : Nat → Option Addr
  fo : Nat → Addr → HO
  /-- the exception in hand -/
  pin : Option Pin
  /-- tables of code objects that stand in the module, and the names they hold -/
  tz : List (Addr × Str)
/-- b is such a table -/
def Tb.tb (T : Tb) (b : Addr) : Prop := ∃ p ∈ T.tz, p.1 = b
section
variable (T : Tb)
mutual
def Is (F : Hp) (v : V) : D → Prop
  | .non => v = .non
  | .bl b => v = .bl b
  | .int i => v = .int i
  | .str s => v = .str s
  | .lst ds => ∃ a vs, v = .ref a ∧ F a = some (.lst vs) ∧ IsL F vs ds
  | .tup ds => ∃ a vs, v = .ref a ∧ SqT T.K F a vs ∧ IsL F vs ds
  | .ins c ds => ∃ a dx vs, v = .ref a ∧ F a = some (.ins (T.ca c) dx ((T.fl c).zip vs)) ∧ vs.length = (T.fl c).length ∧ IsL F vs ds
  | .scr ns => ∃ a, v = .ref a ∧ SqL T.K F a (ns.map V.int)
  | .dct => ∃ a, v = .ref a ∧ F a = some (.dK [])
  | .fn n => ∃ a, v = .ref a ∧ (T.fa n = some a ∨ F a = some (T.fo n a))
def IsL (F : Hp) (vs : List V) : List D → Prop
  | [] => vs = []
  | d :: ds => ∃ v r, vs = v :: r ∧ Is F v d ∧ IsL F r ds
end
def Le (F F' : Hp) : Prop := ∀ b o, F b = some o → F' b = some o
theorem Le.refl (F : Hp) : Le F F := fun _ _ h => h
theorem Le.trans {F G H : Hp} (a : Le F G) (b : Le G H) : Le F H := fun x o h => b x o (a x o h)
theorem sqT_mono {K : PySem.W.Frag} {F F' : Hp} {a : Addr} {vs : List V} (h : Le F F') (q : SqT K F a vs) : SqT K F' a vs := q.elim (fun q => .inl (q.elim (fun q => .inl (h _ _ q)) fun ⟨o, q⟩ => .inr ⟨o, h _ _ q⟩)) .inr
mutual
theorem Is.mono {F F' : Hp} (h : Le F F') : ∀ {v : V} (d : D), Is T F v d → Is T F' v d
  | v, .non, e => by unfold Is at *; exact e
  | v, .bl b, e => by unfold Is at *; exact e
  | v, .int i, e => by unfold Is at *; exact e
  | v, .str s, e => by unfold Is at *; exact e
  | v, .lst ds, e => by unfold Is at *; obtain ⟨a, vs, h1, h2, h3⟩ := e; exact ⟨a, vs, h1, h a _ h2, IsL.mono h ds h3⟩
  | v, .tup ds, e => by unfold Is at *; obtain ⟨a, vs, h1, h2, h3⟩ := e; exact ⟨a, vs, h1, sqT_mono h h2, IsL.mono h ds h3⟩
  | v, .ins c ds, e => by unfold Is at *; obtain ⟨a, dx, vs, h1, h2, hl, h3⟩ := e; exact ⟨a, dx, vs, h1, h a _ h2, hl, IsL.mono h ds h3⟩
  | v, .dct, e => by unfold Is at *; obtain ⟨a, h1, h2⟩ := e; exact ⟨a, h1, h a _ h2⟩
  | v, .fn n, e => by unfold Is at *; obtain ⟨a, h1, h2⟩ := e; exact ⟨a, h1, h2.imp id fun q => h a _ q⟩
  | v, .scr ns, e => by unfold Is at *; obtain ⟨a, h1, h2⟩ := e; exact ⟨a, h1, h2.elim (fun q => .inl (q.elim (fun q => .inl (h _ _ q)) fun ⟨o, q⟩ => .inr ⟨o, h _ _ q⟩)) .inr⟩
theorem IsL.mono {F F' : Hp} (h : Le F F') : ∀ {vs : List V} (ds : List D), IsL T F vs ds → IsL T F' vs ds
  | vs, [], e => by unfold IsL at *; exact e
  | vs, d :: ds, e => by unfold IsL at *; obtain ⟨v, r, h1, h2, h3⟩ := e; exact ⟨v, r, h1, Is.mono h d h2, IsL.mono h ds h3⟩
end
theorem IsL.len {F : Hp} : ∀ {vs : List V} {ds : List D}, IsL T F vs ds → vs.length = ds.length
  | vs, [], e => by unfold IsL at e; rw [e]; rfl
  | vs, d :: ds, e => by
    unfold IsL at e; obtain ⟨v, r, h1, h2, h3⟩ := e
    rw [h1, List.length_cons, List.length_cons, IsL.len h3]
theorem IsL.get {F : Hp} : ∀ {vs : List V} {ds : List D} {i : Nat} {d : D}, IsL T F vs ds → ds[i]? = some d → ∃ v, vs[i]? = some v ∧ Is T F v d
  | vs, [], i, d, e, h => by simp at h
  | vs, d' :: ds, 0, d, e, h => by
    unfold IsL at e; obtain ⟨v, r, h1, h2, h3⟩ := e
    simp at h; subst h; subst h1; exact ⟨v, rfl, h2⟩
  | vs, d' :: ds, i + 1, d, e, h => by
    unfold IsL at e; obtain ⟨v, r, h1, h2, h3⟩ := e
    subst h1
    obtain ⟨v, e1, e2⟩ := IsL.get h3 (by simpa using h)
    exact ⟨v, by simpa using e1, e2⟩
theorem IsL.getV {F : Hp} {vs : List V} {ds : List D} {i : Nat} {v : V} (e : IsL T F vs ds) (h : vs[i]? = some v) : ∃ d, ds[i]? = some d ∧ Is T F v d := by
  have hl := e.len
  have hi : i < ds.length := by rw [← hl]; exact (List.getElem?_eq_some_iff.mp h).1
  obtain ⟨w, e1, e2⟩ := e.get T (List.getElem?_eq_getElem hi)
  rw [h] at e1; cases e1
  exact ⟨ds[i], List.getElem?_eq_getElem hi, e2⟩
theorem IsL.app {F : Hp} : ∀ {vs ws : List V} {ds es : List D}, IsL T F vs ds → IsL T F ws es → IsL T F (vs ++ ws) (ds ++ es)
  | vs, ws, [], es, e, h => by unfold IsL at e; rw [e]; exact h
  | vs, ws, d :: ds, es, e, h => by
    unfold IsL at e; obtain ⟨v, r, h1, h2, h3⟩ := e
    rw [h1, List.cons_append, List.cons_append]; unfold IsL
    exact ⟨v, r ++ ws, rfl, h2, IsL.app h3 h⟩
theorem IsL.nil {F : Hp} : IsL T F [] [] := by unfold IsL; rfl
theorem IsL.cons {F : Hp} {v : V} {d : D} {vs : List V} {ds : List D} (h : Is T F v d) (hs : IsL T F vs ds) : IsL T F (v :: vs) (d :: ds) := by
  unfold IsL; exact ⟨v, vs, rfl, h, hs⟩
theorem IsL.one {F : Hp} {v : V} {d : D} (h : Is T F v d) : IsL T F [v] [d] := IsL.cons T h (IsL.nil T)
theorem IsL.set {F : Hp} : ∀ {vs : List V} {ds : List D} (i : Nat) {v : V} {d : D}, IsL T F vs ds → Is T F v d → IsL T F (vs.set i v) (ds.set i d)
  | vs, [], i, v, d, e, h => by unfold IsL at e; rw [e]; exact IsL.nil T
  | vs, d' :: ds, 0, v, d, e, h => by
    unfold IsL at e; obtain ⟨w, r, h1, h2, h3⟩ := e
    rw [h1]; exact IsL.cons T h h3
  | vs, d' :: ds, i + 1, v, d, e, h => by
    unfold IsL at e; obtain ⟨w, r, h1, h2, h3⟩ := e
    rw [h1]; exact IsL.cons T h2 (IsL.set i h3 h)
theorem IsL.drop {F : Hp} : ∀ {vs : List V} {ds : List D} (n : Nat), IsL T F vs ds → IsL T F (vs.drop n) (ds.drop n)
  | vs, ds, 0, e => e
  | vs, [], n + 1, e => by unfold IsL at e; rw [e]; exact IsL.nil T
  | vs, d :: ds, n + 1, e => by
    unfold IsL at e; obtain ⟨w, r, h1, h2, h3⟩ := e
    rw [h1]; exact IsL.drop n h3
theorem IsL.take {F : Hp} : ∀ {vs : List V} {ds : List D} (n : Nat), IsL T F vs ds → IsL T F (vs.take n) (ds.take n)
  | vs, ds, 0, e => by rw [List.take_zero, List.take_zero]; exact IsL.nil T
  | vs, [], n + 1, e => by unfold IsL at e; rw [e]; exact IsL.nil T
  | vs, d :: ds, n + 1, e => by
    unfold IsL at e; obtain ⟨w, r, h1, h2, h3⟩ := e
    rw [h1]; exact IsL.cons T h2 (IsL.take n h3)
/-! ### what a slot holds -/
inductive SV where
  | val (d : D) | own (ds : List D) | bag | slf (c : Nat) (ds : List D) | pr (ds : List D) (d : D) | exc (c : Nat) (ds : List D)
def SV.isVal : SV → Bool
  | .val _ => true
  | .exc _ _ => true
  | _ => false
abbrev DEnv := List (Option SV)
def IsBag (H : Hp) (a : Addr) : Prop := ∃ f s c : Int, H a = some (.lst [.int f, .int s, .int c]) ∧ 0 ≤ f ∧ 0 ≤ s ∧ 0 ≤ c
def RelS (F H : Hp) (v : V) : SV → Prop
  | .pr _ _ => False
  | .exc c ds => ∃ p vs, T.pin = some p ∧ p.c = c ∧ v = .ref p.a ∧ F p.d = some (.xd ((T.fl c).zip vs)) ∧ vs.length = (T.fl c).length ∧ IsL T F vs ds
  | .val d => Is T F v d
  | .own ds => ∃ a vs, v = .ref a ∧ H a = some (.lst vs) ∧ F a = none ∧ IsL T F vs ds
  | .bag => ∃ a, v = .ref a ∧ IsBag H a ∧ F a = none
  | .slf c ds => ∃ a dx vs, v = .ref a ∧ H a = some (.ins (T.ca c) dx (((T.fl c).take ds.length).zip vs)) ∧ ds.length ≤ (T.fl c).length ∧ F a = none ∧ IsL T F vs ds
/-- the entry: what was known, what stood, the bags and the own object that may change -/
structure En where
  F0 : Hp
  H0 : Hp
  Bg : Addr → Prop
  Sf : Addr → Prop
  /-- tables of code objects that stand here -/
  tz : List (Addr × Str)
def Mine (e : En) (v : V) : SV → Prop
  | .pr _ _ => False
  | .val _ => True
  | .exc _ _ => True
  | .own _ => ∀ a, v = .ref a → e.H0 a = none
  | .bag => ∀ a, v = .ref a → e.Bg a ∨ e.H0 a = none
  | .slf _ _ => ∀ a, v = .ref a → e.Sf a
/-- the tables stand, and the entry lets them grow -/
def TabsE (e : En) (H : Hp) : Prop := LamX.Tabs T.tz H ∧ ∀ b, T.tb b → e.Sf b ∧ e.F0 b = none ∧ ∃ o, e.H0 b = some o
structure Sim (e : En) (F : Hp) (δ : DEnv) (σ : L2.St) (H : Hp) : Prop where
  len : δ.length = σ.length
  sub : Le F H
  base : Le e.F0 F
  new : ∀ b o, F b = some o → e.F0 b = some o ∨ e.H0 b = none
  keep : ∀ b o, e.H0 b = some o → ¬ e.Bg b → ¬ e.Sf b → H b = some o
  bags : ∀ b, e.Bg b → IsBag H b
  self : ∀ b, e.Sf b → ∃ o, H b = some o
  bgt : ∀ b, e.Bg b → ∃ o, e.H0 b = some o
  tabs : TabsE T e H
  slot : ∀ (i : Nat) (sv : SV), δ[i]? = some (some sv) → ∃ v, σ[i]? = some (some v) ∧ RelS T F H v sv ∧ Mine e v sv
  sep : ∀ (i j : Nat) (si sj : SV) (v : V), δ[i]? = some (some si) → δ[j]? = some (some sj) → si.isVal = false → sj.isVal = false → σ[i]? = some (some v) → σ[j]? = some (some v) → i = j
/-- a result, apart from the slots -/
def RelP (F H : Hp) (v : V) (ds : List D) (d : D) : Prop := ∃ p q vs w, v = .ref p ∧ H p = some (.lst [.ref q, w]) ∧ H q = some (.lst vs) ∧ F p = none ∧ F q = none ∧ p ≠ q ∧ IsL T F vs ds ∧ Is T F w d
def Res (e : En) (F H : Hp) (δ : DEnv) (σ : L2.St) (v : V) : SV → Prop
  | .pr ds d => RelP T F H v ds d ∧ ∀ p q w, v = .ref p → H p = some (.lst [.ref q, w]) → e.H0 p = none ∧ e.H0 q = none
  | .val d => Is T F v d
  | .own ds => RelS T F H v (.own ds) ∧ Mine e v (.own ds) ∧ ∀ (i : Nat) (si : SV), δ[i]? = some (some si) → si.isVal = false → σ[i]? ≠ some (some v)
  | .bag => ∃ i : Nat, δ[i]? = some (some .bag) ∧ σ[i]? = some (some v)
  | .slf _ _ => False
  | .exc _ _ => False
abbrev W := DEnv → (SV → Prop) → Prop
abbrev WT := DEnv → (Bool → Prop) → Prop
abbrev WA := DEnv → (List SV → Prop) → Prop
def lift (w : W) : TE := fun σ H Q => ∃ e F δ Qd, Sim T e F δ σ H ∧ w δ Qd ∧ ∀ v H' F' sv, Sim T e F' δ σ H' → Le F F' → Res T e F' H' δ σ v sv → Qd sv → Q v H'
def liftT (w : WT) : TT := fun σ H Q => ∃ e F δ Qd, Sim T e F δ σ H ∧ w δ Qd ∧ ∀ b H' F', Sim T e F' δ σ H' → Le F F' → Qd b → Q b H'
/-- arguments: each a value, or a bag of the frame's -/
def ResA (F : Hp) (δ : DEnv) (σ : L2.St) : List V → List SV → Prop
  | [], [] => True
  | v :: vs, .val d :: svs => Is T F v d ∧ ResA F δ σ vs svs
  | v :: vs, .bag :: svs => (∃ i : Nat, δ[i]? = some (some .bag) ∧ σ[i]? = some (some v)) ∧ ResA F δ σ vs svs
  | _, _ => False
def liftA (w : WA) : TA := fun σ H Q => ∃ e F δ Qd, Sim T e F δ σ H ∧ w δ Qd ∧ ∀ vs H' F' svs, Sim T e F' δ σ H' → Le F F' → ResA T F' δ σ vs svs → Qd svs → Q vs H'
structure DE where
  nx : DEnv → Prop
  rt : SV → Prop
  bk : DEnv → Prop
  ct : DEnv → Prop
abbrev WS := DE → DEnv → Prop
def liftS (w : WS) : TS := fun D σ H => ∃ e F δ Dd, Sim T e F δ σ H ∧ w Dd δ ∧
  (∀ σ' H' F' δ', Sim T e F' δ' σ' H' → Le F F' → Dd.nx δ' → D.nx σ' H') ∧
  (∀ v σ' H' F' δ' sv, Sim T e F' δ' σ' H' → Le F F' → Res T e F' H' δ' σ' v sv → Dd.rt sv → D.rt v H') ∧
  (∀ σ' H' F' δ', Sim T e F' δ' σ' H' → Le F F' → Dd.bk δ' → D.bk σ' H') ∧
  (∀ σ' H' F' δ', Sim T e F' δ' σ' H' → Le F F' → Dd.ct δ' → D.ct σ' H')
/-! ### freezing -/
section
variable {T} {e : En} {F F' H H' : Hp} {δ : DEnv} {σ : L2.St} {v : V}
theorem Sim.fnone (S : Sim T e F δ σ H) {a : Addr} (h : H a = none) : F a = none := by
  cases q : F a with
  | none => rfl
  | some o => rw [S.sub a o q] at h; cases h
/-- a new object, known from now on -/
theorem le_upd {F : Hp} {a : Addr} {o : HO} (h : F a = none) : Le F (upd F a o) := fun b u q => by rw [upd_ne (ne_of_none q h)]; exact q
theorem Le.updR {F H : Hp} {a : Addr} {o : HO} (h : Le F H) (hn : F a = none) : Le F (upd H a o) := fun b u q => by
  rw [upd_ne (ne_of_none q hn)]; exact h b u q
theorem Le.upd2 {F H : Hp} {a : Addr} {o : HO} (h : Le F H) (hn : F a = none) : Le (upd F a o) (upd H a o) := fun b u q => by
  by_cases hb : b = a
  · subst hb; rw [upd_same] at *; exact q
  · rw [upd_ne hb] at *; exact h b u q
theorem RelS.mono (hF : Le F F') {sv : SV} (h : RelS T F H v sv) (hH : ∀ a, v = .ref a → sv.isVal = false → H' a = H a) (hn : ∀ a, v = .ref a → sv.isVal = false → F a = none → F' a = none) : RelS T F' H' v sv := by
  cases sv with
  | val d => exact Is.mono T hF d h
  | own ds =>
    obtain ⟨a, vs, h1, h2, h3, h4⟩ := h
    exact ⟨a, vs, h1, by rw [hH a h1 rfl]; exact h2, hn a h1 rfl h3, IsL.mono T hF ds h4⟩
  | bag =>
    obtain ⟨a, h1, ⟨f, s, c, h2, h3⟩, h4⟩ := h
    exact ⟨a, h1, ⟨f, s, c, by rw [hH a h1 rfl]; exact h2, h3⟩, hn a h1 rfl h4⟩
  | slf c ds =>
    obtain ⟨a, dx, vs, h1, h2, hl, h3, h4⟩ := h
    exact ⟨a, dx, vs, h1, by rw [hH a h1 rfl]; exact h2, hl, hn a h1 rfl h3, IsL.mono T hF ds h4⟩
  | pr _ _ => exact h.elim
  | exc c ds =>
    obtain ⟨p, vs, h1, h2, h3, h4, h5, h6⟩ := h
    exact ⟨p, vs, h1, h2, h3, hF _ _ h4, h5, IsL.mono T hF ds h6⟩
/-- a value, in what has grown -/
theorem RelS.monoV (hF : Le F F') {sv : SV} (h : RelS T F H v sv) (hv : sv.isVal = true) : RelS T F' H' v sv :=
  h.mono hF (fun _ _ z => by rw [hv] at z; cases z) (fun _ _ z => by rw [hv] at z; cases z)
/-- tables stay where nothing is written but lists, instances and what is new -/
theorem tabz_keep {tz : List (Addr × Str)} (t : LamX.Tabs tz H) (h : ∀ b o, H b = some o → ((∃ ps, o = .tbl ps) ∨ ∃ φ, o = .ext φ) → H' b = some o) : LamX.Tabs tz H' := fun p hp => by
  obtain ⟨ps, h1, h2, h3⟩ := t p hp
  refine ⟨ps, h _ _ h1 (.inl ⟨ps, rfl⟩), h2, fun pos cv hc => ?_⟩
  obtain ⟨c, e1, e2⟩ := h3 pos cv hc
  exact ⟨c, e1, h _ _ e2 (.inr ⟨_, rfl⟩)⟩
theorem tabz_new {tz : List (Addr × Str)} (t : LamX.Tabs tz H) {p : Addr} {o : HO} (hp : H p = none) : LamX.Tabs tz (upd H p o) := tabz_keep t fun b u q _ => by rw [upd_ne (ne_of_none q hp)]; exact q
/-- an object that is no table is written -/
theorem tabz_wr {tz : List (Addr × Str)} (t : LamX.Tabs tz H) {p : Addr} {o u : HO} (hp : H p = some u) (h1 : ∀ ps, u ≠ .tbl ps) (h2 : ∀ φ, u ≠ .ext φ) : LamX.Tabs tz (upd H p o) := tabz_keep t fun b x q hx => by
  rw [upd_ne]
  · exact q
  · rintro rfl
    rw [hp] at q; cases q
    rcases hx with ⟨ps, rfl⟩ | ⟨φ, rfl⟩
    · exact h1 _ rfl
    · exact h2 _ rfl
theorem tabs_new (t : TabsE T e H) {p : Addr} {o : HO} (hp : H p = none) : TabsE T e (upd H p o) := ⟨tabz_new t.1 hp, t.2⟩
theorem tabs_wr (t : TabsE T e H) {p : Addr} {o u : HO} (hp : H p = some u) (h1 : ∀ ps, u ≠ .tbl ps) (h2 : ∀ φ, u ≠ .ext φ) : TabsE T e (upd H p o) := ⟨tabz_wr t.1 hp h1 h2, t.2⟩
theorem noTab (t : LamX.Tabs T.tz H) {b : Addr} {o : HO} (q : H b = some o) (h : ∀ ps, o ≠ .tbl ps) : ¬ T.tb b := by
  rintro ⟨p, hp, rfl⟩
  obtain ⟨ps, h1, _⟩ := t p hp
  rw [q] at h1
  exact h ps (Option.some.inj h1)
theorem noTab0 (t : LamX.Tabs T.tz H) {b : Addr} (q : H b = none) : ¬ T.tb b := by
  rintro ⟨p, hp, rfl⟩
  obtain ⟨ps, h1, _⟩ := t p hp
  rw [q] at h1; cases h1
theorem tabAt (t : LamX.Tabs T.tz H) {b : Addr} (h : T.tb b) : ∃ o, H b = some o := by
  obtain ⟨p, hp, rfl⟩ := h
  obtain ⟨ps, h1, _⟩ := t p hp
  exact ⟨_, h1⟩
/-- no table is known -/
theorem Sim.fnTab (S : Sim T e F δ σ H) {b : Addr} (h : T.tb b) : F b = none := by
  obtain ⟨_, h2, o, h3⟩ := S.tabs.2 b h
  cases q : F b with
  | none => rfl
  | some u =>
    rcases S.new b u q with z | z
    · rw [h2] at z; cases z
    · rw [h3] at z; cases z
/-- what stands at a slot that may change -/
theorem RelS.there {sv : SV} (h : RelS T F H v sv) (hv : sv.isVal = false) : ∃ a o, v = .ref a ∧ H a = some o ∧ F a = none := by
  cases sv with
  | val d => cases hv
  | exc _ _ => cases hv
  | own ds => obtain ⟨a, vs, h1, h2, h3, h4⟩ := h; exact ⟨a, _, h1, h2, h3⟩
  | bag => obtain ⟨a, h1, ⟨f, s, c, h2, h3⟩, h4⟩ := h; exact ⟨a, _, h1, h2, h4⟩
  | slf c ds => obtain ⟨a, dx, vs, h1, h2, hl, h3, h4⟩ := h; exact ⟨a, _, h1, h2, h3⟩
  | pr _ _ => exact h.elim
theorem RelS.soft {sv : SV} {a : Addr} {o : HO} (h : RelS T F H (.ref a) sv) (hv : sv.isVal = false) (q : H a = some o) : (∀ ps, o ≠ .tbl ps) ∧ ∀ φ, o ≠ .ext φ := by
  cases sv with
  | val d => cases hv
  | exc _ _ => cases hv
  | own ds => obtain ⟨b, vs, h1, h2, _⟩ := h; cases h1; rw [q] at h2; cases h2; exact ⟨(fun _ z => by cases z), (fun _ z => by cases z)⟩
  | bag => obtain ⟨b, h1, ⟨f, s, c, h2, _⟩, _⟩ := h; cases h1; rw [q] at h2; cases h2; exact ⟨(fun _ z => by cases z), (fun _ z => by cases z)⟩
  | slf c ds => obtain ⟨b, dx, vs, h1, h2, _⟩ := h; cases h1; rw [q] at h2; cases h2; exact ⟨(fun _ z => by cases z), (fun _ z => by cases z)⟩
  | pr _ _ => exact h.elim
/-- the heap grows by what is new at p, known or not -/
theorem Sim.laid (S : Sim T e F δ σ H) {p : Addr} {o : HO} (hp : H p = none) : Sim T e F δ σ (upd H p o) := by
  have hF := S.fnone hp
  refine ⟨S.len, S.sub.updR hF, S.base, S.new, fun b u q n1 n2 => ?_, fun b hb => ?_, fun b hb => ?_, S.bgt, tabs_new S.tabs hp, fun i sv q => ?_, S.sep⟩
  · rw [upd_ne (ne_of_none (S.keep b u q n1 n2) hp)]; exact S.keep b u q n1 n2
  · obtain ⟨f, s, c, h2, h3⟩ := S.bags b hb
    exact ⟨f, s, c, by rw [upd_ne (ne_of_none h2 hp)]; exact h2, h3⟩
  · obtain ⟨u, h2⟩ := S.self b hb
    exact ⟨u, by rw [upd_ne (ne_of_none h2 hp)]; exact h2⟩
  · obtain ⟨v, h1, h2, h3⟩ := S.slot i sv q
    refine ⟨v, h1, h2.mono (Le.refl _) (fun a ha hv => ?_) (fun _ _ _ h => h), h3⟩
    obtain ⟨a', o', e1, e2, _⟩ := h2.there hv
    rw [e1] at ha; cases ha
    exact upd_ne (ne_of_none e2 hp)
/-- an object apart from the slots becomes known -/
theorem Sim.frz (S : Sim T e F δ σ H) {p : Addr} {o : HO} (hp : H p = some o) (h0 : e.H0 p = none) (hF : F p = none) (hs : ∀ (i : Nat) (si : SV), δ[i]? = some (some si) → si.isVal = false → σ[i]? ≠ some (some (.ref p))) : Sim T e (upd F p o) δ σ H := by
  refine ⟨S.len, fun b u q => ?_, S.base.trans (le_upd hF), fun b u q => ?_, S.keep, S.bags, S.self, S.bgt, S.tabs, fun i sv q => ?_, S.sep⟩
  · by_cases hb : b = p
    · subst hb; rw [upd_same] at q; cases q; exact hp
    · rw [upd_ne hb] at q; exact S.sub b u q
  · by_cases hb : b = p
    · subst hb; exact .inr h0
    · rw [upd_ne hb] at q; exact S.new b u q
  · obtain ⟨v, h1, h2, h3⟩ := S.slot i sv q
    refine ⟨v, h1, h2.mono (le_upd hF) (fun _ _ _ => rfl) (fun a ha hv h => ?_), h3⟩
    rw [upd_ne ?_]
    · exact h
    · rintro rfl
      exact hs i sv q hv (by rw [h1, ha])
/-- laid and known -/
theorem Sim.laidK (S : Sim T e F δ σ H) {p : Addr} {o : HO} (hp : H p = none) : Sim T e (upd F p o) δ σ (upd H p o) := by
  refine (S.laid hp).frz upd_same ?_ (S.fnone hp) fun i si q hv z => ?_
  · cases q : e.H0 p with
    | none => rfl
    | some u =>
      by_cases hB : e.Bg p
      · obtain ⟨f, s, c, h2, _⟩ := S.bags p hB; rw [hp] at h2; cases h2
      · by_cases hS : e.Sf p
        · obtain ⟨u', h2⟩ := S.self p hS; rw [hp] at h2; cases h2
        · rw [S.keep p u q hB hS] at hp; cases hp
  · obtain ⟨v, h1, h2, _⟩ := S.slot i si q
    obtain ⟨a, o', e1, e2, _⟩ := h2.there hv
    rw [z] at h1; cases h1; cases e1
    rw [hp] at e2; cases e2
end
end
end DD
namespace DD
open PySem L2
theorem PE.weak {X : Cx} {e : Expr} {t t' : TE} (h : PE X e t) (k : ∀ σ H Q, t' σ H Q → t σ H Q) : PE X e t' := ⟨fun pins s σ H Q I q => h.run pins s σ H Q I (k _ _ _ q)⟩
theorem PT.weak {X : Cx} {e : Expr} {t t' : TT} (h : PT X e t) (k : ∀ σ H Q, t' σ H Q → t σ H Q) : PT X e t' := ⟨fun pins s σ H Q I q => h.run pins s σ H Q I (k _ _ _ q)⟩
theorem PW.weak {X : Cx} {e : Expr} {t t' : TT} (h : PW X e t) (k : ∀ σ H Q, t' σ H Q → t σ H Q) : PW X e t' := ⟨fun wh pins s σ H Q I q => h.run wh pins s σ H Q I (k _ _ _ q)⟩
theorem PA.weak {X : Cx} {es : List Expr} {t t' : TA} (h : PA X es t) (k : ∀ σ H Q, t' σ H Q → t σ H Q) : PA X es t' := ⟨fun pos pins s σ H Q I q => h.run pos pins s σ H Q I (k _ _ _ q)⟩
def wd (x : SV) (k : D → Prop) : Prop := match x with
  | .val d => k d
  | .own ds => k (.lst ds)
  | _ => False
section
variable {T : Tb} {e : En} {F F' H H' : Hp} {δ : DEnv} {σ : L2.St} {v : V} {sv : SV}
theorem Res.wd (S : Sim T e F δ σ H) (r : Res T e F H δ σ v sv) {k : D → Prop} (q : wd sv k) : ∃ F' d, Le F F' ∧ Sim T e F' δ σ H ∧ Is T F' v d ∧ k d := by
  cases sv with
  | val d => exact ⟨F, d, Le.refl F, S, r, q⟩
  | own ds =>
    obtain ⟨⟨a, vs, rfl, h2, h3, h4⟩, hm, hs⟩ := r
    exact ⟨upd F a (.lst vs), .lst ds, le_upd h3, S.frz h2 (hm a rfl) h3 hs, by unfold Is; exact ⟨a, vs, rfl, upd_same, IsL.mono T (le_upd h3) ds h4⟩, q⟩
  | bag => exact q.elim
  | slf c ds => exact q.elim
  | pr _ _ => exact q.elim
  | exc _ _ => exact q.elim
/-- what the evaluation of an expression leaves, as a value -/
theorem use {w : W} {te : TE} {Q : VK} {k : D → Prop} (S : Sim T e F δ σ H) (h : w δ fun x => wd x k) (hk : ∀ v H' F' d, Sim T e F' δ σ H' → Le F F' → Is T F' v d → k d → Q v H') : lift T w σ H Q := by
  refine ⟨e, F, δ, _, S, h, fun v H' F' sv S' le r q => ?_⟩
  obtain ⟨F2, d, l2, S2, i2, q2⟩ := r.wd S' q
  exact hk v H' F2 d S2 (le.trans l2) i2 q2
end
/-! ### values -/
def wC (d : D) : W := fun _ Q => Q (.val d)
def wVar (i : Nat) : W := fun δ Q => match δ[i]? with
  | some (some (.val d)) => Q (.val d)
  | some (some .bag) => Q .bag
  | _ => False
section
variable {X : Cx} {T : Tb} {pos p : Pos}
theorem d_c {e : Expr} {v : V} {d : D} (h : PE X e (tC v)) (hd : ∀ F, Is T F v d) : PE X e (lift T (wC d)) :=
  PE.weak h fun σ H Q ⟨e, F, δ, Qd, S, w, k⟩ => k v H F (.val d) S (Le.refl F) (hd F) w
theorem d_int {i j} : PE X (.Constant (.int i) j pos) (lift T (wC (.int i))) := d_c pe_int fun F => by unfold Is; rfl
theorem d_bl {b j} : PE X (.Constant (.bool b) j pos) (lift T (wC (.bl b))) := d_c pe_bl fun F => by unfold Is; rfl
theorem d_non {j} : PE X (.Constant .none j pos) (lift T (wC .non)) := d_c pe_non fun F => by unfold Is; rfl
theorem d_str {x j} : PE X (.Constant (.str x) j pos) (lift T (wC (.str x))) := d_c pe_str fun F => by unfold Is; rfl
/-- a module's constant -/
theorem d_glob {x : Str} {v : V} {d : D} {u : Value} (hm : X.mg x = some u) (r : RelV v u) (hd : ∀ F, Is T F v d) (hg : Gl X x := by rfl) (hdb : (x == ("__debug__" : Str)) = false := by decide) : PE X (.Name x pos) (lift T (wC d)) :=
  d_c (pe_glob hg hm r hdb) hd
theorem d_var (i : Nat) {x : Str} (hN : X.N[i]? = some x := by rfl) (hv : Vis X.env.scope x := by first | exact Or.inl rfl | exact Or.inr (Or.inl rfl) | exact Or.inr (Or.inr rfl)) (hd : (x == ("__debug__" : Str)) = false := by decide)
    (hcd : (x == ("__classdict__" : Str)) = false := by decide) : PE X (.Name x pos) (lift T (wVar i)) := by
  refine PE.weak (pe_var hN hv hd hcd) fun σ H Q ⟨e, F, δ, Qd, S, w, k⟩ => ?_
  unfold wVar at w
  split at w
  · rename_i d hi
    obtain ⟨v, h1, h2, h3⟩ := S.slot i _ hi
    exact ⟨v, h1, k v H F (.val d) S (Le.refl F) h2 w⟩
  · rename_i hi
    obtain ⟨v, h1, h2, h3⟩ := S.slot i _ hi
    exact ⟨v, h1, k v H F .bag S (Le.refl F) ⟨i, hi, h1⟩ w⟩
  · exact w.elim
end
/-! ### operators by values -/
abbrev P2f := D → D → (SV → Prop) → Prop
abbrev P1f := D → (SV → Prop) → Prop
abbrev PNf := List D → (SV → Prop) → Prop
section
variable (T : Tb)
def Kont (e : En) (F : Hp) (δ : DEnv) (σ : L2.St) (Qd : SV → Prop) (Q : VK) : Prop := ∀ v H' F' sv, Sim T e F' δ σ H' → Le F F' → Res T e F' H' δ σ v sv → Qd sv → Q v H'
def P2 (r : R2) (f : P2f) : Prop := ∀ (e : En) (F H : Hp) (δ : DEnv) (σ : L2.St) (x y : V) (dx dy : D) (Qd : SV → Prop) (Q : VK), Sim T e F δ σ H → Is T F x dx → Is T F y dy → f dx dy Qd → Kont T e F δ σ Qd Q → r x y H Q
def P1 (r : V → Hp → VK → Prop) (f : P1f) : Prop := ∀ (e : En) (F H : Hp) (δ : DEnv) (σ : L2.St) (x : V) (dx : D) (Qd : SV → Prop) (Q : VK), Sim T e F δ σ H → Is T F x dx → f dx Qd → Kont T e F δ σ Qd Q → r x H Q
def PN (r : List V → Hp → VK → Prop) (f : PNf) : Prop := ∀ (e : En) (F H : Hp) (δ : DEnv) (σ : L2.St) (xs : List V) (ds : List D) (Qd : SV → Prop) (Q : VK), Sim T e F δ σ H → IsL T F xs ds → f ds Qd → Kont T e F δ σ Qd Q → r xs H Q
/-- a method of a built-in: the receiver, the arguments -/
def PM (r : V → List V → Hp → VK → Prop) (f : D → PNf) : Prop := ∀ (e : En) (F H : Hp) (δ : DEnv) (σ : L2.St) (x : V) (dx : D) (xs : List V) (ds : List D) (Qd : SV → Prop) (Q : VK), Sim T e F δ σ H → Is T F x dx → IsL T F xs ds → f dx ds Qd → Kont T e F δ σ Qd Q → r x xs H Q
end
def wOp (f : P2f) (a b : W) : W := fun δ Q => a δ fun x => wd x fun dx => b δ fun y => wd y fun dy => f dx dy Q
def wUn (f : P1f) (a : W) : W := fun δ Q => a δ fun x => wd x fun dx => f dx Q
section
variable {X : Cx} {T : Tb} {pos p : Pos} {a b c : Expr} {wa wb wc : W}
theorem lift_op {r : R2} {f : P2f} (hp : P2 T r f) {σ : L2.St} {H : Hp} {Q : VK} (h : lift T (wOp f wa wb) σ H Q) : tOp r (lift T wa) (lift T wb) σ H Q := by
  obtain ⟨e, F, δ, Qd, S, w, k⟩ := h
  refine use (te := lift T wa) S w fun x H1 F1 dx S1 l1 i1 w1 => ?_
  refine use (te := lift T wb) S1 w1 fun y H2 F2 dy S2 l2 i2 w2 => ?_
  exact hp e F2 H2 δ σ x y dx dy Qd Q S2 (Is.mono T l2 dx i1) i2 w2 fun v H' F' sv S' l' r' q' => k v H' F' sv S' ((l1.trans l2).trans l') r' q'
theorem d_op {op : Operator} {r : R2} {f : P2f} (ho : OpR X (binaryOp op) r) (hp : P2 T r f) (ha : PE X a (lift T wa)) (hb : PE X b (lift T wb)) : PE X (.BinOp a op b pos) (lift T (wOp f wa wb)) :=
  PE.weak (pe_op ho ha hb) fun σ H Q h => lift_op hp h
theorem d_cmp {op : CmpOp} {r : R2} {f : P2f} (ho : OpR X (compareOp op) r) (hp : P2 T r f) (ha : PE X a (lift T wa)) (hb : PE X b (lift T wb)) (hm : behindInMarks op b = false := by first | exact nomark _ (by decide) (by decide) | rfl) : PE X (.Compare a [op] [b] pos) (lift T (wOp f wa wb)) :=
  PE.weak (pe_cmpR ho ha hb hm) fun σ H Q h => lift_op hp h
theorem lift_un {r : V → Hp → VK → Prop} {f : P1f} (hp : P1 T r f) {σ : L2.St} {H : Hp} {Q : VK} (h : lift T (wUn f wa) σ H Q) : tUn r (lift T wa) σ H Q := by
  obtain ⟨e, F, δ, Qd, S, w, k⟩ := h
  refine use (te := lift T wa) S w fun x H1 F1 dx S1 l1 i1 w1 => ?_
  exact hp e F1 H1 δ σ x dx Qd Q S1 i1 w1 fun v H' F' sv S' l' r' q' => k v H' F' sv S' (l1.trans l') r' q'
theorem d_un {op : UnaryOp} {r : V → Hp → VK → Prop} {f : P1f} (ho : UnR X (unaryOp op) r) (hp : P1 T r f) (ha : PE X a (lift T wa)) : PE X (.UnaryOp op a pos) (lift T (wUn f wa)) :=
  PE.weak (pe_un ho ha) fun σ H Q h => lift_un hp h
end
/-! ### arguments -/
def wNil : WA := fun _ Q => Q []
def wCons (w : W) (ws : WA) : WA := fun δ Q => w δ fun x => match x with
  | .bag => ws δ fun xs => Q (.bag :: xs)
  | x => wd x fun d => ws δ fun xs => Q (.val d :: xs)
section
variable {X : Cx} {T : Tb} {pos p : Pos} {a b c : Expr} {es : List Expr} {wa wb wc : W} {ws : WA}
theorem ResA.mono {F F' : Hp} (h : Le F F') {δ : DEnv} {σ : L2.St} : ∀ {vs : List V} {svs : List SV}, ResA T F δ σ vs svs → ResA T F' δ σ vs svs
  | [], [], _ => trivial
  | [], _ :: _, q => q.elim
  | v :: vs, [], q => q.elim
  | v :: vs, .val d :: svs, q => ⟨Is.mono T h d q.1, ResA.mono h q.2⟩
  | v :: vs, .bag :: svs, q => ⟨q.1, ResA.mono h q.2⟩
  | v :: vs, .own _ :: svs, q => q.elim
  | v :: vs, .slf _ _ :: svs, q => q.elim
  | v :: vs, .pr _ _ :: svs, q => q.elim
  | v :: vs, .exc _ _ :: svs, q => q.elim
theorem a_nil : PA X [] (liftA T wNil) := PA.weak pa_nil fun σ H Q ⟨e, F, δ, Qd, S, w, k⟩ => k [] H F [] S (Le.refl F) trivial w
theorem acons_lift {te : TE} (hte : te = lift T wa) {σ : L2.St} {H : Hp} {Q : List V → Hp → Prop} (h : liftA T (wCons wa ws) σ H Q) : tCons te (liftA T ws) σ H Q := by
  subst hte
  obtain ⟨e, F, δ, Qd, S, w, k⟩ := h
  refine ⟨e, F, δ, _, S, w, fun v H1 F1 sv S1 l1 r1 q1 => ?_⟩
  cases sv with
  | bag =>
    refine ⟨e, F1, δ, _, S1, q1, fun vs H2 F2 svs S2 l2 r2 q2 => ?_⟩
    exact k (v :: vs) H2 F2 (.bag :: svs) S2 (l1.trans l2) ⟨r1, r2⟩ q2
  | val d =>
    refine ⟨e, F1, δ, _, S1, q1, fun vs H2 F2 svs S2 l2 r2 q2 => ?_⟩
    exact k (v :: vs) H2 F2 (.val d :: svs) S2 (l1.trans l2) ⟨Is.mono T l2 d r1, r2⟩ q2
  | own ds =>
    obtain ⟨F1', d, l1', S1', i1, q1⟩ := r1.wd S1 q1
    refine ⟨e, F1', δ, _, S1', q1, fun vs H2 F2 svs S2 l2 r2 q2 => ?_⟩
    exact k (v :: vs) H2 F2 (.val d :: svs) S2 ((l1.trans l1').trans l2) ⟨Is.mono T l2 d i1, r2⟩ q2
  | slf c ds => exact q1.elim
  | pr _ _ => exact q1.elim
  | exc _ _ => exact q1.elim
theorem a_cons (ha : PE X a (lift T wa)) (hr : PA X es (liftA T ws)) (hs : starEach (a :: es) X.env = (false, eval a X.env) :: starEach es X.env := by rfl) : PA X (a :: es) (liftA T (wCons wa ws)) :=
  PA.weak (pa_cons ha hr hs) fun σ H Q h => acons_lift rfl h
/-- all of them values -/
def allV : List SV → (List D → Prop) → Prop
  | [], k => k []
  | .val d :: r, k => allV r fun ds => k (d :: ds)
  | _ :: _, _ => False
theorem allV.to {F : Hp} {δ : DEnv} {σ : L2.St} : ∀ {vs : List V} {svs : List SV} {k : List D → Prop}, ResA T F δ σ vs svs → allV svs k → ∃ ds, IsL T F vs ds ∧ k ds ∧ svs = ds.map SV.val
  | [], [], k, _, h => ⟨[], IsL.nil T, h, rfl⟩
  | [], _ :: _, k, q, _ => q.elim
  | v :: vs, [], k, q, _ => q.elim
  | v :: vs, .val d :: svs, k, q, h => by
    obtain ⟨ds, i, hk, e⟩ := allV.to q.2 h
    exact ⟨d :: ds, IsL.cons T q.1 i, hk, by rw [e, List.map_cons]⟩
  | v :: vs, .bag :: svs, k, q, h => h.elim
  | v :: vs, .own _ :: svs, k, q, h => h.elim
  | v :: vs, .slf _ _ :: svs, k, q, h => h.elim
  | v :: vs, .pr _ _ :: svs, k, q, h => h.elim
  | v :: vs, .exc _ _ :: svs, k, q, h => h.elim
theorem useA {Q : List V → Hp → Prop} {e : En} {F H : Hp} {δ : DEnv} {σ : L2.St} {k : List D → Prop} (S : Sim T e F δ σ H) (h : ws δ fun svs => allV svs k) (hk : ∀ vs H' F' ds, Sim T e F' δ σ H' → Le F F' → IsL T F' vs ds → k ds → Q vs H') : liftA T ws σ H Q := by
  refine ⟨e, F, δ, _, S, h, fun vs H' F' svs S' le r q => ?_⟩
  obtain ⟨ds, i, q, _⟩ := allV.to r q
  exact hk vs H' F' ds S' le i q
def wN (f : PNf) (ws : WA) : W := fun δ Q => ws δ fun svs => allV svs fun ds => f ds Q
theorem lift_N {r : List V → Hp → VK → Prop} {f : PNf} (hp : PN T r f) {σ : L2.St} {H : Hp} {Q : VK} (h : lift T (wN f ws) σ H Q) : tCB r (liftA T ws) σ H Q := by
  obtain ⟨e, F, δ, Qd, S, w, k⟩ := h
  refine useA S w fun vs H1 F1 ds S1 l1 i1 w1 => ?_
  exact hp e F1 H1 δ σ vs ds Qd Q S1 i1 w1 fun v H' F' sv S' l' r' q' => k v H' F' sv S' (l1.trans l') r' q'
theorem d_callB {id : String} {x : Str} {r : List V → Hp → VK → Prop} {f : PNf} (hc : CallR X (.builtin id) r) (hp : PN T r f) (hm : X.mg x = none) (hv : bootBuiltins x = some (.builtin id)) (ha : PA X (a :: es) (liftA T ws)) (hg : Gl X x := by rfl) (hn : x ≠ "__name__" := by decide) (hdb : (x == ("__debug__" : Str)) = false := by decide)
    (he : starEach (a :: es) X.env = (false, eval a X.env) :: starEach es X.env := by rfl) (hpl : (backTo pos (starEach es X.env)).any (·.1) = false := by rfl) : PE X (.Call (.Name x p) (a :: es) [] pos) (lift T (wN f ws)) :=
  PE.weak (pe_callB hc hg hm hv ha hn hdb he hpl) fun σ H Q h => lift_N hp h
theorem d_callTy {id : String} {x : Str} {r : List V → Hp → VK → Prop} {f : PNf} (hc : CallR X (.type id) r) (hp : PN T r f) (hm : X.mg x = none) (hv : bootBuiltins x = some (.type id)) (ha : PA X (a :: es) (liftA T ws)) (hg : Gl X x := by rfl) (hn : x ≠ "__name__" := by decide) (hdb : (x == ("__debug__" : Str)) = false := by decide)
    (he : starEach (a :: es) X.env = (false, eval a X.env) :: starEach es X.env := by rfl) (hpl : (backTo pos (starEach es X.env)).any (·.1) = false := by rfl) : PE X (.Call (.Name x p) (a :: es) [] pos) (lift T (wN f ws)) :=
  PE.weak (pe_callTy hc hg hm hv ha hn hdb he hpl) fun σ H Q h => lift_N hp h
end
/-! ### tuples, lists -/
section
variable {X : Cx} {T : Tb} {pos p : Pos} {a b c : Expr} {es : List Expr} {wa wb wc : W} {ws : WA}
/-- a new list, its items known: apart from the slots -/
theorem res_own {e : En} {F H : Hp} {δ : DEnv} {σ : L2.St} (S : Sim T e F δ σ H) {q : Addr} (hq : H q = none) {vs : List V} {ds : List D} (i : IsL T F vs ds) : Sim T e F δ σ (upd H q (.lst vs)) ∧ Res T e F (upd H q (.lst vs)) δ σ (.ref q) (.own ds) := by
  have S2 := S.laid (o := .lst vs) hq
  refine ⟨S2, ⟨q, vs, rfl, upd_same, S.fnone hq, i⟩, fun a ha => ?_, fun j si hj hv z => ?_⟩
  · cases ha
    cases u : e.H0 q with
    | none => rfl
    | some o =>
      by_cases hB : e.Bg q
      · obtain ⟨f, s, c, h2, _⟩ := S.bags q hB; rw [hq] at h2; cases h2
      · by_cases hS : e.Sf q
        · obtain ⟨u', h2⟩ := S.self q hS; rw [hq] at h2; cases h2
        · rw [S.keep q o u hB hS] at hq; cases hq
  · obtain ⟨v, h1, h2, _⟩ := S.slot j si hj
    obtain ⟨a, o', e1, e2, _⟩ := h2.there hv
    rw [z] at h1; cases h1; cases e1
    rw [hq] at e2; cases e2
theorem res_tup {e : En} {F H : Hp} {δ : DEnv} {σ : L2.St} (S : Sim T e F δ σ H) {q : Addr} (hq : H q = none) {vs : List V} {ds : List D} (i : IsL T F vs ds) : Sim T e (upd F q (.tup vs)) δ σ (upd H q (.tup vs)) ∧ Le F (upd F q (.tup vs)) ∧ Is T (upd F q (.tup vs)) (.ref q) (.tup ds) := by
  refine ⟨S.laidK hq, le_upd (S.fnone hq), ?_⟩
  unfold Is
  exact ⟨q, vs, rfl, SqT.of upd_same, IsL.mono T (le_upd (S.fnone hq)) ds i⟩
def szOk (n : Nat) : Prop := n ≤ sizeLine
theorem szOk_of {n : Nat} (h : n ≤ 16000000) : szOk n := Nat.le_trans h (by decide)
def wTup (ws : WA) : W := fun δ Q => ws δ fun svs => allV svs fun ds => szOk ds.length ∧ Q (.val (.tup ds))
def wLst (ws : WA) : W := fun δ Q => ws δ fun svs => allV svs fun ds => szOk ds.length ∧ Q (.own ds)
theorem d_tup {x1} (h : PA X es (liftA T ws)) : PE X (.Tuple es x1 pos) (lift T (wTup ws)) := by
  refine PE.weak (pe_tup h) fun σ H Q ⟨e, F, δ, Qd, S, w, k⟩ => ?_
  refine useA S w fun vs H1 F1 ds S1 l1 i1 ⟨z, w1⟩ => ⟨by rw [i1.len]; exact z, fun q hq => ?_⟩
  obtain ⟨S2, l2, i2⟩ := res_tup S1 hq i1
  exact k _ _ _ (.val (.tup ds)) S2 (l1.trans l2) i2 w1
theorem d_lst (h : PA X es (liftA T ws)) : PE X (.List es pos) (lift T (wLst ws)) := by
  refine PE.weak (pe_lst h) fun σ H Q ⟨e, F, δ, Qd, S, w, k⟩ => ?_
  refine useA S w fun vs H1 F1 ds S1 l1 i1 ⟨z, w1⟩ => ⟨by rw [i1.len]; exact z, fun q hq => ?_⟩
  obtain ⟨S2, r2⟩ := res_own S1 hq i1
  exact k _ _ _ (.own ds) S2 l1 r2 w1
end
end DD
namespace DD
open PySem L2
section
variable {T : Tb} {e : En} {F F' H H' : Hp} {δ : DEnv} {σ : L2.St} {Qd : SV → Prop} {Q : VK} {v : V} {d : D}
theorem kv (S : Sim T e F δ σ H) (k : Kont T e F δ σ Qd Q) (i : Is T F v d) (q : Qd (.val d)) : Q v H := k v H F (.val d) S (Le.refl F) i q
theorem kint (S : Sim T e F δ σ H) (k : Kont T e F δ σ Qd Q) {i : Int} (q : Qd (.val (.int i))) : Q (.int i) H := kv S k (by unfold Is; rfl) q
theorem kbl (S : Sim T e F δ σ H) (k : Kont T e F δ σ Qd Q) {i : Bool} (q : Qd (.val (.bl i))) : Q (.bl i) H := kv S k (by unfold Is; rfl) q
theorem kstr (S : Sim T e F δ σ H) (k : Kont T e F δ σ Qd Q) {i : Str} (q : Qd (.val (.str i))) : Q (.str i) H := kv S k (by unfold Is; rfl) q
theorem klst (S : Sim T e F δ σ H) (k : Kont T e F δ σ Qd Q) {p : Addr} (hp : H p = none) {vs : List V} {ds : List D} (i : IsL T F vs ds) (q : Qd (.own ds)) : Q (.ref p) (upd H p (.lst vs)) := by
  obtain ⟨S2, r2⟩ := res_own S hp i
  exact k _ _ _ (.own ds) S2 (Le.refl F) r2 q
theorem ktup (S : Sim T e F δ σ H) (k : Kont T e F δ σ Qd Q) {p : Addr} (hp : H p = none) {vs : List V} {ds : List D} (i : IsL T F vs ds) (q : Qd (.val (.tup ds))) : Q (.ref p) (upd H p (.tup vs)) := by
  obtain ⟨S2, l2, i2⟩ := res_tup S hp i
  exact k _ _ _ (.val (.tup ds)) S2 l2 i2 q
theorem Is.lstE {ds : List D} (i : Is T F v (.lst ds)) : ∃ a vs, v = .ref a ∧ F a = some (.lst vs) ∧ IsL T F vs ds := by unfold Is at i; exact i
theorem Is.tupE {ds : List D} (i : Is T F v (.tup ds)) : ∃ a vs, v = .ref a ∧ SqT T.K F a vs ∧ IsL T F vs ds := by unfold Is at i; exact i
theorem Is.intE {n : Int} (i : Is T F v (.int n)) : v = .int n := by unfold Is at i; exact i
theorem Is.strE {n : Str} (i : Is T F v (.str n)) : v = .str n := by unfold Is at i; exact i
theorem Is.blE {n : Bool} (i : Is T F v (.bl n)) : v = .bl n := by unfold Is at i; exact i
theorem Is.nonE (i : Is T F v .non) : v = .non := by unfold Is at i; exact i
theorem Is.insE {c : Nat} {ds : List D} (i : Is T F v (.ins c ds)) : ∃ a dx vs, v = .ref a ∧ F a = some (.ins (T.ca c) dx ((T.fl c).zip vs)) ∧ vs.length = (T.fl c).length ∧ IsL T F vs ds := by unfold Is at i; exact i
theorem Is.int {n : Int} : Is T F (.int n) (.int n) := by unfold Is; rfl
theorem Is.bl {n : Bool} : Is T F (.bl n) (.bl n) := by unfold Is; rfl
theorem Is.str {n : Str} : Is T F (.str n) (.str n) := by unfold Is; rfl
theorem Is.non : Is T F .non .non := by unfold Is; rfl
end
/-! ### + -/
def rOr (r r' : R2) : R2 := fun x y H Q => r x y H Q ∨ r' x y H Q
def addD : P2f := fun x y Q => match x, y with
  | .int i, .int j => Q (.val (.int (i + j)))
  | .str s, .str t => s.length + t.length ≤ sizeLine ∧ Q (.val (.str (s ++ t)))
  | .lst a, .lst b => szOk (a.length + b.length) ∧ Q (.own (a ++ b))
  | .tup a, .tup b => (0 < a.length ∧ 0 < b.length) ∧ szOk (a.length + b.length) ∧ Q (.val (.tup (a ++ b)))
  | _, _ => False
section
variable {X : Cx} {T : Tb}
abbrev rAdd4 (K : PySem.W.Frag) : R2 := fun x y H Q => (rI0 (fun i j => .int (i + j)) x y H Q) ∨ ((∃ i j, x = .str i ∧ y = .str j ∧ i.length + j.length ≤ sizeLine ∧ Q (.str (i ++ j)) H) ∨ (rCat x y H Q ∨ rCatT K x y H Q))
theorem o_add : OpR X (binaryOp .Add) (rAdd4 X.K) := OpR.or op_add (OpR.or op_add_str (OpR.or op_cat op_catT))
theorem p_add : P2 T (rAdd4 T.K) addD := by
  intro e F H δ σ x y dx dy Qd Q S ix iy h k
  unfold addD at h
  split at h
  · cases ix.intE; cases iy.intE
    exact .inl ⟨_, _, rfl, rfl, kint S k h⟩
  · cases ix.strE; cases iy.strE
    exact .inr (.inl ⟨_, _, rfl, rfl, h.1, kstr S k h.2⟩)
  · obtain ⟨a, vs, rfl, h1, i1⟩ := ix.lstE
    obtain ⟨b, ws, rfl, h2, i2⟩ := iy.lstE
    exact .inr (.inr (.inl ⟨a, b, vs, ws, rfl, rfl, S.sub _ _ h1, S.sub _ _ h2, by rw [i1.len, i2.len]; exact h.1, fun p hp => klst S k hp (IsL.app T i1 i2) h.2⟩))
  · obtain ⟨a, vs, rfl, h1, i1⟩ := ix.tupE
    obtain ⟨b, ws, rfl, h2, i2⟩ := iy.tupE
    have l1 := i1.len
    have l2 := i2.len
    refine .inr (.inr (.inr ⟨a, b, vs, ws, rfl, rfl, sqT_mono S.sub h1, sqT_mono S.sub h2, ?_, by rw [l1, l2]; exact h.2.1, ?_, fun _ p hp => ktup S k hp (IsL.app T i1 i2) h.2.2⟩))
    · rintro rfl
      rw [List.length_nil] at l1
      omega
    · rintro rfl
      rw [List.length_nil] at l2
      omega
  · exact h.elim
/-! ### -, *, //, %, ** -/
def subD : P2f := fun x y Q => match x, y with
  | .int i, .int j => Q (.val (.int (i - j)))
  | _, _ => False
theorem p_sub : P2 T (rI0 (fun i j => .int (i - j))) subD := by
  intro e F H δ σ x y dx dy Qd Q S ix iy h k
  unfold subD at h
  split at h
  · cases ix.intE; cases iy.intE
    exact ⟨_, _, rfl, rfl, kint S k h⟩
  · exact h.elim
/-- what a product of ints asks: one of them below 2^64, or both together below a million bits -/
def MulOk (i j : Int) : Prop := CMul i j ∨ CMulW i j
theorem MulOk.left {i j : Int} (h : -(2 ^ 64) < i ∧ i < 2 ^ 64) : MulOk i j := .inl (.inl h)
theorem MulOk.right {i j : Int} (h : -(2 ^ 64) < j ∧ j < 2 ^ 64) : MulOk i j := .inl (.inr h)
theorem o_mulI : OpR X (binaryOp .Mult) (rI MulOk fun i j => .int (i * j)) := opI fun _ _ _ _ _ _ _ hc q => PyProof.Rows.mul_int q (hc.elim CMul.ok CMulW.ok)
def mulD : P2f := fun x y Q => match x, y with
  | .int i, .int j => MulOk i j ∧ Q (.val (.int (i * j)))
  | .lst a, .int j => (-(2 ^ 63) ≤ j ∧ j < 2 ^ 63 ∧ szOk (a.length * j.toNat)) ∧ Q (.own (List.replicate j.toNat a).flatten)
  | _, _ => False
theorem IsL.rep {F : Hp} {vs : List V} {ds : List D} (h : IsL T F vs ds) : ∀ n : Nat, IsL T F (List.replicate n vs).flatten (List.replicate n ds).flatten
  | 0 => by simp only [List.replicate_zero, List.flatten_nil]; exact IsL.nil T
  | n + 1 => by
    rw [List.replicate_succ, List.replicate_succ, List.flatten_cons, List.flatten_cons]
    exact IsL.app T h (IsL.rep h n)
abbrev rMul2 : R2 := fun x y H Q => (rI MulOk (fun i j => .int (i * j)) x y H Q) ∨ rRep x y H Q
theorem o_mul : OpR X (binaryOp .Mult) rMul2 := OpR.or o_mulI op_rep
theorem p_mul : P2 T rMul2 mulD := by
  intro e F H δ σ x y dx dy Qd Q S ix iy h k
  unfold mulD at h
  split at h
  · cases ix.intE; cases iy.intE
    exact .inl ⟨_, _, rfl, rfl, h.1, kint S k h.2⟩
  · cases iy.intE
    obtain ⟨a, vs, rfl, h1, i1⟩ := ix.lstE
    exact .inr ⟨a, _, vs, rfl, rfl, S.sub _ _ h1, h.1.1, h.1.2.1, by rw [i1.len]; exact h.1.2.2, fun p hp => klst S k hp (IsL.rep i1 _) h.2⟩
  · exact h.elim
/-- // by a positive divisor -/
def DivOk (i j : Int) : Prop := CDiv i j ∨ CDivW i j
theorem DivOk.small {i j : Int} (h : 0 < j ∧ j < 1073741824) : DivOk i j := .inl h
theorem o_fdiv : OpR X (binaryOp .FloorDiv) (fun x y H Q => (rI CDiv (fun i j => .int (i / j)) x y H Q) ∨ (rI CDivW (fun i j => .int (i / j)) x y H Q)) := OpR.or op_fdiv op_fdivW
def fdivD : P2f := fun x y Q => match x, y with
  | .int i, .int j => DivOk i j ∧ Q (.val (.int (i / j)))
  | _, _ => False
theorem p_fdiv : P2 T (fun x y H Q => (rI CDiv (fun i j => .int (i / j)) x y H Q) ∨ (rI CDivW (fun i j => .int (i / j)) x y H Q)) fdivD := by
  intro e F H δ σ x y dx dy Qd Q S ix iy h k
  unfold fdivD at h
  split at h
  · cases ix.intE; cases iy.intE
    rcases h.1 with z | z
    · exact .inl ⟨_, _, rfl, rfl, z, kint S k h.2⟩
    · exact .inr ⟨_, _, rfl, rfl, z, kint S k h.2⟩
  · exact h.elim
def modD : P2f := fun x y Q => match x, y with
  | .int i, .int j => 0 < j ∧ Q (.val (.int (i % j)))
  | _, _ => False
theorem p_mod : P2 T (rI (fun _ j => 0 < j) fun i j => .int (i % j)) modD := by
  intro e F H δ σ x y dx dy Qd Q S ix iy h k
  unfold modD at h
  split at h
  · cases ix.intE; cases iy.intE
    exact ⟨_, _, rfl, rfl, h.1, kint S k h.2⟩
  · exact h.elim
def powD : P2f := fun x y Q => match x, y with
  | .int i, .int j => CPow i j ∧ Q (.val (.int (i ^ j.toNat)))
  | _, _ => False
theorem p_pow : P2 T (rI CPow fun i j => .int (i ^ j.toNat)) powD := by
  intro e F H δ σ x y dx dy Qd Q S ix iy h k
  unfold powD at h
  split at h
  · cases ix.intE; cases iy.intE
    exact ⟨_, _, rfl, rfl, h.1, kint S k h.2⟩
  · exact h.elim
def negD : P1f := fun x Q => match x with
  | .int i => Q (.val (.int (-i)))
  | _ => False
theorem p_neg : P1 T (rU fun i => .int (-i)) negD := by
  intro e F H δ σ x dx Qd Q S ix h k
  unfold negD at h
  split at h
  · cases ix.intE
    exact ⟨_, rfl, kint S k h⟩
  · exact h.elim
/-! ### comparisons -/
def ordD (p : Int → Int → Bool) (q : List Nat → List Nat → Bool) : P2f := fun x y Q => match x, y with
  | .int i, .int j => Q (.val (.bl (p i j)))
  | _, _ => False
abbrev ltD : P2f := ordD (fun i j => decide (i < j)) (fun _ _ => false)
abbrev leD : P2f := ordD (fun i j => decide (i ≤ j)) (fun _ _ => false)
abbrev gtD : P2f := ordD (fun i j => decide (j < i)) (fun _ _ => false)
abbrev geD : P2f := ordD (fun i j => decide (j ≤ i)) (fun _ _ => false)
theorem p_ord {p : Int → Int → Bool} {q} : P2 T (rI0 fun i j => .bl (p i j)) (ordD p q) := by
  intro e F H δ σ x y dx dy Qd Q S ix iy h k
  unfold ordD at h
  split at h
  · cases ix.intE; cases iy.intE
    exact ⟨_, _, rfl, rfl, kbl S k h⟩
  · exact h.elim
theorem p_lt : P2 T (rI0 fun i j => .bl (decide (i < j))) ltD := p_ord
theorem p_le : P2 T (rI0 fun i j => .bl (decide (i ≤ j))) leD := p_ord
theorem p_gt : P2 T (rI0 fun i j => .bl (decide (j < i))) gtD := p_ord
theorem p_ge : P2 T (rI0 fun i j => .bl (decide (j ≤ i))) geD := p_ord
/-! ### == of data -/
mutual
def toP : D → PyData
  | .non => .none
  | .bl b => .bool b
  | .int i => .int i
  | .str s => .str s
  | .lst ds => .list (toPs ds)
  | .tup ds => .tuple (toPs ds)
  | .ins _ _ => .none
  | .scr _ => .none
  | .dct => .dict []
  | .fn _ => .none
def toPs : List D → List PyData
  | [] => []
  | d :: ds => toP d :: toPs ds
end
/-- data of nesting below n, fit for == -/
def okD : Nat → D → Bool
  | _, .non => true
  | _, .bl _ => true
  | _, .int _ => true
  | _, .str s => PyData.strOk s
  | n + 1, .lst ds => ds.all (okD n)
  | n + 1, .tup ds => ds.all (okD n)
  | _, _ => false
mutual
def eqD : D → D → Bool
  | .non, .non => true
  | .bl a, .bl b => a == b
  | .bl a, .int j => (if a then 1 else 0) == j
  | .int i, .bl b => i == (if b then 1 else 0)
  | .int i, .int j => i == j
  | .str x, .str y => x == y
  | .lst xs, .lst ys => eqDs xs ys
  | .tup xs, .tup ys => eqDs xs ys
  | _, _ => false
def eqDs : List D → List D → Bool
  | [], [] => true
  | x :: xs, y :: ys => eqD x y && eqDs xs ys
  | _, _ => false
end
theorem toPs_depth : ∀ {ds : List D} {n : Nat}, (∀ d ∈ ds, (toP d).depth ≤ n) → PyData.depthAll (toPs ds) ≤ n
  | [], n, _ => by unfold toPs PyData.depthAll; exact Nat.zero_le _
  | d :: ds, n, h => by
    unfold toPs PyData.depthAll
    exact Nat.max_le.mpr ⟨h d List.mem_cons_self, toPs_depth fun x hx => h x (List.mem_cons_of_mem _ hx)⟩
theorem toPs_lay : ∀ {ds : List D}, (∀ d ∈ ds, (toP d).canLay0 = true) → PyData.canLayAll0 (toPs ds) = true
  | [], _ => by unfold toPs PyData.canLayAll0; rfl
  | d :: ds, h => by
    unfold toPs PyData.canLayAll0
    rw [h d List.mem_cons_self, toPs_lay fun x hx => h x (List.mem_cons_of_mem _ hx)]; rfl
theorem okD_ok : ∀ (n : Nat) (d : D), okD n d = true → (toP d).canLay0 = true ∧ (toP d).depth ≤ n
  | n, .non, h => by unfold toP PyData.canLay0 PyData.depth; exact ⟨rfl, Nat.zero_le _⟩
  | n, .bl b, h => by unfold toP PyData.canLay0 PyData.depth; exact ⟨rfl, Nat.zero_le _⟩
  | n, .int b, h => by unfold toP PyData.canLay0 PyData.depth; exact ⟨rfl, Nat.zero_le _⟩
  | n, .str b, h => by
    unfold toP PyData.canLay0 PyData.depth
    refine ⟨?_, Nat.zero_le _⟩
    unfold okD at h; exact h
  | 0, .lst ds, h => by unfold okD at h; cases h
  | 0, .tup ds, h => by unfold okD at h; cases h
  | n + 1, .lst ds, h => by
    unfold okD at h
    have h' := List.all_eq_true.mp h
    unfold toP PyData.canLay0 PyData.depth
    exact ⟨toPs_lay fun d hd => (okD_ok n d (h' d hd)).1, Nat.succ_le_succ (toPs_depth fun d hd => (okD_ok n d (h' d hd)).2)⟩
  | n + 1, .tup ds, h => by
    unfold okD at h
    have h' := List.all_eq_true.mp h
    unfold toP PyData.canLay0 PyData.depth
    exact ⟨toPs_lay fun d hd => (okD_ok n d (h' d hd)).1, Nat.succ_le_succ (toPs_depth fun d hd => (okD_ok n d (h' d hd)).2)⟩
  | n, .ins c ds, h => by cases n <;> (unfold okD at h; cases h)
  | n, .scr c, h => by cases n <;> (unfold okD at h; cases h)
  | n, .dct, h => by cases n <;> (unfold okD at h; cases h)
  | n, .fn _, h => by cases n <;> (unfold okD at h; cases h)
theorem shaped_of_ok {n : Nat} (hn : n ≤ 64) {d : D} (h : okD n d = true) : SeqAt.shaped (toP d) = true := by
  obtain ⟨h1, h2⟩ := okD_ok n d h
  unfold SeqAt.shaped
  rw [h1]
  exact decide_eq_true (Nat.le_trans h2 hn)
mutual
theorem eqD_eqv : ∀ (n : Nat) (d e : D), okD n d = true → okD n e = true → PyData.eqv (toP d) (toP e) = eqD d e
  | n, .lst ds, .lst es, h1, h2 => by
    cases n with
    | zero => unfold okD at h1; cases h1
    | succ n =>
      unfold okD at h1 h2
      unfold toP PyData.eqv eqD
      exact eqDs_eqv n ds es h1 h2
  | n, .tup ds, .tup es, h1, h2 => by
    cases n with
    | zero => unfold okD at h1; cases h1
    | succ n =>
      unfold okD at h1 h2
      unfold toP PyData.eqv eqD
      exact eqDs_eqv n ds es h1 h2
  | n, d, .ins c es, h1, h2 => by cases n <;> (unfold okD at h2; cases h2)
  | n, d, .scr c, h1, h2 => by cases n <;> (unfold okD at h2; cases h2)
  | n, d, .dct, h1, h2 => by cases n <;> (unfold okD at h2; cases h2)
  | n, d, .fn _, h1, h2 => by cases n <;> (unfold okD at h2; cases h2)
  | n, .ins c es, d, h1, h2 => by cases n <;> (unfold okD at h1; cases h1)
  | n, .scr c, d, h1, h2 => by cases n <;> (unfold okD at h1; cases h1)
  | n, .dct, d, h1, h2 => by cases n <;> (unfold okD at h1; cases h1)
  | n, .fn _, d, h1, h2 => by cases n <;> (unfold okD at h1; cases h1)
  | n, .non, .non, h1, h2 | n, .non, .bl _, h1, h2 | n, .non, .int _, h1, h2 | n, .non, .str _, h1, h2 | n, .non, .lst _, h1, h2 | n, .non, .tup _, h1, h2
  | n, .bl _, .non, h1, h2 | n, .bl _, .bl _, h1, h2 | n, .bl _, .int _, h1, h2 | n, .bl _, .str _, h1, h2 | n, .bl _, .lst _, h1, h2 | n, .bl _, .tup _, h1, h2
  | n, .int _, .non, h1, h2 | n, .int _, .bl _, h1, h2 | n, .int _, .int _, h1, h2 | n, .int _, .str _, h1, h2 | n, .int _, .lst _, h1, h2 | n, .int _, .tup _, h1, h2
  | n, .str _, .non, h1, h2 | n, .str _, .bl _, h1, h2 | n, .str _, .int _, h1, h2 | n, .str _, .str _, h1, h2 | n, .str _, .lst _, h1, h2 | n, .str _, .tup _, h1, h2
  | n, .lst _, .non, h1, h2 | n, .lst _, .bl _, h1, h2 | n, .lst _, .int _, h1, h2 | n, .lst _, .str _, h1, h2 | n, .lst _, .tup _, h1, h2
  | n, .tup _, .non, h1, h2 | n, .tup _, .bl _, h1, h2 | n, .tup _, .int _, h1, h2 | n, .tup _, .str _, h1, h2 | n, .tup _, .lst _, h1, h2 => by
    unfold toP PyData.eqv eqD; rfl
theorem eqDs_eqv : ∀ (n : Nat) (ds es : List D), ds.all (okD n) = true → es.all (okD n) = true → PyData.eqvAll (toPs ds) (toPs es) = eqDs ds es
  | n, [], [], _, _ => by unfold toPs PyData.eqvAll eqDs; rfl
  | n, [], e :: es, _, _ => by unfold toPs PyData.eqvAll eqDs; rfl
  | n, d :: ds, [], _, _ => by unfold toPs PyData.eqvAll eqDs; rfl
  | n, d :: ds, e :: es, h1, h2 => by
    rw [List.all_cons, Bool.and_eq_true] at h1 h2
    unfold toPs PyData.eqvAll eqDs
    rw [eqD_eqv n d e h1.1 h2.1, eqDs_eqv n ds es h1.2 h2.2]
end
mutual
theorem is_dp {F H : Hp} (s : Le F H) : ∀ (n : Nat) (d : D) (v : V), okD n d = true → Is T F v d → Dp T.K H v (toP d)
  | n, .non, v, h, i => by cases i.nonE; unfold toP; exact .non
  | n, .bl b, v, h, i => by cases i.blE; unfold toP; exact .bl b
  | n, .int b, v, h, i => by cases i.intE; unfold toP; exact .int b
  | n, .str b, v, h, i => by cases i.strE; unfold toP; exact .str b
  | 0, .lst ds, v, h, i => by unfold okD at h; cases h
  | 0, .tup ds, v, h, i => by unfold okD at h; cases h
  | n + 1, .lst ds, v, h, i => by
    obtain ⟨a, vs, rfl, h1, i1⟩ := i.lstE
    unfold okD at h
    unfold toP
    exact .lst (SqL.of (s _ _ h1)) (is_dps s n ds vs h i1)
  | n + 1, .tup ds, v, h, i => by
    obtain ⟨a, vs, rfl, h1, i1⟩ := i.tupE
    unfold okD at h
    unfold toP
    exact .tup (sqT_mono s h1) (is_dps s n ds vs h i1)
  | n, .ins c ds, v, h, i => by cases n <;> (unfold okD at h; cases h)
  | n, .scr c, v, h, i => by cases n <;> (unfold okD at h; cases h)
  | n, .dct, v, h, i => by cases n <;> (unfold okD at h; cases h)
  | n, .fn _, v, h, i => by cases n <;> (unfold okD at h; cases h)
theorem is_dps {F H : Hp} (s : Le F H) : ∀ (n : Nat) (ds : List D) (vs : List V), ds.all (okD n) = true → IsL T F vs ds → DpAll T.K H vs (toPs ds)
  | n, [], vs, h, i => by unfold IsL at i; rw [i]; unfold toPs; exact .nil
  | n, d :: ds, vs, h, i => by
    rw [List.all_cons, Bool.and_eq_true] at h
    unfold IsL at i
    obtain ⟨v, r, rfl, i1, i2⟩ := i
    unfold toPs
    exact .cons (is_dp s n d v h.1 i1) (is_dps s n ds r h.2 i2)
end
def cmpD (neg : Bool) : P2f := fun x y Q => match x, y with
  | .str a, .str b => Q (.val (.bl (if neg then !(a == b) else a == b)))
  | .int a, .int b => Q (.val (.bl (if neg then !(a == b) else a == b)))
  | x, y => (okD 30 x = true ∧ okD 30 y = true) ∧ Q (.val (.bl (if neg then !eqD x y else eqD x y)))
abbrev rEqX (K : PySem.W.Frag) : R2 := fun x y H Q => rEqD K x y H Q ∨ rEq x y H Q
abbrev rNeX (K : PySem.W.Frag) : R2 := fun x y H Q => rNeD K x y H Q ∨ rNe x y H Q
theorem o_eq (hu : X.A.units + 64 < cLine) : OpR X (compareOp .Eq) (rEqX X.K) := OpR.or (op_eqD hu) op_eq
theorem o_ne (hu : X.A.units + 64 < cLine) : OpR X (compareOp .NotEq) (rNeX X.K) := OpR.or (op_neD hu) op_ne
theorem p_eqD : P2 T (rEqX T.K) (cmpD false) := by
  intro e F H δ σ x y dx dy Qd Q S ix iy h k
  unfold cmpD at h
  split at h
  · cases ix.strE; cases iy.strE
    refine .inr ⟨rfl, ?_⟩
    rw [dec_str]; exact kbl S k h
  · cases ix.intE; cases iy.intE
    refine .inr ⟨rfl, ?_⟩
    rw [dec_int]; exact kbl S k h
  · obtain ⟨⟨h1, h2⟩, q⟩ := h
    refine .inl ⟨toP dx, toP dy, is_dp S.sub 30 dx x h1 ix, is_dp S.sub 30 dy y h2 iy, shaped_of_ok (by decide) h1, shaped_of_ok (by decide) h2, ?_⟩
    rw [eqD_eqv 30 dx dy h1 h2]
    exact kbl S k q
theorem p_neD : P2 T (rNeX T.K) (cmpD true) := by
  intro e F H δ σ x y dx dy Qd Q S ix iy h k
  unfold cmpD at h
  split at h
  · cases ix.strE; cases iy.strE
    refine .inr ⟨rfl, ?_⟩
    rw [dec_str]; exact kbl S k h
  · cases ix.intE; cases iy.intE
    refine .inr ⟨rfl, ?_⟩
    rw [dec_int]; exact kbl S k h
  · obtain ⟨⟨h1, h2⟩, q⟩ := h
    refine .inl ⟨toP dx, toP dy, is_dp S.sub 30 dx x h1 ix, is_dp S.sub 30 dy y h2 iy, shaped_of_ok (by decide) h1, shaped_of_ok (by decide) h2, ?_⟩
    rw [eqD_eqv 30 dx dy h1 h2]
    exact kbl S k q
/-! ### is None -/
def isD (neg : Bool) : P2f := fun x y Q => match y with
  | .non => Q (.val (.bl (match x with | .non => !neg | _ => neg)))
  | _ => False
theorem isN_dec {F : Hp} {x : V} {dx : D} (ix : Is T F x dx) : decide (x = V.non) = (match dx with | .non => true | _ => false) := by
  cases dx with
  | non => cases ix.nonE; rfl
  | bl b => cases ix.blE; rfl
  | int b => cases ix.intE; rfl
  | str b => cases ix.strE; rfl
  | lst b => obtain ⟨a, vs, rfl, _⟩ := ix.lstE; rfl
  | tup b => obtain ⟨a, vs, rfl, _⟩ := ix.tupE; rfl
  | ins b c => obtain ⟨a, dx, vs, rfl, _⟩ := ix.insE; rfl
  | scr b => unfold Is at ix; obtain ⟨a, rfl, _⟩ := ix; rfl
  | dct => unfold Is at ix; obtain ⟨a, rfl, _⟩ := ix; rfl
  | fn b => unfold Is at ix; obtain ⟨a, rfl, _⟩ := ix; rfl
theorem p_is : P2 T (fun x y H Q => y = .non ∧ Q (.bl (decide (x = .non))) H) (isD false) := by
  intro e F H δ σ x y dx dy Qd Q S ix iy h k
  unfold isD at h
  split at h
  · cases iy.nonE
    refine ⟨rfl, ?_⟩
    rw [isN_dec ix]
    refine kbl S k ?_
    cases dx <;> exact h
  · exact h.elim
theorem p_isNot : P2 T (fun x y H Q => y = .non ∧ Q (.bl (!decide (x = .non))) H) (isD true) := by
  intro e F H δ σ x y dx dy Qd Q S ix iy h k
  unfold isD at h
  split at h
  · cases iy.nonE
    refine ⟨rfl, ?_⟩
    rw [isN_dec ix]
    refine kbl S k ?_
    cases dx <;> exact h
  · exact h.elim
end
end DD
namespace DD
open PySem L2
theorem PS.weak {X : Cx} {st : Stmt} {t t' : TS} (h : PS X st t) (k : ∀ D σ H, t' D σ H → t D σ H) : PS X st t' := ⟨fun pins s σ H D I q => h.run pins s σ H D I (k _ _ _ q)⟩
theorem PSs.weak {X : Cx} {st : List Stmt} {t t' : TS} (h : PSs X st t) (k : ∀ D σ H, t' D σ H → t D σ H) : PSs X st t' := ⟨fun pins s σ H D I q => h.run pins s σ H D I (k _ _ _ q)⟩
theorem PG.weak {X : Cx} {tg : Expr} {t t' : TG} (h : PG X tg t) (k : ∀ v σ H Q, t' v σ H Q → t v σ H Q) : PG X tg t' := ⟨fun pins s σ H v u Q I r q => h.run pins s σ H v u Q I r (k _ _ _ _ q)⟩
theorem PGs.weak {X : Cx} {tg : List Expr} {t t' : TGs} (h : PGs X tg t) (k : ∀ v σ H Q, t' v σ H Q → t v σ H Q) : PGs X tg t' := ⟨fun pins s σ H v u Q I r q => h.run pins s σ H v u Q I r (k _ _ _ _ q)⟩
theorem PI.weak {X : Cx} {tg e : Expr} {t t' : TI} (h : PI X tg e t) (k : ∀ σ H Q, t' σ H Q → t σ H Q) : PI X tg e t' := ⟨fun pins s σ H R I q => h.run pins s σ H R I (k _ _ _ q)⟩
theorem PI.or {X : Cx} {tg e : Expr} {t t' : TI} (h : PI X tg e t) (h' : PI X tg e t') : PI X tg e (fun σ H R => t σ H R ∨ t' σ H R) :=
  ⟨fun pins s σ H R I q => q.elim (h.run pins s σ H R I) (h'.run pins s σ H R I)⟩
theorem PTs.weak {X : Cx} {e : List Expr} {t t' : TT} (h : PTs X e t) (k : ∀ σ H Q, t' σ H Q → t σ H Q) : PTs X e t' := ⟨fun pins s σ H Q I q => h.run pins s σ H Q I (k _ _ _ q)⟩
theorem Res.bl {T : Tb} {e : En} {F H : Hp} {δ : DEnv} {σ : L2.St} {b : Bool} : Res T e F H δ σ (.bl b) (.val (.bl b)) := (Is.bl : Is T F (.bl b) (.bl b))
theorem Res.non {T : Tb} {e : En} {F H : Hp} {δ : DEnv} {σ : L2.St} : Res T e F H δ σ .non (.val .non) := (Is.non : Is T F .non .non)
/-! ### tests -/
def truD : D → (Bool → Prop) → Prop
  | .non, Q => Q false
  | .bl b, Q => Q b
  | .int i, Q => Q (i != 0)
  | .str s, Q => szOk s.length ∧ Q ((s.length : Int) != 0)
  | .lst xs, Q => Q (!xs.isEmpty)
  | .tup xs, Q => Q (!xs.isEmpty)
  | _, _ => False
def wTru (w : W) : WT := fun δ Q => w δ fun x => wd x fun d => truD d Q
def wTAnd (a b : WT) : WT := fun δ Q => a δ fun c => if c = true then b δ Q else Q false
def wTOr (a b : WT) : WT := fun δ Q => a δ fun c => if c = true then Q true else b δ Q
def wTNot (a : WT) : WT := fun δ Q => a δ fun c => Q (!c)
/-- a comparison's answer as a test -/
def wTB (w : W) : WT := fun δ Q => w δ fun x => match x with
  | .val (.bl b) => Q b
  | _ => False
def wYes : WT := fun _ Q => Q true
section
variable {X : Cx} {T : Tb} {pos p : Pos} {a b c : Expr} {es : List Expr} {wa wb wc : W} {ws : WA} {ta tb tc : WT} {e : En} {F F' H H' : Hp} {δ : DEnv} {σ : L2.St}
theorem useT {Q : Bool → Hp → Prop} {k : Bool → Prop} (S : Sim T e F δ σ H) (h : ta δ k) (hk : ∀ b H' F', Sim T e F' δ σ H' → Le F F' → k b → Q b H') : liftT T ta σ H Q := ⟨e, F, δ, k, S, h, hk⟩
theorem is_tru {K : PySem.W.Frag} (hK : T.K = K) {v : V} {d : D} {k : Bool → Prop} (S : Sim T e F δ σ H) (i : Is T F v d) (h : truD d k) : ∃ b, TruV K v H b ∧ k b := by
  cases d with
  | non => cases i.nonE; exact ⟨false, rfl, h⟩
  | bl b => cases i.blE; exact ⟨b, rfl, h⟩
  | int b => cases i.intE; exact ⟨_, rfl, h⟩
  | str b => cases i.strE; exact ⟨_, ⟨h.1, rfl⟩, h.2⟩
  | lst b =>
    obtain ⟨a, vs, rfl, h1, i1⟩ := i.lstE
    refine ⟨!vs.isEmpty, .inl ⟨vs, SqL.of (S.sub _ _ h1), rfl⟩, ?_⟩
    have e : vs.isEmpty = b.isEmpty := by
      have := i1.len
      cases vs <;> cases b <;> first | rfl | (simp at this)
    rw [e]; exact h
  | tup b =>
    obtain ⟨a, vs, rfl, h1, i1⟩ := i.tupE
    refine ⟨!vs.isEmpty, .inr (.inl ⟨vs, hK ▸ sqT_mono S.sub h1, rfl⟩), ?_⟩
    have e : vs.isEmpty = b.isEmpty := by
      have := i1.len
      cases vs <;> cases b <;> first | rfl | (simp at this)
    rw [e]; exact h
  | ins c ds => exact h.elim
  | scr c => exact h.elim
  | dct => exact h.elim
  | fn c => exact h.elim
theorem t_tru (ha : PE X a (lift T wa)) (he : ∀ whole, isTrue a X.env whole = (do let v ← whole; standAt a.pos; holding [v] (truthy v)) := by intro _; rfl) (hK : T.K = X.K := by rfl) : PT X a (liftT T (wTru wa)) := by
  refine PT.weak (pt_truth ha he) fun σ H Q ⟨e, F, δ, Qd, S, w, k⟩ => ?_
  refine use (te := lift T wa) S w fun v H1 F1 d S1 l1 i1 q1 => ?_
  obtain ⟨b, hb, kb⟩ := is_tru hK S1 i1 q1
  exact ⟨b, hb, k b H1 F1 S1 l1 kb⟩
theorem lift_test {te : TE} (h : PE X a (lift T wa)) {Q : Bool → Hp → Prop} (q : liftT T (wTB wa) σ H Q) : lift T wa σ H fun x H' => ∃ k, x = .bl k ∧ Q k H' := by
  obtain ⟨e, F, δ, Qd, S, w, k⟩ := q
  refine ⟨e, F, δ, _, S, w, fun v H1 F1 sv S1 l1 r1 q1 => ?_⟩
  split at q1
  · cases (show Is T F1 v _ from r1).blE
    exact ⟨_, rfl, k _ H1 F1 S1 l1 q1⟩
  · exact q1.elim
theorem t_cmp {op : CmpOp} {r : R2} {f : P2f} (ho : OpR X (compareOp op) r) (hp : P2 T r f) (ha : PE X a (lift T wa)) (hb : PE X b (lift T wb)) (hm : behindInMarks op b = false := by first | exact nomark _ (by decide) (by decide) | rfl) : PT X (.Compare a [op] [b] pos) (liftT T (wTB (wOp f wa wb))) := by
  refine PT.weak (pt_cmpR ho ha hb hm) fun σ H Q ⟨e, F, δ, Qd, S, w, k⟩ => ?_
  refine lift_op hp ⟨e, F, δ, _, S, w, fun v H1 F1 sv S1 l1 r1 q1 => ?_⟩
  split at q1
  · cases (show Is T F1 v _ from r1).blE
    exact ⟨_, rfl, k _ H1 F1 S1 l1 q1⟩
  · exact q1.elim
theorem tw_and1 (ha : PT X a (liftT T ta)) : PW X (.BoolOp .And [a] pos) (liftT T ta) := pw_and1 ha
theorem tw_or1 (ha : PT X a (liftT T ta)) : PW X (.BoolOp .Or [a] pos) (liftT T ta) := pw_or1 ha
theorem tw_and (ha : PT X a (liftT T ta)) (hb : PW X (.BoolOp .And (b :: es) pos) (liftT T tb)) : PW X (.BoolOp .And (a :: b :: es) pos) (liftT T (wTAnd ta tb)) := by
  refine PW.weak (pw_and ha hb) fun σ H Q ⟨e, F, δ, Qd, S, w, k⟩ => ?_
  refine useT S w fun c H1 F1 S1 l1 q1 => ?_
  cases c with
  | true => exact ⟨e, F1, δ, Qd, S1, q1, fun b H' F' S' l' q' => k b H' F' S' (l1.trans l') q'⟩
  | false => exact k false H1 F1 S1 l1 q1
theorem tw_or (ha : PT X a (liftT T ta)) (hb : PW X (.BoolOp .Or (b :: es) pos) (liftT T tb)) : PW X (.BoolOp .Or (a :: b :: es) pos) (liftT T (wTOr ta tb)) := by
  refine PW.weak (pw_or ha hb) fun σ H Q ⟨e, F, δ, Qd, S, w, k⟩ => ?_
  refine useT S w fun c H1 F1 S1 l1 q1 => ?_
  cases c with
  | false => exact ⟨e, F1, δ, Qd, S1, q1, fun b H' F' S' l' q' => k b H' F' S' (l1.trans l') q'⟩
  | true => exact k true H1 F1 S1 l1 q1
theorem t_not (ha : PT X a (liftT T ta)) : PT X (.UnaryOp .Not a pos) (liftT T (wTNot ta)) := by
  refine PT.weak (pt_not ha) fun σ H Q ⟨e, F, δ, Qd, S, w, k⟩ => ?_
  exact ⟨e, F, δ, _, S, w, fun c H1 F1 S1 l1 q1 => k _ H1 F1 S1 l1 q1⟩
/-! ### and, or, not as values; a if t else b -/
def wAnd (a b : W) : W := fun δ Q => a δ fun x => match x with
  | .val (.bl c) => if c = true then b δ Q else Q (.val (.bl false))
  | _ => False
def wOr (a b : W) : W := fun δ Q => a δ fun x => match x with
  | .val (.bl c) => if c = true then Q (.val (.bl true)) else b δ Q
  | _ => False
def wNot (a : W) : W := fun δ Q => a δ fun x => match x with
  | .val (.bl c) => Q (.val (.bl (!c)))
  | _ => False
def wIf (t : WT) (a b : W) : W := fun δ Q => t δ fun c => if c = true then a δ Q else b δ Q
theorem d_one {op} (h : PE X a (lift T wa)) : PE X (.BoolOp op [a] pos) (lift T wa) := pe_one h
theorem d_and (ha : PE X a (lift T wa)) (hb : PE X (.BoolOp .And (b :: es) pos) (lift T wb)) : PE X (.BoolOp .And (a :: b :: es) pos) (lift T (wAnd wa wb)) := by
  refine PE.weak (pe_and ha hb) fun σ H Q ⟨e, F, δ, Qd, S, w, k⟩ => ?_
  refine ⟨e, F, δ, _, S, w, fun v H1 F1 sv S1 l1 r1 q1 => ?_⟩
  split at q1
  · rename_i c
    cases (show Is T F1 v _ from r1).blE
    refine ⟨_, rfl, ?_⟩
    cases c with
    | true => exact ⟨e, F1, δ, Qd, S1, q1, fun b H' F' sv S' l' r' q' => k b H' F' sv S' (l1.trans l') r' q'⟩
    | false => exact k _ H1 F1 _ S1 l1 Res.bl q1
  · exact q1.elim
theorem d_or (ha : PE X a (lift T wa)) (hb : PE X (.BoolOp .Or (b :: es) pos) (lift T wb)) : PE X (.BoolOp .Or (a :: b :: es) pos) (lift T (wOr wa wb)) := by
  refine PE.weak (pe_or ha hb) fun σ H Q ⟨e, F, δ, Qd, S, w, k⟩ => ?_
  refine ⟨e, F, δ, _, S, w, fun v H1 F1 sv S1 l1 r1 q1 => ?_⟩
  split at q1
  · rename_i c
    cases (show Is T F1 v _ from r1).blE
    refine ⟨_, rfl, ?_⟩
    cases c with
    | false => exact ⟨e, F1, δ, Qd, S1, q1, fun b H' F' sv S' l' r' q' => k b H' F' sv S' (l1.trans l') r' q'⟩
    | true => exact k _ H1 F1 _ S1 l1 Res.bl q1
  · exact q1.elim
theorem d_not (ha : PE X a (lift T wa)) : PE X (.UnaryOp .Not a pos) (lift T (wNot wa)) := by
  refine PE.weak (pe_not ha) fun σ H Q ⟨e, F, δ, Qd, S, w, k⟩ => ?_
  refine ⟨e, F, δ, _, S, w, fun v H1 F1 sv S1 l1 r1 q1 => ?_⟩
  split at q1
  · cases (show Is T F1 v _ from r1).blE
    exact ⟨_, rfl, k _ H1 F1 _ S1 l1 Res.bl q1⟩
  · exact q1.elim
theorem d_if (hc : PT X c (liftT T tc)) (ha : PE X a (lift T wa)) (hb : PE X b (lift T wb)) : PE X (.IfExp c a b pos) (lift T (wIf tc wa wb)) := by
  refine PE.weak (pe_ifExp hc ha hb) fun σ H Q ⟨e, F, δ, Qd, S, w, k⟩ => ?_
  refine useT S w fun c H1 F1 S1 l1 q1 => ?_
  cases c with
  | true => exact ⟨e, F1, δ, Qd, S1, q1, fun b H' F' sv S' l' r' q' => k b H' F' sv S' (l1.trans l') r' q'⟩
  | false => exact ⟨e, F1, δ, Qd, S1, q1, fun b H' F' sv S' l' r' q' => k b H' F' sv S' (l1.trans l') r' q'⟩
/-- a < b < c -/
def wChain (f g : P2f) (a b c : W) : W := fun δ Q => a δ fun x => wd x fun dx => b δ fun y => wd y fun dy => f dx dy fun z => match z with
  | .val (.bl k) => if k = true then c δ fun u => wd u fun du => g dy du Q else Q (.val (.bl false))
  | _ => False
theorem d_chain {op op' : CmpOp} {r r' : R2} {f g : P2f} (ho : OpR X (compareOp op) r) (ho' : OpR X (compareOp op') r') (hp : P2 T r f) (hp' : P2 T r' g) (ha : PE X a (lift T wa)) (hb : PE X b (lift T wb)) (hc : PE X c (lift T wc))
    (hm : lastMarks [op, op'] [b, c] = false := by rfl) : PE X (.Compare a [op, op'] [b, c] pos) (lift T (wChain f g wa wb wc)) := by
  refine PE.weak (pe_chain ho ho' ha hb hc hm) fun σ H Q ⟨e, F, δ, Qd, S, w, k⟩ => ?_
  refine use (te := lift T wa) S w fun x H1 F1 dx S1 l1 i1 w1 => ?_
  refine use (te := lift T wb) S1 w1 fun y H2 F2 dy S2 l2 i2 w2 => ?_
  refine hp e F2 H2 δ σ x y dx dy _ _ S2 (Is.mono T l2 dx i1) i2 w2 fun v H3 F3 sv S3 l3 r3 q3 => ?_
  split at q3
  · rename_i b
    cases (show Is T F3 v _ from r3).blE
    refine ⟨_, rfl, ?_⟩
    cases b with
    | true =>
      refine use (te := lift T wc) S3 q3 fun u H4 F4 du S4 l4 i4 w4 => ?_
      exact hp' e F4 H4 δ σ y u dy du Qd Q S4 (Is.mono T (l3.trans l4) dy i2) i4 w4 fun v H' F' sv S' l' r' q' => k v H' F' sv S' ((((l1.trans l2).trans l3).trans l4).trans l') r' q'
    | false => exact k _ H3 F3 _ S3 ((l1.trans l2).trans l3) Res.bl q3
  · exact q3.elim
theorem t_chain {op op' : CmpOp} {r r' : R2} {f g : P2f} (ho : OpR X (compareOp op) r) (ho' : OpR X (compareOp op') r') (hp : P2 T r f) (hp' : P2 T r' g) (ha : PE X a (lift T wa)) (hb : PE X b (lift T wb)) (hc : PE X c (lift T wc))
    (hm : lastMarks [op, op'] [b, c] = false := by rfl) : PT X (.Compare a [op, op'] [b, c] pos) (liftT T (wTB (wChain f g wa wb wc))) := by
  have hE := d_chain (pos := pos) ho ho' hp hp' ha hb hc hm
  refine PT.weak (pt_chain ho ho' ha hb hc hm) fun σ H Q ⟨e, F, δ, Qd, S, w, k⟩ => ?_
  refine use (te := lift T wa) S w fun x H1 F1 dx S1 l1 i1 w1 => ?_
  refine use (te := lift T wb) S1 w1 fun y H2 F2 dy S2 l2 i2 w2 => ?_
  refine hp e F2 H2 δ σ x y dx dy _ _ S2 (Is.mono T l2 dx i1) i2 w2 fun v H3 F3 sv S3 l3 r3 q3 => ?_
  split at q3
  · rename_i b
    cases (show Is T F3 v _ from r3).blE
    refine ⟨_, rfl, ?_⟩
    cases b with
    | true =>
      refine use (te := lift T wc) S3 q3 fun u H4 F4 du S4 l4 i4 w4 => ?_
      refine hp' e F4 H4 δ σ y u dy du _ _ S4 (Is.mono T (l3.trans l4) dy i2) i4 w4 fun v H' F' sv S' l' r' q' => ?_
      split at q'
      · cases (show Is T F' v _ from r').blE
        exact ⟨_, rfl, k _ H' F' S' ((((l1.trans l2).trans l3).trans l4).trans l') q'⟩
      · exact q'.elim
    | false => exact ⟨_, rfl, k _ H3 F3 S3 ((l1.trans l2).trans l3) q3⟩
  · exact q3.elim
end
/-! ### statements -/
section
variable {X : Cx} {T : Tb} {pos p : Pos} {a b c : Expr} {es : List Expr} {st : Stmt} {rest : List Stmt} {wa wb wc : W} {ws : WA} {ta tb tc : WT} {s1 s2 s3 : WS} {e : En} {F F' H H' : Hp} {δ : DEnv} {σ : L2.St}
def wSeq (a b : WS) : WS := fun D δ => a { D with nx := b D } δ
def wSkip : WS := fun D δ => D.nx δ
def wBrk : WS := fun D δ => D.bk δ
def wCnt : WS := fun D δ => D.ct δ
def wNever : WS := fun _ _ => False
def wRet (w : W) : WS := fun D δ => w δ D.rt
def wRetN : WS := fun D _ => D.rt (.val .non)
def wExpr (w : W) : WS := fun D δ => w δ fun _ => D.nx δ
def wIfS (t : WT) (a b : WS) : WS := fun D δ => t δ fun c => if c = true then a D δ else b D δ
def sto (x : SV) (k : SV → Prop) : Prop := match x with
  | .val d => k (.val d)
  | .own ds => k (.own ds)
  | _ => False
def wAsg (i : Nat) (w : W) : WS := fun D δ => w δ fun x => sto x fun y => D.nx (δ.set i (some y))
theorem s_nil : PSs X [] (liftS T wSkip) := PSs.weak pss_nil fun D σ H ⟨e, F, δ, Dd, S, w, k1, _⟩ => k1 σ H F δ S (Le.refl F) w
theorem s_seq (h1 : PS X st (liftS T s1)) (h2 : PSs X rest (liftS T s2)) : PSs X (st :: rest) (liftS T (wSeq s1 s2)) := by
  refine PSs.weak (pss_cons h1 h2) fun D σ H ⟨e, F, δ, Dd, S, w, k1, k2, k3, k4⟩ => ?_
  refine ⟨e, F, δ, { Dd with nx := s2 Dd }, S, w, fun σ' H' F' δ' S' l' q' => ?_, k2, k3, k4⟩
  exact ⟨e, F', δ', Dd, S', q', fun σ'' H'' F'' δ'' S'' l'' q'' => k1 σ'' H'' F'' δ'' S'' (l'.trans l'') q'', fun v σ'' H'' F'' δ'' sv S'' l'' r'' q'' => k2 v σ'' H'' F'' δ'' sv S'' (l'.trans l'') r'' q'',
    fun σ'' H'' F'' δ'' S'' l'' q'' => k3 σ'' H'' F'' δ'' S'' (l'.trans l'') q'', fun σ'' H'' F'' δ'' S'' l'' q'' => k4 σ'' H'' F'' δ'' S'' (l'.trans l'') q''⟩
theorem s_one (h1 : PS X st (liftS T s1)) : PSs X [st] (liftS T s1) := PSs.weak (pss_one h1) fun _ _ _ h => h
theorem s_pass : PS X (.Pass pos) (liftS T wSkip) := PS.weak ps_pass fun D σ H ⟨e, F, δ, Dd, S, w, k1, _⟩ => k1 σ H F δ S (Le.refl F) w
theorem s_doc {x j pos'} : PS X (.Expr (.Constant (.str x) j pos) pos') (liftS T wSkip) := PS.weak ps_doc fun D σ H ⟨e, F, δ, Dd, S, w, k1, _⟩ => k1 σ H F δ S (Le.refl F) w
theorem s_brk : PS X (.Break pos) (liftS T wBrk) := PS.weak ps_break fun D σ H ⟨e, F, δ, Dd, S, w, k1, k2, k3, k4⟩ => k3 σ H F δ S (Le.refl F) w
theorem s_cnt : PS X (.Continue pos) (liftS T wCnt) := PS.weak ps_continue fun D σ H ⟨e, F, δ, Dd, S, w, k1, k2, k3, k4⟩ => k4 σ H F δ S (Le.refl F) w
theorem s_never : PS X st (liftS T wNever) := PS.weak ps_never fun D σ H ⟨e, F, δ, Dd, S, w, _⟩ => w
theorem s_ret (ha : PE X a (lift T wa)) : PS X (.Return (some a) pos) (liftS T (wRet wa)) := by
  refine PS.weak (ps_ret ha) fun D σ H ⟨e, F, δ, Dd, S, w, k1, k2, k3, k4⟩ => ?_
  exact ⟨e, F, δ, Dd.rt, S, w, fun v H' F' sv S' l' r' q' => k2 v σ H' F' δ sv S' l' r' q'⟩
theorem s_retN : PS X (.Return none pos) (liftS T wRetN) := PS.weak ps_retN fun D σ H ⟨e, F, δ, Dd, S, w, k1, k2, k3, k4⟩ => k2 .non σ H F δ (.val .non) S (Le.refl F) Res.non w
theorem s_expr (ha : PE X a (lift T wa)) (hs : swapsWith a none pos.line X.env = pure false := by rfl) : PS X (.Expr a pos) (liftS T (wExpr wa)) := by
  refine PS.weak (ps_expr ha hs) fun D σ H ⟨e, F, δ, Dd, S, w, k1, k2, k3, k4⟩ => ?_
  exact ⟨e, F, δ, _, S, w, fun v H' F' sv S' l' r' q' => k1 σ H' F' δ S' l' q'⟩
theorem s_if (hc : PT X c (liftT T tc)) {x y : List Stmt} (ha : PSs X x (liftS T s1)) (hb : PSs X y (liftS T s2)) : PS X (.If c x y pos) (liftS T (wIfS tc s1 s2)) := by
  refine PS.weak (ps_if hc ha hb) fun D σ H ⟨e, F, δ, Dd, S, w, k1, k2, k3, k4⟩ => ?_
  refine useT S w fun c H1 F1 S1 l1 q1 => ?_
  cases c
  all_goals
    exact ⟨e, F1, δ, Dd, S1, q1, fun σ'' H'' F'' δ'' S'' l'' q'' => k1 σ'' H'' F'' δ'' S'' (l1.trans l'') q'', fun v σ'' H'' F'' δ'' sv S'' l'' r'' q'' => k2 v σ'' H'' F'' δ'' sv S'' (l1.trans l'') r'' q'',
      fun σ'' H'' F'' δ'' S'' l'' q'' => k3 σ'' H'' F'' δ'' S'' (l1.trans l'') q'', fun σ'' H'' F'' δ'' S'' l'' q'' => k4 σ'' H'' F'' δ'' S'' (l1.trans l'') q''⟩
/-- a slot is stored -/
theorem Sim.set (S : Sim T e F δ σ H) {i : Nat} {v : V} {sv : SV} (r : Res T e F H δ σ v sv) (hs : sv.isVal = true ∨ ∃ ds, sv = .own ds) : Sim T e F (δ.set i (some sv)) (σ.set i (some v)) H := by
  have rel : RelS T F H v sv ∧ Mine e v sv := by
    cases sv with
    | val d => exact ⟨r, trivial⟩
    | own ds => exact ⟨r.1, r.2.1⟩
    | bag => rcases hs with z | ⟨_, z⟩ <;> cases z
    | slf c ds => exact r.elim
    | pr _ _ => rcases hs with z | ⟨_, z⟩ <;> cases z
    | exc _ _ => exact r.elim
  by_cases hi : i < σ.length
  · have hl : i < δ.length := by rw [S.len]; exact hi
    refine ⟨by rw [List.length_set, List.length_set]; exact S.len, S.sub, S.base, S.new, S.keep, S.bags, S.self, S.bgt, S.tabs, fun j sj q => ?_, fun j k sj sk u hj hk vj vk uj uk => ?_⟩
    · by_cases hj : i = j
      · subst hj
        rw [List.getElem?_set_self hl] at q
        cases q
        exact ⟨v, by rw [List.getElem?_set_self hi], rel⟩
      · rw [List.getElem?_set_ne hj] at q
        obtain ⟨u, h1, h2⟩ := S.slot j sj q
        exact ⟨u, by rw [List.getElem?_set_ne hj]; exact h1, h2⟩
    · have no : ∀ (m : Nat) (sm : SV), δ[m]? = some (some sm) → sm.isVal = false → sv.isVal = false → σ[m]? ≠ some (some v) := by
        intro m sm hm vm vv
        cases sv with
        | val d => cases vv
        | own ds => exact r.2.2 m sm hm vm
        | bag => rcases hs with z | ⟨_, z⟩ <;> cases z
        | slf c ds => exact r.elim
        | pr _ _ => rcases hs with z | ⟨_, z⟩ <;> cases z
        | exc _ _ => cases vv
      by_cases ej : i = j
      · subst ej
        by_cases ek : i = k
        · exact ek
        · rw [List.getElem?_set_ne ek] at hk uk
          rw [List.getElem?_set_self hi] at uj
          cases uj
          rw [List.getElem?_set_self hl] at hj
          cases hj
          exact absurd uk (no k sk hk vk vj)
      · rw [List.getElem?_set_ne ej] at hj uj
        by_cases ek : i = k
        · subst ek
          rw [List.getElem?_set_self hi] at uk
          cases uk
          rw [List.getElem?_set_self hl] at hk
          cases hk
          exact absurd uj (no j sj hj vj vk)
        · rw [List.getElem?_set_ne ek] at hk uk
          exact S.sep j k sj sk u hj hk vj vk uj uk
  · have hl := S.len
    have e1 : δ.set i (some sv) = δ := List.set_eq_of_length_le (by omega)
    have e2 : σ.set i (some v) = σ := List.set_eq_of_length_le (by omega)
    rw [e1, e2]
    exact S
theorem Sim.setD (S : Sim T e F δ σ H) {i : Nat} {v : V} {d : D} (r : Is T F v d) : Sim T e F (δ.set i (some (.val d))) (σ.set i (some v)) H := S.set (sv := .val d) r (.inl rfl)
/-- forgetting what slots hold -/
theorem Sim.forget (S : Sim T e F δ σ H) {δ' : DEnv} {σ' : L2.St} (hl : δ'.length = σ'.length) (h : ∀ (i : Nat) sv, δ'[i]? = some (some sv) → δ[i]? = some (some sv) ∧ σ'[i]? = σ[i]?) : Sim T e F δ' σ' H := by
  refine ⟨hl, S.sub, S.base, S.new, S.keep, S.bags, S.self, S.bgt, S.tabs, fun j sj q => ?_, fun j k sj sk u hj hk vj vk uj uk => ?_⟩
  · obtain ⟨h1, h2⟩ := h j sj q
    obtain ⟨v, h3⟩ := S.slot j sj h1
    exact ⟨v, by rw [h2]; exact h3.1, h3.2⟩
  · obtain ⟨h1, h2⟩ := h j sj hj
    obtain ⟨h3, h4⟩ := h k sk hk
    exact S.sep j k sj sk u h1 h3 vj vk (h2 ▸ uj) (h4 ▸ uk)
theorem s_set (i : Nat) {x : Str} {pos' : Pos} (hN : X.N.Nodup) (ha : PE X a (lift T wa)) (hi : X.N[i]? = some x := by rfl) (hx : Loc X.env.scope x := by first | exact Or.inl rfl | exact Or.inr rfl) (hs : swapsWith a (some (.Name x pos')) pos.line X.env = pure false := by rfl) (hf : X.fn x = true ∨ X.env.scope.names.lookup x = some .local := by first | exact .inl rfl | exact .inr rfl) :
    PS X (.Assign [.Name x pos'] a pos) (liftS T (wAsg i wa)) := by
  refine PS.weak (ps_set hN hi hx ha hs hf) fun D σ H ⟨e, F, δ, Dd, S, w, k1, k2, k3, k4⟩ => ?_
  refine ⟨e, F, δ, _, S, w, fun v H' F' sv S' l' r' q' => ?_⟩
  cases sv with
  | val d => exact k1 _ H' F' _ (S'.set r' (.inl rfl)) l' q'
  | own ds => exact k1 _ H' F' _ (S'.set r' (.inr ⟨ds, rfl⟩)) l' q'
  | bag => exact q'.elim
  | slf c ds => exact q'.elim
  | pr _ _ => exact q'.elim
  | exc _ _ => exact q'.elim
end
end DD
namespace DD
open PySem L2
/-! ### what is walked -/
structure Walks (T : Tb) (J : It) (F0 : Hp) (xs : List D) : Prop where
  go : ∀ e F δ σ H (i : Nat), Sim T e F δ σ H → Le F0 F → i < xs.length → J.go i H
  stop : ∀ e F δ σ H (i : Nat), Sim T e F δ σ H → Le F0 F → xs.length ≤ i → J.stop i H
  yld : ∀ e F δ σ H (i : Nat) x H' d, Sim T e F δ σ H → Le F0 F → xs[i]? = some d → J.yld i H x H' → ∃ F', Sim T e F' δ σ H' ∧ Le F F' ∧ Is T F' x d
abbrev WI := DEnv → (List D → Prop) → Prop
def liftI (T : Tb) (w : WI) : TI := fun σ H R => ∃ e F δ Qd, Sim T e F δ σ H ∧ w δ Qd ∧ ∀ J H' F' xs, Sim T e F' δ σ H' → Le F F' → Walks T J F' xs → Qd xs → R J H'
section
variable {X : Cx} {T : Tb} {pos p : Pos} {tg a b c : Expr} {es : List Expr} {wa wb wc : W} {ws : WA} {e : En} {F F' H H' : Hp} {δ : DEnv} {σ : L2.St}
theorem walks_list {K : PySem.W.Frag} {p : Addr} {vs : List V} {ds : List D} (h : F p = some (.lst vs)) (i : IsL T F vs ds) : Walks T (Itl K p) F ds where
  go := fun e F1 δ σ H j S l hj => ⟨vs, vs[j]'(by rw [i.len]; exact hj), SqL.of (S.sub _ _ (l _ _ h)), List.getElem?_eq_getElem _⟩
  stop := fun e F1 δ σ H j S l hj => ⟨vs, SqL.of (S.sub _ _ (l _ _ h)), by rw [i.len]; exact hj⟩
  yld := fun e F1 δ σ H j x H' d S l hd ⟨e1, e2⟩ => by
    subst e1
    obtain ⟨v, h1, h2⟩ := i.get T hd
    have := e2 vs (SqL.of (S.sub _ _ (l _ _ h)))
    rw [h1] at this; cases this
    exact ⟨F1, S, Le.refl _, Is.mono T l d h2⟩
theorem walks_tup {K : PySem.W.Frag} {p : Addr} {vs : List V} {ds : List D} (h : SqT K F p vs) (i : IsL T F vs ds) : Walks T (Itt K p) F ds where
  go := fun e F1 δ σ H j S l hj => ⟨vs, vs[j]'(by rw [i.len]; exact hj), sqT_mono (l.trans S.sub) h, List.getElem?_eq_getElem _⟩
  stop := fun e F1 δ σ H j S l hj => ⟨vs, sqT_mono (l.trans S.sub) h, by rw [i.len]; exact hj⟩
  yld := fun e F1 δ σ H j x H' d S l hd ⟨e1, e2⟩ => by
    subst e1
    obtain ⟨v, h1, h2⟩ := i.get T hd
    have := e2 vs (sqT_mono (l.trans S.sub) h)
    rw [h1] at this; cases this
    exact ⟨F1, S, Le.refl _, Is.mono T l d h2⟩
/-- the signs of a text -/
def signs (s : Str) : List D := s.cps.toList.map fun c => .str ⟨#[c]⟩
theorem walks_str {x : Str} : Walks T (Its x) F (signs x) where
  go := fun e F1 δ σ H j S l hj => (show j < x.cps.size by simpa [signs] using hj)
  stop := fun e F1 δ σ H j S l hj => (show x.cps.size ≤ j by simpa [signs] using hj)
  yld := fun e F1 δ σ H j v H' d S l hd ⟨e1, c, e2, e3⟩ => by
    subst e1
    refine ⟨F1, S, Le.refl _, ?_⟩
    unfold signs at hd
    rw [List.getElem?_map, Array.getElem?_toList, e2] at hd
    cases hd; subst e3
    exact Is.str
def intsD (lo : Int) (n : Nat) : List D := (List.range n).map fun i => .int (lo + (i : Nat))
theorem walks_range {lo : Int} {n : Nat} : Walks T (Itr lo n) F (intsD lo n) where
  go := fun e F1 δ σ H j S l hj => (show j < n by simpa [intsD] using hj)
  stop := fun e F1 δ σ H j S l hj => (show n ≤ j by simpa [intsD] using hj)
  yld := fun e F1 δ σ H j v H' d S l hd ⟨e1, e2⟩ => by
    subst e1
    refine ⟨F1, S, Le.refl _, ?_⟩
    unfold intsD at hd
    rw [List.getElem?_map] at hd
    cases q : (List.range n)[j]? with
    | none => rw [q] at hd; cases hd
    | some m =>
      rw [q] at hd
      obtain ⟨h1, h2⟩ := List.getElem?_eq_some_iff.mp q
      rw [List.getElem_range] at h2
      subst h2
      cases hd; subst e2
      exact Is.int
def enums : Nat → List D → List D
  | _, [] => []
  | i, d :: ds => .tup [.int (i : Nat), d] :: enums (i + 1) ds
theorem enums_len : ∀ (i : Nat) (ds : List D), (enums i ds).length = ds.length
  | _, [] => rfl
  | i, d :: ds => by unfold enums; rw [List.length_cons, List.length_cons, enums_len]
theorem enums_get : ∀ (i j : Nat) (ds : List D), (enums i ds)[j]? = (ds[j]?).map fun d => .tup [.int ((i + j : Nat) : Int), d]
  | i, j, [] => by unfold enums; simp
  | i, 0, d :: ds => by unfold enums; simp
  | i, j + 1, d :: ds => by
    unfold enums
    rw [List.getElem?_cons_succ, List.getElem?_cons_succ, enums_get (i + 1) j ds]
    have : i + 1 + j = i + (j + 1) := by omega
    rw [this]
theorem walks_enum {K : PySem.W.Frag} {p : Addr} {vs : List V} {ds : List D} (h : F p = some (.lst vs)) (i : IsL T F vs ds) : Walks T (Ite K p) F (enums 0 ds) where
  go := fun e F1 δ σ H j S l hj => ⟨vs, vs[j]'(by rw [i.len]; rw [enums_len] at hj; exact hj), SqL.of (S.sub _ _ (l _ _ h)), List.getElem?_eq_getElem _⟩
  stop := fun e F1 δ σ H j S l hj => ⟨vs, SqL.of (S.sub _ _ (l _ _ h)), by rw [i.len]; rw [enums_len] at hj; exact hj⟩
  yld := fun e F1 δ σ H j x H' d S l hd ⟨t, y, e1, e2, e3, e4⟩ => by
    subst e1; subst e3
    rw [enums_get] at hd
    cases q : ds[j]? with
    | none => rw [q] at hd; cases hd
    | some d0 =>
      rw [q] at hd
      cases hd
      obtain ⟨v, h1, h2⟩ := i.get T q
      have ey := e4 vs (SqL.of (S.sub _ _ (l _ _ h)))
      rw [h1] at ey
      have ey' := Option.some.inj ey
      subst ey'
      obtain ⟨S2, l2, i2⟩ := res_tup S e2 (vs := [.int ((j : Nat) : Int), v]) (ds := [.int ((j : Nat) : Int), d0]) (IsL.cons T Is.int (IsL.one T (Is.mono T l d0 h2)))
      refine ⟨_, S2, l2, ?_⟩
      rw [Nat.zero_add]
      exact i2
def zips : List D → List D → List D
  | d :: ds, e :: es => .tup [d, e] :: zips ds es
  | _, _ => []
theorem zips_len : ∀ (ds es : List D), (zips ds es).length = min ds.length es.length
  | [], es => by unfold zips; simp
  | d :: ds, [] => by unfold zips; simp
  | d :: ds, e :: es => by unfold zips; rw [List.length_cons, List.length_cons, List.length_cons, zips_len]; omega
theorem zips_get : ∀ (j : Nat) (ds es : List D), (zips ds es)[j]? = (match ds[j]?, es[j]? with | some d, some e => some (.tup [d, e]) | _, _ => none)
  | j, [], es => by unfold zips; simp
  | j, d :: ds, [] => by
    unfold zips
    cases q : (d :: ds)[j]? <;> simp
  | 0, d :: ds, e :: es => by unfold zips; simp
  | j + 1, d :: ds, e :: es => by
    unfold zips
    rw [List.getElem?_cons_succ, List.getElem?_cons_succ, List.getElem?_cons_succ, zips_get j ds es]
theorem walks_zipL {K : PySem.W.Frag} {p q : Addr} {vs ws : List V} {ds es : List D} (h : F p = some (.lst vs)) (i : IsL T F vs ds) (h' : F q = some (.lst ws)) (i' : IsL T F ws es) : Walks T (Itz K p q) F (zips ds es) where
  go := fun e F1 δ σ H j S l hj => by
    rw [zips_len] at hj
    exact ⟨vs, ws, vs[j]'(by rw [i.len]; omega), ws[j]'(by rw [i'.len]; omega), SqL.of (S.sub _ _ (l _ _ h)), SqL.of (S.sub _ _ (l _ _ h')), List.getElem?_eq_getElem _, List.getElem?_eq_getElem _⟩
  stop := fun e F1 δ σ H j S l hj => by
    rw [zips_len] at hj
    exact ⟨vs, ws, SqL.of (S.sub _ _ (l _ _ h)), SqL.of (S.sub _ _ (l _ _ h')), by rw [i.len, i'.len]; omega⟩
  yld := fun e F1 δ σ H j x H' d S l hd ⟨t, y, z, e1, e2, e3, e4, e5⟩ => by
    subst e1; subst e3
    rw [zips_get] at hd
    cases r : ds[j]? with
    | none => rw [r] at hd; cases hd
    | some d0 =>
      cases r' : es[j]? with
      | none => rw [r, r'] at hd; cases hd
      | some d1 =>
        rw [r, r'] at hd
        cases hd
        obtain ⟨v, h1, h2⟩ := i.get T r
        obtain ⟨v', h1', h2'⟩ := i'.get T r'
        have ey := e4 vs (SqL.of (S.sub _ _ (l _ _ h)))
        rw [h1] at ey
        have ey' := Option.some.inj ey
        subst ey'
        have ez := e5 ws (SqL.of (S.sub _ _ (l _ _ h')))
        rw [h1'] at ez
        have ez' := Option.some.inj ez
        subst ez'
        obtain ⟨S2, l2, i2⟩ := res_tup S e2 (vs := [v, v']) (ds := [d0, d1]) (IsL.cons T (Is.mono T l d0 h2) (IsL.one T (Is.mono T l d1 h2')))
        exact ⟨_, S2, l2, i2⟩
theorem walks_zipT {K : PySem.W.Frag} {p q : Addr} {vs ws : List V} {ds es : List D} (h : SqT K F p vs) (i : IsL T F vs ds) (h' : SqT K F q ws) (i' : IsL T F ws es) : Walks T (RZ.ItzT K p q) F (zips ds es) where
  go := fun e F1 δ σ H j S l hj => by
    rw [zips_len] at hj
    exact ⟨vs, ws, vs[j]'(by rw [i.len]; omega), ws[j]'(by rw [i'.len]; omega), sqT_mono (l.trans S.sub) h, sqT_mono (l.trans S.sub) h', List.getElem?_eq_getElem _, List.getElem?_eq_getElem _⟩
  stop := fun e F1 δ σ H j S l hj => by
    rw [zips_len] at hj
    exact ⟨vs, ws, sqT_mono (l.trans S.sub) h, sqT_mono (l.trans S.sub) h', by rw [i.len, i'.len]; omega⟩
  yld := fun e F1 δ σ H j x H' d S l hd ⟨t, y, z, e1, e2, e3, e4, e5⟩ => by
    subst e1; subst e3
    rw [zips_get] at hd
    cases r : ds[j]? with
    | none => rw [r] at hd; cases hd
    | some d0 =>
      cases r' : es[j]? with
      | none => rw [r, r'] at hd; cases hd
      | some d1 =>
        rw [r, r'] at hd
        cases hd
        obtain ⟨v, h1, h2⟩ := i.get T r
        obtain ⟨v', h1', h2'⟩ := i'.get T r'
        have ey := e4 vs (sqT_mono (l.trans S.sub) h)
        rw [h1] at ey
        have ey' := Option.some.inj ey
        subst ey'
        have ez := e5 ws (sqT_mono (l.trans S.sub) h')
        rw [h1'] at ez
        have ez' := Option.some.inj ez
        subst ez'
        obtain ⟨S2, l2, i2⟩ := res_tup S e2 (vs := [v, v']) (ds := [d0, d1]) (IsL.cons T (Is.mono T l d0 h2) (IsL.one T (Is.mono T l d1 h2')))
        exact ⟨_, S2, l2, i2⟩
/-- a list, a tuple, a text -/
def wIt (w : W) : WI := fun δ Q => w δ fun x => wd x fun d => match d with
  | .lst xs => Q xs
  | .tup xs => Q xs
  | .str s => Q (signs s)
  | _ => False
/-- iter(v), by the value -/
def IterR (X : Cx) (tg : Expr) (r : V → Hp → (It → Hp → Prop) → Prop) : Prop := ∀ (pins : List (Addr × Obj)) (s : Shared) (σ : St) (H : Hp) (x : V) (u : Value) (R : It → Hp → Prop), Inv X pins σ H s → RelV x u → r x H R →
  wpAny (model X.prog X.w) X.A (pyIter u) (PIE X pins σ tg R) X.xe s
theorem IterR.pi {r : V → Hp → (It → Hp → Prop) → Prop} {te : TE} (h : IterR X tg r) (he : PE X a te) : PI X tg a (fun σ H R => te σ H fun x H1 => r x H1 R) :=
  ⟨fun pins s σ H R I q => thn (he.run pins s σ H _ I q) fun u s1 ⟨x, H1, I1, r1, q1⟩ => h pins s1 σ H1 x u R I1 r1 q1⟩
theorem IterR.or {r r' : V → Hp → (It → Hp → Prop) → Prop} (h : IterR X tg r) (h' : IterR X tg r') : IterR X tg (fun x H R => r x H R ∨ r' x H R) :=
  fun pins s σ H x u R I rx q => q.elim (h pins s σ H x u R I rx) (h' pins s σ H x u R I rx)
theorem one_fp {pins : List (Addr × Obj)} {σ : St} {s : Shared} (I : Inv X pins σ H s) : ∀ b ∈ [s.heap.objs.size], FpOk X pins H b := by
  intro b hb
  cases List.mem_singleton.mp hb
  exact I.fpOk (Nat.le_refl _) (I.hok.fresh (Nat.le_refl _))
theorem iter_lst : IterR X tg (fun x H R => ∃ q, x = .ref q ∧ (∃ xs, SqL X.K H q xs) ∧ R (Itl X.K q) H) := by
  rintro pins s σ H x u R I rx ⟨q, rfl, ⟨xs, hx⟩, hR⟩
  cases rx
  obtain ⟨us, -, pl, -⟩ := I.list hx
  apply wpAny_pyIter_list pl.isList
  have I2 := I.kept (t' := s.toks) (h' := s.heap.push { cls := .type "list_iterator", data := .fields #[.ref q, .int 0 0] }) (fun b o h => Heap.get?_push_of_some _ h)
  exact ⟨_, _, _, _, H, rfl, I2, turn_list q _, ⟨_, Heap.get?_push_size _ rfl, rfl, rfl⟩, one_fp I, hR⟩
theorem iter_tpl : IterR X tg (fun x H R => ∃ q, x = .ref q ∧ (∃ xs, SqT X.K H q xs) ∧ R (Itt X.K q) H) := by
  rintro pins s σ H x u R I rx ⟨q, rfl, ⟨xs, hx⟩, hR⟩
  cases rx
  obtain ⟨us, -, pl, -⟩ := I.tuple hx
  apply wpAny_pyIter_tuple (show s.heap.IsTuple q us.toArray from pl)
  have I2 := I.kept (t' := s.toks) (h' := s.heap.push { cls := .type "tuple_iterator", data := .fields #[.ref q, .int 0 0] }) (fun b o h => Heap.get?_push_of_some _ h)
  exact ⟨_, _, _, _, H, rfl, I2, turn_tuple q _, ⟨_, Heap.get?_push_size _ rfl, rfl, rfl⟩, one_fp I, hR⟩
theorem iter_txt : IterR X tg (fun x H R => ∃ z, x = .str z ∧ R (Its z) H) := by
  rintro pins s σ H x u R I rx ⟨z, rfl, hR⟩
  obtain ⟨t, rfl⟩ := rx
  by_cases ha : z.cps.all (· < 128) = true
  · exact wpAny_pyIter_ascii ha (pi_one (tk := s.toks) I _ (turn_str _ z t _ (.inl rfl)) ⟨_, Heap.get?_push_size _ rfl, rfl, rfl⟩ hR)
  · exact wpAny_pyIter_wide (Bool.not_eq_true _ ▸ ha) (pi_one (tk := s.toks) I _ (turn_str _ z t _ (.inr rfl)) ⟨_, Heap.get?_push_size _ rfl, rfl, rfl⟩ hR)
theorem i_seq (ha : PE X a (lift T wa)) (hK : T.K = X.K := by rfl) : PI X tg a (liftI T (wIt wa)) := by
  refine PI.weak (IterR.pi (IterR.or iter_lst (IterR.or iter_tpl iter_txt)) ha) fun σ H R ⟨e, F, δ, Qd, S, w, k⟩ => ?_
  refine use (te := lift T wa) S w fun v H1 F1 d S1 l1 i1 q1 => ?_
  split at q1
  · obtain ⟨q, vs, rfl, h1, i1⟩ := i1.lstE
    exact .inl ⟨q, rfl, ⟨vs, SqL.of (S1.sub _ _ h1)⟩, k _ H1 F1 _ S1 l1 (walks_list h1 i1) q1⟩
  · obtain ⟨q, vs, rfl, h1, i1⟩ := i1.tupE
    rw [hK] at h1
    exact .inr (.inl ⟨q, rfl, ⟨vs, sqT_mono S1.sub h1⟩, k _ H1 F1 _ S1 l1 (walks_tup h1 i1) q1⟩)
  · cases i1.strE
    exact .inr (.inr ⟨_, rfl, k _ H1 F1 _ S1 l1 walks_str q1⟩)
  · exact q1.elim
def small62 (i : Int) : Prop := -(2 ^ 62) ≤ i ∧ i < 2 ^ 62
def wRng1 (ws : WA) : WI := fun δ Q => ws δ fun svs => allV svs fun ds => match ds with
  | [.int n] => small62 n ∧ Q (intsD 0 n.toNat)
  | _ => False
def wRng2 (ws : WA) : WI := fun δ Q => ws δ fun svs => allV svs fun ds => match ds with
  | [.int m, .int n] => small62 m ∧ small62 n ∧ Q (intsD m (n - m).toNat)
  | _ => False
theorem IsL.int1 {vs : List V} {n : Int} (h : IsL T F vs [.int n]) : vs = [.int n] := by
  unfold IsL at h
  obtain ⟨v, r, rfl, h1, h2⟩ := h
  unfold IsL at h2
  rw [h1.intE, h2]
theorem IsL.two {vs : List V} {d d' : D} (h : IsL T F vs [d, d']) : ∃ v v', vs = [v, v'] ∧ Is T F v d ∧ Is T F v' d' := by
  unfold IsL at h
  obtain ⟨v, r, rfl, h1, h2⟩ := h
  unfold IsL at h2
  obtain ⟨v', r, rfl, h3, h4⟩ := h2
  unfold IsL at h4
  exact ⟨v, v', by rw [h4], h1, h3⟩
theorem IsL.oneE {vs : List V} {d : D} (h : IsL T F vs [d]) : ∃ v, vs = [v] ∧ Is T F v d := by
  unfold IsL at h
  obtain ⟨v, r, rfl, h1, h2⟩ := h
  unfold IsL at h2
  exact ⟨v, by rw [h2], h1⟩
theorem IsL.nilE {vs : List V} (h : IsL T F vs []) : vs = [] := by
  unfold IsL at h
  exact h
theorem IsL.three {vs : List V} {d d' d3 : D} (h : IsL T F vs [d, d', d3]) : ∃ v v' v3, vs = [v, v', v3] ∧ Is T F v d ∧ Is T F v' d' ∧ Is T F v3 d3 := by
  unfold IsL at h
  obtain ⟨v, r, rfl, h1, h2⟩ := h
  obtain ⟨v', v3, rfl, h3, h4⟩ := IsL.two h2
  exact ⟨v, v', v3, rfl, h1, h3, h4⟩
theorem i_rng1 (hm : X.mg "range" = none) (ha : PA X [a] (liftA T ws)) (hg : Gl X "range" := by rfl) (hs : starEach [a] X.env = [(false, eval a X.env)] := by rfl) : PI X tg (.Call (.Name "range" p) [a] [] pos) (liftI T (wRng1 ws)) := by
  refine PI.weak (pi_range1 hg hm ha hs) fun σ H R ⟨e, F, δ, Qd, S, w, k⟩ => ?_
  refine useA S w fun vs H1 F1 ds S1 l1 i1 q1 => ?_
  split at q1
  · rename_i n
    cases i1.int1
    exact ⟨n, rfl, q1.1.1, q1.1.2, k _ H1 F1 _ S1 l1 walks_range q1.2⟩
  · exact q1.elim
theorem i_rng2 (hm : X.mg "range" = none) (ha : PA X [a, b] (liftA T ws)) (hg : Gl X "range" := by rfl) (hs : starEach [a, b] X.env = [(false, eval a X.env), (false, eval b X.env)] := by rfl) (hs2 : starEach [b] X.env = [(false, eval b X.env)] := by rfl) : PI X tg (.Call (.Name "range" p) [a, b] [] pos) (liftI T (wRng2 ws)) := by
  refine PI.weak (pi_range2 hg hm ha hs hs2) fun σ H R ⟨e, F, δ, Qd, S, w, k⟩ => ?_
  refine useA S w fun vs H1 F1 ds S1 l1 i1 q1 => ?_
  split at q1
  · rename_i m n
    obtain ⟨v, v', rfl, h1, h2⟩ := IsL.two i1
    cases h1.intE; cases h2.intE
    exact ⟨m, n, rfl, ⟨q1.1.1, q1.1.2, q1.2.1.1, q1.2.1.2⟩, k _ H1 F1 _ S1 l1 walks_range q1.2.2⟩
  · exact q1.elim
def wEnum (ws : WA) : WI := fun δ Q => ws δ fun svs => allV svs fun ds => match ds with
  | [.lst xs] => Q (enums 0 xs)
  | _ => False
theorem i_enum {elts : List Expr} {kk : Nat} {tpos : Pos} (hm : X.mg "enumerate" = none) (ha : PA X [a] (liftA T ws)) (hg : Gl X "enumerate" := by rfl) (hs : starEach [a] X.env = [(false, eval a X.env)] := by rfl) : PI X (.Tuple elts kk tpos) (.Call (.Name "enumerate" p) [a] [] pos) (liftI T (wEnum ws)) := by
  refine PI.weak (pi_enum hg hm ha hs) fun σ H R ⟨e, F, δ, Qd, S, w, k⟩ => ?_
  refine useA S w fun vs H1 F1 ds S1 l1 i1 q1 => ?_
  split at q1
  · obtain ⟨v, rfl, h1⟩ := IsL.oneE i1
    obtain ⟨q, us, rfl, h2, h3⟩ := h1.lstE
    exact ⟨q, us, rfl, SqL.of (S1.sub _ _ h2), k _ H1 F1 _ S1 l1 (walks_enum h2 h3) q1⟩
  · exact q1.elim
def wZip (ws : WA) : WI := fun δ Q => ws δ fun svs => allV svs fun ds => match ds with
  | [.lst xs, .lst ys] => Q (zips xs ys)
  | [.tup xs, .tup ys] => Q (zips xs ys)
  | _ => False
theorem i_zip {elts : List Expr} {kk : Nat} {tpos : Pos} (hm : X.mg "zip" = none) (ha : PA X [a, b] (liftA T ws)) (hg : Gl X "zip" := by rfl) (hs : starEach [a, b] X.env = (false, eval a X.env) :: starEach [b] X.env := by rfl) (hpl : (backTo pos (starEach [b] X.env)).any (·.1) = false := by rfl) (hK : T.K = X.K := by rfl) : PI X (.Tuple elts kk tpos) (.Call (.Name "zip" p) [a, b] [] pos) (liftI T (wZip ws)) := by
  refine PI.weak (RZ.pi_zipA hg hm ha hs hpl) fun σ H R ⟨e, F, δ, Qd, S, w, k⟩ => ?_
  refine useA S w fun vs H1 F1 ds S1 l1 i1 q1 => ?_
  split at q1
  · obtain ⟨v, v', rfl, h1, h2⟩ := IsL.two i1
    obtain ⟨q, us, rfl, h3, h4⟩ := h1.lstE
    obtain ⟨q', us', rfl, h5, h6⟩ := h2.lstE
    exact ⟨q, q', us, us', rfl, .inl ⟨SqL.of (S1.sub _ _ h3), SqL.of (S1.sub _ _ h5), k _ H1 F1 _ S1 l1 (walks_zipL h3 h4 h5 h6) q1⟩⟩
  · obtain ⟨v, v', rfl, h1, h2⟩ := IsL.two i1
    obtain ⟨q, us, rfl, h3, h4⟩ := h1.tupE
    obtain ⟨q', us', rfl, h5, h6⟩ := h2.tupE
    rw [hK] at h3 h5
    exact ⟨q, q', us, us', rfl, .inr ⟨sqT_mono S1.sub h3, sqT_mono S1.sub h5, k _ H1 F1 _ S1 l1 (walks_zipT h3 h4 h5 h6) q1⟩⟩
  · exact q1.elim
end
/-! ### targets -/
inductive Pat where
  | nm (i : Nat) | tp (ps : List Pat)
mutual
def Pat.slots : Pat → List Nat
  | .nm i => [i]
  | .tp ps => Pat.slotsL ps
def Pat.slotsL : List Pat → List Nat
  | [] => []
  | p :: ps => p.slots ++ Pat.slotsL ps
end
mutual
def Pat.put : Pat → D → DEnv → (DEnv → Prop) → Prop
  | .nm i, d, δ, Q => Q (δ.set i (some (.val d)))
  | .tp ps, d, δ, Q => match d with
    | .tup ds => ds.length = ps.length ∧ Pat.putL ps ds δ Q
    | .lst ds => ds.length = ps.length ∧ Pat.putL ps ds δ Q
    | _ => False
def Pat.putL : List Pat → List D → DEnv → (DEnv → Prop) → Prop
  | [], ds, δ, Q => match ds with
    | [] => Q δ
    | _ => False
  | p :: ps, ds, δ, Q => match ds with
    | d :: ds => p.put d δ fun δ' => Pat.putL ps ds δ' Q
    | _ => False
end
/-- what is not at the slots stays -/
def Chg (is : List Nat) (σ σ' : L2.St) : Prop := σ'.length = σ.length ∧ ∀ j, j ∉ is → σ'[j]? = σ[j]?
theorem Chg.refl (is : List Nat) (σ : L2.St) : Chg is σ σ := ⟨rfl, fun _ _ => rfl⟩
theorem Chg.trans {is js : List Nat} {σ σ1 σ2 : L2.St} (a : Chg is σ σ1) (b : Chg js σ1 σ2) : Chg (is ++ js) σ σ2 :=
  ⟨b.1.trans a.1, fun j hj => (b.2 j fun z => hj (List.mem_append_right _ z)).trans (a.2 j fun z => hj (List.mem_append_left _ z))⟩
def liftG (T : Tb) (q : Pat) : TG := fun v σ H Q => ∃ e F δ d Qd, Sim T e F δ σ H ∧ Is T F v d ∧ q.put d δ Qd ∧ ∀ σ' F' δ', Sim T e F' δ' σ' H → Le F F' → Chg q.slots σ σ' → Qd δ' → Q σ' H
def liftGs (T : Tb) (q : List Pat) : TGs := fun vs σ H Q => ∃ e F δ ds Qd, Sim T e F δ σ H ∧ IsL T F vs ds ∧ Pat.putL q ds δ Qd ∧ ∀ σ' F' δ', Sim T e F' δ' σ' H → Le F F' → Chg (Pat.slotsL q) σ σ' → Qd δ' → Q σ' H
section
variable {X : Cx} {T : Tb} {pos p : Pos} {tg a b c : Expr} {es : List Expr} {wa wb wc : W} {ws : WA} {e : En} {F F' H H' : Hp} {δ : DEnv} {σ : L2.St} {q : Pat} {qs : List Pat}
theorem g_nm (i : Nat) {x : Str} (hN : X.N.Nodup) (hi : X.N[i]? = some x := by rfl) (hx : Loc X.env.scope x := by first | exact Or.inl rfl | exact Or.inr rfl) (hf : X.fn x = true ∨ X.env.scope.names.lookup x = some .local := by first | exact .inl rfl | exact .inr rfl) : PG X (.Name x pos) (liftG T (.nm i)) := by
  refine PG.weak (pg_name hN hi hx hf) fun v σ H Q ⟨e, F, δ, d, Qd, S, r, w, k⟩ => ?_
  refine k _ F _ (S.setD r) (Le.refl F) ⟨List.length_set, fun j hj => ?_⟩ w
  exact List.getElem?_set_ne fun z => hj (by rw [← z]; exact List.mem_singleton.mpr rfl)
theorem g_nil : PGs X [] (liftGs T []) := by
  refine PGs.weak pgs_nil fun vs σ H Q ⟨e, F, δ, ds, Qd, S, r, w, k⟩ => ?_
  unfold Pat.putL at w
  split at w
  · exact ⟨r.nilE, k σ F δ S (Le.refl F) (Chg.refl _ _) w⟩
  · exact w.elim
theorem g_cons (h1 : PG X a (liftG T q)) (h2 : PGs X es (liftGs T qs)) (hs : (assignEach (a :: es) X.env).map (·.2) = assign a X.env :: (assignEach es X.env).map (·.2) := by rfl) : PGs X (a :: es) (liftGs T (q :: qs)) := by
  refine PGs.weak (pgs_cons h1 h2 hs) fun vs σ H Q ⟨e, F, δ, ds, Qd, S, r, w, k⟩ => ?_
  unfold Pat.putL at w
  split at w
  · rename_i d ds
    unfold IsL at r
    obtain ⟨v, vs, rfl, r1, r2⟩ := r
    refine ⟨v, vs, rfl, e, F, δ, d, _, S, r1, w, fun σ1 F1 δ1 S1 l1 c1 q1 => ?_⟩
    refine ⟨e, F1, δ1, ds, Qd, S1, IsL.mono T l1 ds r2, q1, fun σ2 F2 δ2 S2 l2 c2 q2 => ?_⟩
    refine k σ2 F2 δ2 S2 (l1.trans l2) ?_ q2
    unfold Pat.slotsL
    exact c1.trans c2
  · exact w.elim
theorem PG.or2 {tg : Expr} {g g' : TG} (h : PG X tg g) (h' : PG X tg g') : PG X tg (fun v σ H Q => g v σ H Q ∨ g' v σ H Q) := ⟨fun pins s σ H v u Q I r q => q.elim (h.run pins s σ H v u Q I r) (h'.run pins s σ H v u Q I r)⟩
theorem g_tup {k : Nat} (hc : X.calm = true) (h : PGs X es (liftGs T qs)) (hn : (assignEach es X.env).length = qs.length := by rfl) (hst : (assignEach es X.env).findIdx? (·.1) = none := by rfl) (hK : T.K = X.K := by rfl) : PG X (.Tuple es k pos) (liftG T (.tp qs)) := by
  refine PG.weak (PG.or2 (pg_tup hc h hn hst) (pg_lst hc h hn hst)) fun v σ H Q ⟨e, F, δ, d, Qd, S, r, w, k⟩ => ?_
  unfold Pat.put at w
  split at w
  · rename_i ds
    obtain ⟨p, vs, rfl, h1, i1⟩ := r.tupE
    rw [hK] at h1
    refine .inl ⟨p, vs, rfl, sqT_mono S.sub h1, i1.len.trans w.1, e, F, δ, ds, Qd, S, i1, w.2, fun σ' F' δ' S' l' c' q' => k σ' F' δ' S' l' ?_ q'⟩
    unfold Pat.slots
    exact c'
  · rename_i ds
    obtain ⟨p, vs, rfl, h1, i1⟩ := r.lstE
    refine .inr ⟨p, vs, rfl, SqL.of (S.sub _ _ h1), i1.len.trans w.1, e, F, δ, ds, Qd, S, i1, w.2, fun σ' F' δ' S' l' c' q' => k σ' F' δ' S' l' ?_ q'⟩
    unfold Pat.slots
    exact c'
  · exact w.elim
/-! ### for -/
def forL (q : Pat) (wb : WS) (Dd : DE) : List D → DEnv → Prop
  | [], δ => Dd.nx δ
  | x :: xs, δ => q.put x δ fun δ' => wb { Dd with nx := forL q wb Dd xs, ct := forL q wb Dd xs, bk := Dd.nx } δ'
def wFor (q : Pat) (wi : WI) (wb : WS) : WS := fun Dd δ => wi δ fun xs => forL q wb Dd xs δ
theorem for_lift {wi : WI} {wb : WS} {D : Ends} {σ : L2.St} {H : Hp} (h : liftS T (wFor q wi wb) D σ H) : tFor (liftI T wi) (liftG T q) (liftS T wb) D σ H := by
  obtain ⟨e, F, δ, Dd, S, w, k1, k2, k3, k4⟩ := h
  refine ⟨e, F, δ, _, S, w, fun J H1 F1 xs S1 l1 wk q1 => ?_⟩
  refine ⟨fun i m σ' H' => ∃ F' δ', Sim T e F' δ' σ' H' ∧ Le F1 F' ∧ forL q wb Dd (xs.drop i) δ' ∧ m = xs.length - i, ⟨_, F1, δ, S1, Le.refl _, q1, rfl⟩, ?_⟩
  rintro i m σ' H' ⟨F2, δ2, S2, l2, f2, rfl⟩
  by_cases hi : i < xs.length
  · refine .inr ⟨wk.go e F2 δ2 σ' H' i S2 l2 hi, fun σ3 H3 => ∃ F' δ', Sim T e F' δ' σ3 H3 ∧ Le F1 F' ∧ forL q wb Dd (xs.drop (i + 1)) δ', fun σ3 H3 ⟨F3, δ3, S3, l3, f3⟩ => ⟨xs.length - (i + 1), by omega, F3, δ3, S3, l3, f3, rfl⟩, fun x H3 hy => ?_⟩
    obtain ⟨F3, S3, l3, i3⟩ := wk.yld e F2 δ2 σ' H' i x H3 _ S2 l2 (List.getElem?_eq_getElem hi) hy
    rw [List.drop_eq_getElem_cons hi] at f2
    unfold forL at f2
    refine ⟨e, F3, δ2, _, _, S3, i3, f2, fun σ4 F4 δ4 S4 l4 c4 q4 => ?_⟩
    have l14 : Le F1 F4 := (l2.trans l3).trans l4
    refine ⟨e, F4, δ4, _, S4, q4, fun σ'' H'' F'' δ'' S'' l'' q'' => ⟨F'', δ'', S'', l14.trans l'', q''⟩, fun v σ'' H'' F'' δ'' sv S'' l'' r'' q'' => k2 v σ'' H'' F'' δ'' sv S'' ((l1.trans l14).trans l'') r'' q'',
      fun σ'' H'' F'' δ'' S'' l'' q'' => k1 σ'' H'' F'' δ'' S'' ((l1.trans l14).trans l'') q'', fun σ'' H'' F'' δ'' S'' l'' q'' => ⟨F'', δ'', S'', l14.trans l'', q''⟩⟩
  · refine .inl ⟨wk.stop e F2 δ2 σ' H' i S2 l2 (by omega), k1 σ' H' F2 δ2 S2 (l1.trans l2) ?_⟩
    rw [List.drop_of_length_le (by omega)] at f2
    unfold forL at f2
    exact f2
theorem s_for {body : List Stmt} {wi : WI} {wb : WS} (hp : PassesOwn (model X.prog X.w) X.A X.env X.xe) (hc : X.calm = true) (hi : PI X tg a (liftI T wi)) (hg : PG X tg (liftG T q)) (hb : PSs X body (liftS T wb))
    (hs : ∀ x, foldedSetIterable a X.env x = pure x := by intro _; rfl) : PS X (.For tg a body [] pos) (liftS T (wFor q wi wb)) :=
  PS.weak (ps_for hp hc hi hg hb hs) fun D σ H h => for_lift h
/-! ### while -/
def wWhile (tc : WT) (wb : WS) : WS := fun Dd δ => ∃ W : Nat → DEnv → Prop, (∃ m, W m δ) ∧ ∀ m δ', W m δ' → tc δ' fun b => if b = true then wb { Dd with nx := fun δ2 => ∃ m', m' < m ∧ W m' δ2, ct := fun δ2 => ∃ m', m' < m ∧ W m' δ2, bk := Dd.nx } δ' else Dd.nx δ'
theorem s_while {body : List Stmt} {tc : WT} {wb : WS} (hp : PassesOwn (model X.prog X.w) X.A X.env X.xe) (hc : PT X c (liftT T tc)) (hb : PSs X body (liftS T wb)) : PS X (.While c body [] pos) (liftS T (wWhile tc wb)) := by
  refine PS.weak (ps_while hp hc hb) fun D σ H ⟨e, F, δ, Dd, S, w, k1, k2, k3, k4⟩ => ?_
  obtain ⟨W, ⟨m0, w0⟩, hw⟩ := w
  refine ⟨fun m σ' H' => ∃ F' δ', Sim T e F' δ' σ' H' ∧ Le F F' ∧ W m δ', ⟨m0, F, δ, S, Le.refl _, w0⟩, ?_⟩
  rintro m σ' H' ⟨F1, δ1, S1, l1, w1⟩
  refine useT S1 (hw m δ1 w1) fun b H2 F2 S2 l2 q2 => ?_
  cases b with
  | true =>
    refine ⟨fun σ3 H3 => ∃ F' δ', Sim T e F' δ' σ3 H3 ∧ Le F F' ∧ ∃ m', m' < m ∧ W m' δ', fun σ3 H3 ⟨F3, δ3, S3, l3, m', hm, w3⟩ => ⟨m', hm, F3, δ3, S3, l3, w3⟩, ?_⟩
    have l12 : Le F F2 := l1.trans l2
    exact ⟨e, F2, δ1, _, S2, q2, fun σ'' H'' F'' δ'' S'' l'' q'' => ⟨F'', δ'', S'', l12.trans l'', q''⟩, fun v σ'' H'' F'' δ'' sv S'' l'' r'' q'' => k2 v σ'' H'' F'' δ'' sv S'' (l12.trans l'') r'' q'',
      fun σ'' H'' F'' δ'' S'' l'' q'' => k1 σ'' H'' F'' δ'' S'' (l12.trans l'') q'', fun σ'' H'' F'' δ'' S'' l'' q'' => ⟨F'', δ'', S'', l12.trans l'', q''⟩⟩
  | false => exact k1 σ' H2 F2 δ1 S2 (l1.trans l2) q2
theorem isBag_soft {H : Hp} {b : Addr} {o : HO} (h : IsBag H b) (q : H b = some o) (hx : (∃ ps, o = .tbl ps) ∨ ∃ φ, o = .ext φ) : False := by
  obtain ⟨f, s, c, h1, _⟩ := h
  rw [q] at h1
  rcases hx with ⟨_, rfl⟩ | ⟨_, rfl⟩ <;> cases h1
theorem Sim.bagHard (S : Sim T e F δ σ H) {b : Addr} {i : Nat} {o : HO} (h1 : δ[i]? = some (some .bag)) (h2 : σ[i]? = some (some (.ref b))) (q : H b = some o) (hx : (∃ ps, o = .tbl ps) ∨ ∃ φ, o = .ext φ) : False := by
  obtain ⟨v, e1, ⟨a, e2, e3, _⟩, _⟩ := S.slot i _ h1
  rw [h2] at e1; cases e1; cases e2
  exact isBag_soft e3 q hx
/-! ### a stretch of code that changes bags alone and lays new things -/
theorem Sim.grow (S : Sim T e F δ σ H) (B : Addr → Prop) (hB : ∀ b, B b → ∃ i : Nat, δ[i]? = some (some .bag) ∧ σ[i]? = some (some (.ref b))) (le : Le F F') (sub : Le F' H') (new : ∀ b o, F' b = some o → F b = some o ∨ H b = none)
    (keep : ∀ b o, H b = some o → ¬ B b → ¬ T.tb b → H' b = some o) (bags : ∀ b, B b → IsBag H' b) (tabs : LamX.Tabs T.tz H') : Sim T e F' δ σ H' := by
  have eb : ∀ b, e.Bg b → IsBag H' b := fun b hb => by
    by_cases h : B b
    · exact bags b h
    · obtain ⟨f, s, c, h1, h2⟩ := S.bags b hb
      exact ⟨f, s, c, keep b _ h1 h (noTab S.tabs.1 h1 fun _ z => by cases z), h2⟩
  have nB : ∀ (i : Nat) (sv : SV) (b : Addr), δ[i]? = some (some sv) → σ[i]? = some (some (.ref b)) → sv.isVal = false → B b → sv = .bag := fun i sv b h1 h2 h3 h4 => by
    obtain ⟨j, e1, e2⟩ := hB b h4
    have := S.sep i j sv .bag _ h1 e1 h3 rfl h2 e2
    subst this
    rw [h1] at e1
    cases e1; rfl
  refine ⟨S.len, sub, S.base.trans le, fun b o q => ?_, fun b o q n1 n2 => ?_, eb, fun b hb => ?_, S.bgt, ⟨tabs, S.tabs.2⟩, fun i sv q => ?_, S.sep⟩
  · rcases new b o q with h | h
    · exact S.new b o h
    · refine .inr ?_
      cases u : e.H0 b with
      | none => rfl
      | some o' =>
        by_cases h1 : e.Bg b
        · obtain ⟨f, s, c, h2, _⟩ := S.bags b h1; rw [h] at h2; cases h2
        · by_cases h2 : e.Sf b
          · obtain ⟨o2, h3⟩ := S.self b h2; rw [h] at h3; cases h3
          · rw [S.keep b o' u h1 h2] at h; cases h
  · refine keep b o (S.keep b o q n1 n2) (fun z => ?_) fun z => n2 (S.tabs.2 b z).1
    obtain ⟨j, e1, e2⟩ := hB b z
    obtain ⟨v, h1, h2, h3⟩ := S.slot j _ e1
    rw [e2] at h1; cases h1
    rcases h3 b rfl with y | y
    · exact n1 y
    · rw [q] at y; cases y
  · obtain ⟨o, h1⟩ := S.self b hb
    by_cases h : B b
    · obtain ⟨f, s, c, h2, _⟩ := bags b h
      exact ⟨_, h2⟩
    · by_cases ht : T.tb b
      · obtain ⟨p, hp, rfl⟩ := ht
        obtain ⟨ps, g1, _⟩ := tabs p hp
        exact ⟨_, g1⟩
      · exact ⟨o, keep b o h1 h ht⟩
  · obtain ⟨v, h1, h2, h3⟩ := S.slot i sv q
    refine ⟨v, h1, ?_, h3⟩
    cases hv : sv.isVal with
    | true =>
      cases sv with
      | val d => exact Is.mono T le d h2
      | own _ => cases hv
      | bag => cases hv
      | slf _ _ => cases hv
      | pr _ _ => cases hv
      | exc _ _ => exact h2.monoV le rfl
    | false =>
      obtain ⟨a, o, rfl, g2, g3⟩ := h2.there hv
      have fn : F' a = none := by
        cases u : F' a with
        | none => rfl
        | some o' =>
          rcases new a o' u with z | z
          · rw [g3] at z; cases z
          · rw [g2] at z; cases z
      by_cases hb : B a
      · have := nB i sv a q h1 hv hb
        subst this
        exact ⟨a, rfl, bags a hb, fn⟩
      · refine h2.mono le (fun b hb' _ => ?_) (fun b hb' _ _ => ?_)
        · cases hb'
          rw [g2]; exact keep a o g2 hb (noTab S.tabs.1 g2 (RelS.soft h2 hv g2).1)
        · cases hb'; exact fn
end
end DD
namespace DD
open PySem L2
/-! ### list comprehensions -/
def keepVB : Option SV → Option SV
  | some (.val d) => some (.val d)
  | some .bag => some .bag
  | _ => none
def wipeD (δ : DEnv) : List Nat → DEnv
  | [] => δ
  | v :: vs => (wipeD δ vs).set v none
def blkD (δ : DEnv) (vs : List Nat) : DEnv := wipeD (δ.map keepVB) vs
theorem wipeD_len (δ : DEnv) : ∀ vs : List Nat, (wipeD δ vs).length = δ.length
  | [] => rfl
  | v :: vs => by unfold wipeD; rw [List.length_set, wipeD_len δ vs]
theorem wipeD_some {δ : DEnv} {i : Nat} {x : SV} : ∀ {vs : List Nat}, (wipeD δ vs)[i]? = some (some x) → δ[i]? = some (some x) ∧ i ∉ vs
  | [], h => ⟨h, by simp⟩
  | v :: vs, h => by
    unfold wipeD at h
    by_cases hi : v = i
    · subst hi
      by_cases hv : v < (wipeD δ vs).length
      · rw [List.getElem?_set_self hv] at h; cases h
      · rw [List.getElem?_eq_none (by simpa using hv)] at h; cases h
    · rw [List.getElem?_set_ne hi] at h
      obtain ⟨h1, h2⟩ := wipeD_some h
      exact ⟨h1, fun z => (List.mem_cons.mp z).elim (fun y => hi y.symm) h2⟩
theorem blkD_some {δ : DEnv} {vs : List Nat} {i : Nat} {x : SV} (h : (blkD δ vs)[i]? = some (some x)) : δ[i]? = some (some x) ∧ i ∉ vs ∧ (x.isVal = true ∨ x = .bag) := by
  obtain ⟨h1, h2⟩ := wipeD_some h
  rw [List.getElem?_map] at h1
  cases q : δ[i]? with
  | none => rw [q] at h1; cases h1
  | some o =>
    rw [q] at h1
    have h1 : keepVB o = some x := Option.some.inj h1
    cases o with
    | none => cases h1
    | some sv =>
      cases sv with
      | val d => cases h1; exact ⟨rfl, h2, .inl rfl⟩
      | own ds => cases h1
      | bag => cases h1; exact ⟨rfl, h2, .inr rfl⟩
      | slf c ds => cases h1
      | pr _ _ => cases h1
      | exc _ _ => cases h1
theorem wipe_in {σ : L2.St} {i : Nat} : ∀ {vs : List Nat}, i ∈ vs → (wipe σ vs)[i]? = if i < σ.length then some none else none
  | v :: vs, h => by
    unfold wipe
    by_cases hi : v = i
    · subst hi
      by_cases hv : v < σ.length
      · rw [if_pos hv, List.getElem?_set_self (by rw [wipe_length]; exact hv)]
      · rw [if_neg hv, List.getElem?_eq_none (by rw [List.length_set, wipe_length]; omega)]
    · rw [List.getElem?_set_ne hi]
      rcases List.mem_cons.mp h with e | h
      · exact absurd e.symm hi
      · exact wipe_in h
theorem wipe_chg {σ σ' : L2.St} {vs : List Nat} (h : Chg vs (wipe σ vs) σ') : wipe σ' vs = wipe σ vs := by
  refine List.ext_getElem? fun i => ?_
  have hl : σ'.length = σ.length := h.1.trans (wipe_length σ vs)
  by_cases hi : i ∈ vs
  · rw [wipe_in hi, wipe_in hi, hl]
  · rw [wipe_out hi, h.2 i hi]
def compL (q : Pat) (wt : WT) (we : W) (δ : DEnv) : List D → List D → (List D → Prop) → Prop
  | [], acc, Q => Q acc
  | x :: xs, acc, Q => q.put x δ fun δ' => wt δ' fun b => if b = true then we δ' fun y => wd y fun d => acc.length < sizeLine ∧ compL q wt we δ xs (acc ++ [d]) Q else compL q wt we δ xs acc Q
def wLc (q : Pat) (vs : List Nat) (wi : WI) (wt : WT) (we : W) : W := fun δ Q => wi δ fun xs => compL q wt we (blkD δ vs) xs [] fun ds => Q (.own ds)
section
variable {X : Cx} {T : Tb} {pos p : Pos} {tg a b c elt iter : Expr} {es ifs : List Expr} {wa wb wc we : W} {wt : WT} {wi : WI} {ws : WA} {e : En} {F F' H H' : Hp} {δ : DEnv} {σ : L2.St} {q : Pat} {qs : List Pat}
/-- the entry of a block's turn -/
def enB (T : Tb) (F H : Hp) (δ : DEnv) (σ : L2.St) : En := ⟨F, H, fun b => ∃ i : Nat, δ[i]? = some (some .bag) ∧ σ[i]? = some (some (.ref b)), T.tb, []⟩
theorem Sim.blk (S : Sim T e F δ σ H) (vs : List Nat) : Sim T (enB T F H δ σ) F (blkD δ vs) (wipe σ vs) H := by
  refine ⟨by unfold blkD; rw [wipeD_len, List.length_map, wipe_length]; exact S.len, S.sub, Le.refl F, fun b o h => .inl h, fun b o h _ _ => h, fun b ⟨i, h1, h2⟩ => ?_, fun b ⟨p, hp, z⟩ => (S.tabs.1 p hp).elim fun ps h => ⟨_, z ▸ h.1⟩, fun b ⟨i, h1, h2⟩ => ?_, ⟨S.tabs.1, fun b h => ⟨h, S.fnTab h, tabAt S.tabs.1 h⟩⟩, fun i sv h => ?_, fun i j si sj v h1 h2 v1 v2 u1 u2 => ?_⟩
  · obtain ⟨v, e1, e2, _⟩ := S.slot i _ h1
    rw [h2] at e1; cases e1
    obtain ⟨a, e3, e4, _⟩ := e2
    cases e3; exact e4
  · obtain ⟨v, e1, e2, _⟩ := S.slot i _ h1
    rw [h2] at e1; cases e1
    obtain ⟨a, e3, ⟨f, s, c, e4, _⟩, _⟩ := e2
    cases e3; exact ⟨_, e4⟩
  · obtain ⟨h1, h2, h3⟩ := blkD_some h
    obtain ⟨v, e1, e2, e3⟩ := S.slot i sv h1
    refine ⟨v, by rw [wipe_out h2]; exact e1, e2, ?_⟩
    rcases h3 with z | rfl
    · cases sv with
      | val d => trivial
      | own _ => cases z
      | bag => cases z
      | slf _ _ => cases z
      | pr _ _ => cases z
      | exc _ _ => trivial
    · rintro a rfl
      exact .inl ⟨i, h1, e1⟩
  · obtain ⟨g1, g2, _⟩ := blkD_some h1
    obtain ⟨g3, g4, _⟩ := blkD_some h2
    rw [wipe_out g2] at u1
    rw [wipe_out g4] at u2
    exact S.sep i j si sj v g1 g3 v1 v2 u1 u2
/-- behind a block's turn -/
theorem Sim.unblk (S : Sim T e F δ σ H) {δ' : DEnv} {σ' : L2.St} (S' : Sim T (enB T F H δ σ) F' δ' σ' H') : Sim T e F' δ σ H' :=
  S.grow (fun b => ∃ i : Nat, δ[i]? = some (some .bag) ∧ σ[i]? = some (some (.ref b))) (fun b h => h) S'.base S'.sub S'.new (fun b o h hb ht => S'.keep b o h hb ht) S'.bags S'.tabs.1
/-- a list apart is written -/
theorem Sim.wr (S : Sim T e F δ σ H) {p : Addr} {vs ws : List V} (hp : H p = some (.lst vs)) (h0 : e.H0 p = none) (hF : F p = none) (hs : ∀ (i : Nat) (si : SV), δ[i]? = some (some si) → si.isVal = false → σ[i]? ≠ some (some (.ref p))) : Sim T e F δ σ (upd H p (.lst ws)) := by
  refine ⟨S.len, S.sub.updR hF, S.base, S.new, fun b o q n1 n2 => ?_, fun b hb => ?_, fun b hb => ?_, S.bgt, tabs_wr S.tabs hp (fun _ z => by cases z) (fun _ z => by cases z), fun i sv q => ?_, S.sep⟩
  · rw [upd_ne]
    · exact S.keep b o q n1 n2
    · rintro rfl; rw [h0] at q; cases q
  · obtain ⟨f, s, c, h1, h2⟩ := S.bags b hb
    refine ⟨f, s, c, ?_, h2⟩
    rw [upd_ne]
    · exact h1
    · rintro rfl
      obtain ⟨o, h3⟩ := S.bgt b hb
      rw [h0] at h3; cases h3
  · obtain ⟨o, h1⟩ := S.self b hb
    by_cases z : b = p
    · subst z; exact ⟨_, upd_same⟩
    · exact ⟨o, by rw [upd_ne z]; exact h1⟩
  · obtain ⟨v, h1, h2, h3⟩ := S.slot i sv q
    refine ⟨v, h1, h2.mono (Le.refl F) (fun a ha hv => ?_) (fun _ _ _ h => h), h3⟩
    rw [upd_ne]
    rintro rfl
    exact hs i sv q hv (by rw [h1, ha])
theorem lc_lift {vs : List Nat} (hq : ∀ i ∈ q.slots, i ∈ vs) {σ : L2.St} {H : Hp} {Q : VK} (h : lift T (wLc q vs wi wt we) σ H Q) : tLc (liftI T wi) (liftG T q) (liftT T wt) (lift T we) vs σ H Q := by
  obtain ⟨e, F, δ, Qd, S, w, k⟩ := h
  refine ⟨e, F, δ, _, S, w, fun J H1 F1 xs S1 l1 wk q1 D hD => ?_⟩
  -- the invariant: what is known has grown, the new list stands apart
  have ap : ∀ F' H' ds, Sim T e F' δ σ H' → RelS T F' H' (.ref D) (.own ds) → (e.H0 D = none ∧ ∀ (i : Nat) (si : SV), δ[i]? = some (some si) → si.isVal = false → σ[i]? ≠ some (some (.ref D))) → Res T e F' H' δ σ (.ref D) (.own ds) :=
    fun F' H' ds S' r h => ⟨r, fun a ha => by cases ha; exact h.1, h.2⟩
  obtain ⟨S2, r2, m2, n2⟩ := res_own S1 hD (IsL.nil T)
  have a0 : e.H0 D = none := m2 D rfl
  refine ⟨fun i m H' => ∃ F' acc, Sim T e F' δ σ H' ∧ Le F1 F' ∧ RelS T F' H' (.ref D) (.own acc) ∧ compL q wt we (blkD δ vs) (xs.drop i) acc (fun ds => Qd (.own ds)) ∧ m = xs.length - i, ⟨_, F1, [], S2, Le.refl _, r2, q1, rfl⟩, ?_⟩
  rintro i m H' ⟨F2, acc, S3, l2, r3, c3, rfl⟩
  by_cases hi : i < xs.length
  · refine .inr ⟨wk.go e F2 δ σ H' i S3 l2 hi, fun H' => ∃ F' acc, Sim T e F' δ σ H' ∧ Le F1 F' ∧ RelS T F' H' (.ref D) (.own acc) ∧ compL q wt we (blkD δ vs) (xs.drop (i + 1)) acc (fun ds => Qd (.own ds)), fun H3 ⟨F3, acc3, S4, l3, r4, c4⟩ => ⟨xs.length - (i + 1), by omega, F3, acc3, S4, l3, r4, c4, rfl⟩, fun x H3 hy => ?_⟩
    have B := S3.blk vs
    obtain ⟨F3, B3, l3, i4⟩ := wk.yld _ F2 _ _ H' i x H3 _ B l2 (List.getElem?_eq_getElem hi) hy
    rw [List.drop_eq_getElem_cons hi] at c3
    unfold compL at c3
    obtain ⟨a', us, e1, g1, g2, g3⟩ := r3
    cases e1
    have stay : ∀ F6 δ4 σ4 H6, Sim T (enB T F2 H' δ σ) F6 δ4 σ4 H6 → H6 D = some (.lst us) ∧ F6 D = none := fun F6 δ4 σ4 H6 S6 => by
      refine ⟨S6.keep D _ g1 (fun ⟨j, z1, z2⟩ => n2 j _ z1 rfl z2) (noTab S3.tabs.1 g1 fun _ z => by cases z), ?_⟩
      cases u : F6 D with
      | none => rfl
      | some o =>
        rcases S6.new D o u with z | z
        · have z' : F2 D = some o := z
          rw [g2] at z'; cases z'
        · have z' : H' D = none := z
          rw [g1] at z'; cases z'
    refine ⟨_, F3, _, _, _, B3, i4, c3, fun σ4 F4 δ4 S4 l4 ch q4 => ⟨wipe_chg ⟨ch.1, fun j hj => ch.2 j fun z => hj (hq j z)⟩, ?_⟩⟩
    refine useT S4 q4 fun b H5 F5 S5 l5 q5 => ?_
    cases b with
    | true =>
      refine use (te := lift T we) S5 q5 fun y H6 F6 d S6 l6 i6 ⟨hz, c6⟩ => ?_
      obtain ⟨k1, k2⟩ := stay F6 δ4 σ4 H6 S6
      have hl : us.length = acc.length := g3.len
      refine ⟨us, k1, by rw [hl]; exact hz, F6, acc ++ [d], (S3.unblk S6).wr k1 a0 k2 n2, (((l2.trans l3).trans l4).trans l5).trans l6, ⟨D, us ++ [y], rfl, upd_same, k2, ?_⟩, c6⟩
      exact IsL.app T (IsL.mono T (((l3.trans l4).trans l5).trans l6) acc g3) (IsL.one T i6)
    | false =>
      obtain ⟨k1, k2⟩ := stay F5 δ4 σ4 H5 S5
      exact ⟨F5, acc, S3.unblk S5, ((l2.trans l3).trans l4).trans l5, ⟨D, us, rfl, k1, k2, IsL.mono T ((l3.trans l4).trans l5) acc g3⟩, q5⟩
  · refine .inl ⟨wk.stop e F2 δ σ H' i S3 l2 (by omega), ?_⟩
    rw [List.drop_of_length_le (by omega)] at c3
    unfold compL at c3
    exact k _ H' F2 _ S3 (l1.trans l2) (ap F2 H' acc S3 r3 ⟨a0, n2⟩) c3
theorem d_lc {scope : Scope} {own : List (Str × Nat)} (hc : X.calm = true) (hN : X.N.Nodup) (hi : PI X tg iter (liftI T wi)) (ok : BlkOk X.N X.env.scope scope own)
    (hg : ∀ (s : Shared) (H : Hp) (C : Addr) (cl : List (Str × Addr)) (fp : List Addr), PG (X.blk s H scope (compEnvC scope cl C X.env) fp) tg (liftG T q)) (ht : ∀ (s : Shared) (H : Hp) (C : Addr) (cl : List (Str × Addr)) (fp : List Addr), PTs (X.blk s H scope (compEnvC scope cl C X.env) fp) ifs (liftT T wt))
    (he : ∀ (s : Shared) (H : Hp) (C : Addr) (cl : List (Str × Addr)) (fp : List Addr), PE (X.blk s H scope (compEnvC scope cl C X.env) fp) elt (lift T we)) (hq : ∀ i ∈ q.slots, i ∈ own.map (·.2)) (hs : ∀ x, foldedSetIterable iter X.env x = pure x := by intro _; rfl) :
    PE X (.ListComp elt [⟨tg, iter, ifs, 0⟩] scope pos) (lift T (wLc q (own.map (·.2)) wi wt we)) :=
  PE.weak (pe_lc hc hN hi ok hg ht he hs) fun σ H Q h => lc_lift hq h
theorem ts_nil : PTs X [] (liftT T wYes) := PTs.weak pts_nil fun σ H Q ⟨e, F, δ, Qd, S, w, k⟩ => k true H F S (Le.refl F) w
theorem ts_one (h : PT X c (liftT T wt)) : PTs X [c] (liftT T wt) := pts_one h
/-- name = [..] on one line, the name a local -/
theorem s_setLc (i : Nat) {y : Str} {py : Pos} {spos : Pos} {scope : Scope} {own : List (Str × Nat)} (hc : X.calm = true) (hN : X.N.Nodup) (hi : PI X tg iter (liftI T wi)) (ok : BlkOk X.N X.env.scope scope own)
    (hg : ∀ (s : Shared) (H : Hp) (C : Addr) (cl : List (Str × Addr)) (fp : List Addr), PG (X.blk s H scope (compEnvC scope cl C X.env) fp) tg (liftG T q)) (ht : ∀ (s : Shared) (H : Hp) (C : Addr) (cl : List (Str × Addr)) (fp : List Addr), PTs (X.blk s H scope (compEnvC scope cl C X.env) fp) ifs (liftT T wt))
    (he : ∀ (s : Shared) (H : Hp) (C : Addr) (cl : List (Str × Addr)) (fp : List Addr), PE (X.blk s H scope (compEnvC scope cl C X.env) fp) elt (lift T we)) (hq : ∀ i ∈ q.slots, i ∈ own.map (·.2))
    (hsw : swapsWith (.ListComp elt [⟨tg, iter, ifs, 0⟩] scope pos) (some (.Name y py)) spos.line X.env = pure true) (hy : X.N[i]? = some y := by rfl) (hyl : X.env.scope.names.lookup y = some .local := by rfl) (hs : ∀ x, foldedSetIterable iter X.env x = pure x := by intro _; rfl) :
    PS X (.Assign [.Name y py] (.ListComp elt [⟨tg, iter, ifs, 0⟩] scope pos) spos) (liftS T (wAsg i (wLc q (own.map (·.2)) wi wt we))) := by
  refine PS.weak (ps_setLc hc hN hy hyl hsw hi ok hg ht he hs) fun D σ H ⟨e, F, δ, Dd, S, w, k1, k2, k3, k4⟩ => ?_
  refine lc_lift hq ⟨e, F, δ, _, S, w, fun v H' F' sv S' l' r' q' => ?_⟩
  cases sv with
  | val d => exact k1 _ H' F' _ (S'.set r' (.inl rfl)) l' q'
  | own ds => exact k1 _ H' F' _ (S'.set r' (.inr ⟨ds, rfl⟩)) l' q'
  | bag => exact q'.elim
  | slf c ds => exact q'.elim
  | pr _ _ => exact q'.elim
  | exc _ _ => exact q'.elim
end
end DD
namespace DD
open PySem L2
/-- room, and nothing is being shown -/
structure RoomG (k : Nat) (A : Around) : Prop where
  rm : Room k A
  gd : A.guards = some []
theorem RoomG.mono {j k : Nat} {A : Around} (r : RoomG k A) (h : j ≤ k) : RoomG j A := ⟨r.rm.mono h, r.gd⟩
/-- a def's promise, where nothing is being shown -/
structure FnG (P : Program) (w : World) (K : PySem.W.Frag) (mg : Str → Option Value) (base : Heap) (CX : CXT) (k : Nat) (f : Addr) (fd : FuncData) (ps : List Str) (sp : Sp) : Prop where
  len : ∀ vs H Q E, sp vs H Q E → vs.length = ps.length
  run : ∀ (A : Around) (outer : List Env) (s : Shared) (H : Hp) (args : Args) (us : List Value) (vs : List V) (Q : VK) (E : XK), RoomG k A → Env0 P w K mg base A outer s H →
    BindsTo s fd args (ps.zip us) → Vals vs us → sp vs H Q E → codeAny (model P w) A (.call (.ref f) args) (CR CX outer P w H s Q E) s
section
variable {P : Program} {w : World} {K : PySem.W.Frag} {mg : Str → Option Value} {base : Heap} {CX : CXT} {k j : Nat} {f : Addr} {fd : FuncData} {ps : List Str} {sp : Sp}
theorem FnG.mono (G : FnG P w K mg base CX j f fd ps sp) (h : j ≤ k) : FnG P w K mg base CX k f fd ps sp := ⟨G.len, fun A o s H a us vs Q E r => G.run A o s H a us vs Q E (r.mono h)⟩
theorem FnOk.toG (F : FnOk P w K mg base CX k f fd ps sp) : FnG P w K mg base CX k f fd ps sp := ⟨F.len, fun A o s H a us vs Q E r => F.run A o s H a us vs Q E r.rm⟩
/-- what a flow at a body's end comes to -/
theorem flow_end {X : Cx} {H : Hp} {s s' : Shared} {Q : VK} {E : XK} {fl : Flow} (ho : X.s_0 = s) (hH : X.H_0 = H) (hx : X.ex = []) (h : SP X [] { nx := fun _ H' => Q .non H', rt := Q } fl s') : CR CX X.outer X.prog X.w H s Q E (.ok (match fl with | .ret u => .ret u | _ => .ret .none)) s' := by
  subst ho; subst hH
  have go : ∀ (σ1 : L2.St) (H1 : Hp) (v : V) (u : Value), Inv X [] σ1 H1 s' → RelV v u → Q v H1 → CE X.outer X.prog X.w X.H_0 X.s_0 Q u s' := fun σ1 H1 v u J rv q =>
    ⟨v, H1, J.os, J.bare, by have := J.base; rw [hx] at this; exact this, J.hok, rv, q⟩
  cases fl with
  | ret u => obtain ⟨v, σ1, H1, J, rv, q⟩ := h; exact go σ1 H1 v u J rv q
  | next => obtain ⟨σ1, H1, J, q⟩ := h; exact go σ1 H1 .non .none J rfl q
  | brk => obtain ⟨_, _, _, q⟩ := h; exact q.elim
  | cont => obtain ⟨_, _, _, q⟩ := h; exact q.elim
/-- a def as it stands behind the top, dvs its defaults -/
structure FunX (K : PySem.W.Frag) (x qual : Str) (st : Stmt) (dvs : List V) (f : Addr) (fd : FuncData) : Prop where
  ex : ∃ (oc : Value) (od : Option Addr) (dV kV doc pm : Value) (an : Option Addr) (cdv ct : Value) (osl : Array (Option Value)),
    fd = PySem.W.fnOf x qual (defArgs st) (defBody st) (defScope st) dV kV doc pm an cdv ct ∧ K.lookup f = some ⟨oc, od, .func fd, osl⟩ ∧ PySem.W.codeIn K cdv qual = true ∧ DflV K dV dvs
  kp : PySem.W.keepIn K (.ref f) = true
theorem funX_mk {x qual : Str} {st : Stmt} {dvs : List V} {oc : Value} {od an : Option Addr} {osl : Array (Option Value)} {dV kV doc pm cdv ct : Value} (l : K.lookup f = some ⟨oc, od, .func (PySem.W.fnOf x qual (defArgs st) (defBody st) (defScope st) dV kV doc pm an cdv ct), osl⟩)
    (c : PySem.W.codeIn K cdv qual = true) (k : PySem.W.keepIn K (.ref f) = true) (d : DflV K dV dvs) : FunX K x qual st dvs f (PySem.W.fnOf x qual (defArgs st) (defBody st) (defScope st) dV kV doc pm an cdv ct) := ⟨⟨oc, od, dV, kV, doc, pm, an, cdv, ct, osl, rfl, l, c, d⟩, k⟩
/-- THE RULE: a def by its body -/
theorem fnG_of {x qual : Str} {st : Stmt} {N : List Str} {dvs : List V} (F : FunX K x qual st dvs f fd) (S : FnScope N ps (defScope st)) (len : ∀ vs H Q E, sp vs H Q E → vs.length = ps.length)
    (hb : ∀ (cdv : Value) (A : Around) (outer : List Env) (s : Shared) (H : Hp) (vs : List V) (Q : VK) (E : XK), RoomG k (A.deeper (PyProof.Rows.envOfC qual (defScope st) s.heap.objs.size f cdv)) → sp vs H Q E →
      ∃ t, PSs (cxOf CX P w K mg base N qual (defScope st) f cdv A outer s H E) (defBody st) t ∧ t { nx := fun _ H' => Q .non H', rt := Q } (L2.start N vs) H) : FnG P w K mg base CX (k + 1) f fd ps sp := by
  obtain ⟨oc, od, dV, kV, doc, pm, an, cdv, ct, osl, rfl, lk, hcd, _⟩ := F.ex
  refine ⟨len, fun A outer s H args us vs Q E hr e0 bd rv h0 => ?_⟩
  have n0 := len vs H Q E h0
  have kin : K.In s.heap := e0.mod.kin.keeps fun b o z => (e0.bs b o z).1
  have nol : s.heap.NoLimit := e0.mod.nolimit.keeps fun b o z => (e0.bs b o z).1
  have kinds : ∀ y ∈ ps.zip us, (defScope st).names.lookup y.1 = some .local ∨ ((defScope st).names.lookup y.1 = some .cell ∧ ((cellsFrom (s.heap.objs.size + 1) (defScope st).names []).lookup y.1).isSome = true) := by
    rintro ⟨n, v⟩ hy
    cases S.par n (List.of_mem_zip hy).1 with
    | inl z => exact .inl z
    | inr z => exact .inr ⟨z, PySem.W.cellsFrom_some _ _ _ (.inl z)⟩
  refine codeAny_call_function hr.rm.depth (kin _ _ lk) rfl S.co S.gen rfl (PySem.W.codeRec_of kin hcd) (bd _ _ _ _ ?_)
  refine wpAny_newFunctionEnv_cells S.kind kinds ?_
  rintro env rfl s1 hc
  refine ⟨nol.keeps hc.toInCall.keep, codeAny_func ?_⟩
  obtain ⟨t, pt, qt⟩ := hb cdv A outer s H vs Q E ⟨hr.rm.deeper _, hr.gd⟩ h0
  have I0 := inv_start (CX := CX) (E := E) S hr.rm.hd e0 n0 rv hc
  refine wpAny_mono (pt.run [] s1 _ H _ I0 qt) (fun fl s' h => ?_) fun _ _ h => h
  have fe := flow_end (CX := CX) (E := E) rfl rfl rfl h
  cases fl with
  | ret u => exact fe
  | next => exact fe
  | brk => obtain ⟨_, _, _, q⟩ := h; exact q.elim
  | cont => obtain ⟨_, _, _, q⟩ := h; exact q.elim
end
/-! ### calls of values that are known -/
section
variable {X : Cx} {CX : CXT} {k : Nat} {f C : Addr} {fd : FuncData} {ps ks : List Str} {sp : Sp} {dvs : List V} {ds : List Value} {E : XK} {x m : Str} {p pos apos : Pos} {a o : Expr} {es : List Expr} {kws : List Keyword} {ta : TE} {t tk : TA} {r : List V → Hp → VK → Prop}
theorem callG (G : FnG X.prog X.w X.K X.mg X.base CX k f fd ps sp) (hr : RoomG k X.A) (hb : Binds X.K fd ps ds) (hd : Vals dvs ds) (hx : Passes CX X E) : CallR X (.ref f) (fun vs H Q => sp (vs ++ dvs) H Q E) := by
  intro pins s σ H vs us Q I rv h
  have rw2 := Vals.append rv hd
  have hlen : (us ++ ds).length = ps.length := rw2.length.symm.trans (G.len _ _ _ _ h)
  have run := G.run X.A X.stack s H ⟨us, []⟩ (us ++ ds) (vs ++ dvs) Q E hr I.env0 (hb s us I.kIn hlen) rw2 h
  refine wpAny_call (codeAny_mono run ?_)
  rintro (e | fl) s' q
  · exact hx pins σ H s e s' I q
  · cases fl <;> first | exact I.after q | exact q.elim
theorem makeG (M : Mk X.K C f) (G : FnG X.prog X.w X.K X.mg X.base CX k f fd ps sp) (hr : RoomG (k + 1) X.A) (hb : Binds X.K fd ps ds) (hd : Vals dvs ds) (hx : Passes CX X E) :
    CallR X (.ref C) (fun vs H Q => ∀ x dx, H x = none → H dx = none → dx ≠ x → sp (.ref x :: (vs ++ dvs)) (upd (upd H dx (.own x)) x (.ins C dx [])) (fun v H2 => v = .non ∧ Q (.ref x) H2) E) := by
  intro pins s σ H vs us Q I rv h
  have h0 := h _ _ (I.hok.fresh (Nat.le_succ s.heap.objs.size)) (I.hok.fresh (Nat.le_refl s.heap.objs.size)) (Nat.ne_of_lt (Nat.lt_succ_self _))
  have J := Inv.made (C := C) I
  have rv2 : Vals (.ref (s.heap.objs.size + 1) :: (vs ++ dvs)) (.ref (s.heap.objs.size + 1) :: (us ++ ds)) := Paired.cons (show RelV (.ref (s.heap.objs.size + 1)) (.ref (s.heap.objs.size + 1)) from rfl) (rv.append hd)
  have hlen : (Value.ref (s.heap.objs.size + 1) :: us ++ ds).length = ps.length := rv2.length.symm.trans (G.len _ _ _ _ h0)
  have gd : (X.A.under (.builtin "type.__call__" ⟨.ref C :: us, []⟩)).guards = some [] := by
    show PySem.pushGuards (Code.guards (.builtin "type.__call__" ⟨.ref C :: us, []⟩)) X.A.guards = _
    have : (Code.builtin "type.__call__" ⟨.ref C :: us, []⟩).isGuard = false := by
      show guardIds.contains "type.__call__" = false
      decide +kernel
    rw [hr.gd]
    unfold Code.guards
    rw [this]
    rfl
  have run := G.run _ X.stack _ _ ⟨.ref (s.heap.objs.size + 1) :: us, []⟩ (.ref (s.heap.objs.size + 1) :: (us ++ ds)) _ _ E ⟨hr.rm.make C us [], gd⟩ (J.env0.make C us []) (hb _ (.ref (s.heap.objs.size + 1) :: us) J.kIn hlen) rv2 h0
  refine wpAny_call (make_map (f := f) I.kIn M.makes M.init (beq_iff_eq.mp M.fn) (codeAny_mono run ?_))
  rintro (e | fl) s' q
  · exact hx pins σ _ _ e s' J q
  · cases fl with
    | ret u =>
      obtain ⟨v, H2, J2, rv3, rfl, q3⟩ := J.after q
      exact ⟨rv3, .ref (s.heap.objs.size + 1), H2, J2, rfl, q3⟩
    | next => exact q.elim
    | brk => exact q.elim
    | cont => exact q.elim
/-- x(e, ..), x a name of the module that holds what is called -/
theorem pe_callR (hc : CallR X (.ref f) r) (hm : X.mg x = some (.ref f)) (hk : PySem.W.keepIn X.K (.ref f) = true) (ha : PA X (a :: es) t) (hg : Gl X x := by rfl) (hdb : (x == ("__debug__" : Str)) = false := by decide)
    (he : starEach (a :: es) X.env = (false, eval a X.env) :: starEach es X.env := by rfl) (hpl : (backTo pos (starEach es X.env)).any (·.1) = false := by rfl) : PE X (.Call (.Name x p) (a :: es) [] pos) (tCB r t) := by
  constructor
  intro pins s σ H Q I h
  apply wpAny_Call_Name_kw
  apply ld_glob I hg hm _ hdb
  exact PySem.W.callWith_K (h₀ := X.base) I.ok.mod.kin hk (thn (ha.run pos pins s σ H _ I h) fun us s1 ⟨vs, H1, I1, rv, q⟩ => ⟨I1.kIn, hc pins s1 σ H1 vs us Q I1 rv q⟩) he hpl
theorem pe_callR0 (hc : CallR X (.ref f) r) (hm : X.mg x = some (.ref f)) (hk : PySem.W.keepIn X.K (.ref f) = true) (hg : Gl X x := by rfl) (hdb : (x == ("__debug__" : Str)) = false := by decide) : PE X (.Call (.Name x p) [] [] pos) (tCB r tNil) := by
  constructor
  intro pins s σ H Q I h
  apply wpAny_Call_Name_kw
  apply ld_glob I hg hm _ hdb
  exact PySem.W.callWith_K0 I.kIn hk (hc pins s σ H [] [] Q I .nil h)
/-- o.m(e, ..), o of the class at C -/
def tMR (C : Addr) (m : Str) (r : List V → Hp → VK → Prop) (ta : TE) (t : TA) : TE := fun σ H Q => ta σ H fun x H1 => ∃ a dx fs, x = .ref a ∧ H1 a = some (.ins C dx fs) ∧ fs.lookup m = none ∧ t σ H1 fun vs H2 => r (x :: vs) H2 Q
theorem pe_methR {pl : Sem Bool} (he : PE X o ta) (c : Cls X.K C) (hm : Meth X.K C m f) (hc : CallR X (.ref f) r) (ha : PA X (a :: es) t)
    (hst : starEach (a :: es) X.env = (false, eval a X.env) :: starEach es X.env := by rfl) (hpl : (backTo pos (starEach es X.env)).any (·.1) = false := by rfl)
    (ht : eval (.Call (.Attribute o m apos) (a :: es) [] pos) X.env = (do
      let v ← eval o X.env
      standAt apos.atName
      let (g, one) ← holding [v] (getMethod v m pl)
      callWith pos g one (backTo pos (starEach (a :: es) X.env)) (backToKw pos (keywordEach [] X.env))) := by rfl) : PE X (.Call (.Attribute o m apos) (a :: es) [] pos) (tMR C m r ta t) := by
  constructor
  intro pins s σ H Q I h
  refine PySem.W.methodCall_KW (pl := pl) (thn (he.run pins s σ H _ I h) ?_) ht
  rintro u s1 ⟨x, H1, I1, rx, q, dx, fs, rfl, hq, hl, h2⟩
  cases rx
  apply getmeth_ok I1 hq c hm hl
  exact PySem.W.callWith_K (first := [.ref q]) (h₀ := X.base) I.ok.mod.kin hm.kp (thn (ha.run pos pins s1 σ H1 _ I1 h2) fun us s2 ⟨vs, H2, I2, rv, q2⟩ => ⟨I2.kIn, hc pins s2 σ H2 (.ref q :: vs) (.ref q :: us) Q I2 (Paired.cons rfl rv) q2⟩) hst hpl
theorem pe_methR0 {pl : Sem Bool} (he : PE X o ta) (c : Cls X.K C) (hm : Meth X.K C m f) (hc : CallR X (.ref f) r)
    (ht : eval (.Call (.Attribute o m apos) [] [] pos) X.env = (do
      let v ← eval o X.env
      standAt apos.atName
      let (g, one) ← holding [v] (getMethod v m pl)
      callWith pos g one (backTo pos (starEach [] X.env)) (backToKw pos (keywordEach [] X.env))) := by rfl) : PE X (.Call (.Attribute o m apos) [] [] pos) (tMR C m r ta tNil) := by
  constructor
  intro pins s σ H Q I h
  refine PySem.W.methodCall_KW (pl := pl) (thn (he.run pins s σ H _ I h) ?_) ht
  rintro u s1 ⟨x, H1, I1, rx, q, dx, fs, rfl, hq, hl, h2⟩
  cases rx
  apply getmeth_ok I1 hq c hm hl
  exact PySem.W.callWith_K0 (first := [.ref q]) I1.kIn hm.kp (hc pins s1 σ H1 [.ref q] [.ref q] Q I1 (Paired.cons rfl .nil) h2)
end
/-! ### the law's end -/
section
open PySem.Spec PyProof.Rows
theorem law_callG {P : Program} {w : World} {K : PySem.W.Frag} {mg mb : Str → Option Value} {CX : CXT} {k : Nat} {fa a : Addr} {fd : FuncData} {x : Str} {sp : Sp} {s : Shared} {vs : List Value} {ns : List Int}
    (KX : K.In s.heap) (hns : s.heap.Ns mainGlobals mg) (hb : s.heap.Ns builtinsNs mb) (hbb : ∀ x : Str, x ≠ "__name__" → mb x = bootBuiltins x) (hlim : s.heap.NoLimit) (hg : s.gens = #[])
    (ha : s.heap.get? a = some { cls := .type "list", data := .seq vs.toArray }) (hi : IntsAre vs ns) (hl : ns.length ≤ sizeLine) (hr : RoomG k callerA)
    (G : ∀ base : Heap, K.In base → base.Ns mainGlobals mg → FnG P w K mg base CX k fa fd [x] sp) (hbind : ∀ (s : Shared) (u : Value), BindsTo s fd ⟨[u], []⟩ [(x, u)])
    (hsp : ∀ H : Hp, Only H → SqL K H a (ns.map V.int) → sp [.ref a] H (fun v _ => v = .bl true) fun _ _ _ => False)
    (hCX : ∀ H e s', CX [] H s (fun _ _ _ => False) e s' → False) :
    codeAny (model P w) callerA (.call (.ref fa) ⟨[.ref a], []⟩) (fun r s' => r = .ok (.ret (.bool true)) ∧ OldK s.heap s'.heap ∧ s'.os = s.os ∧ AllBare s'.gens) s := by
  -- what is tracked at the entry: the script, unless it is an object of the module
  have main : ∀ H : Hp, (∀ b u, H b = some u → b = a ∧ K.lookup a = none ∧ ∃ o xs, u = .frz o (.lst xs)) → SqL K H a (ns.map V.int) → HOk P w H s.heap →
      codeAny (model P w) callerA (.call (.ref fa) ⟨[.ref a], []⟩) (fun r s' => r = .ok (.ret (.bool true)) ∧ OldK s.heap s'.heap ∧ s'.os = s.os ∧ AllBare s'.gens) s := by
    intro H hH hS hok
    have hO : Only H := fun b => by
      cases q : H b with
      | none => exact .inl rfl
      | some u => obtain ⟨_, _, o, xs, rfl⟩ := hH b u q; exact .inr ⟨o, xs, rfl⟩
    have apart : ∀ {b : Addr} {o : Obj}, s.heap.get? b = some o → (b = a → False) → H b = none := fun {b o} _ hn => by
      cases q : H b with
      | none => rfl
      | some u => exact (hn (hH b u q).1).elim
    have notA : ∀ {b : Addr} {o : Obj} {e1 : Array DictEntry} {e2 : Nat}, s.heap.get? b = some o → o.data = .dict e1 e2 → b = a → False := by
      rintro b o e1 e2 h1 h2 rfl
      rw [ha] at h1
      cases h1
      cases h2
    have nsB : ∀ {b : Addr} {m : Str → Option Value}, s.heap.Ns b m → (hidT s.heap H).Ns b m := by
      rintro b m ⟨o, e1, e2, h1, h2, h3⟩
      exact ⟨o, e1, e2, hidT_get h1 (apart h1 (notA h1 h2)), h2, h3⟩
    have kB : K.In (hidT s.heap H) := fun b o h => hidT_get (KX b o h) (by
      cases q : H b with
      | none => rfl
      | some u =>
        obtain ⟨rfl, h2, _⟩ := hH b u q
        rw [h2] at h; cases h)
    have md : Mod K mg (hidT s.heap H) := by
      obtain ⟨mc, l1, l2⟩ := hlim
      exact ⟨kB, nsB hns, ⟨mb, nsB hb, hbb⟩, ⟨mc, nsB l1, l2⟩⟩
    have e0 : Env0 P w K mg (hidT s.heap H) callerA [] s H := { frames := rfl, mod := md, bs := fun b o h => of_hidT h, bsz := Nat.le_of_eq (hidT_size _ _), funs := trivial, frf := fun b hb => (List.not_mem_nil hb).elim, hok := hok, bare := .of_eq hg }
    have run := (G _ kB (nsB hns)).run callerA [] s H ⟨[.ref a], []⟩ [.ref a] [.ref a] _ _ hr e0 (hbind s (.ref a)) (Paired.cons rfl .nil) (hsp H hO hS)
    refine codeAny_mono run ?_
    rintro (e | fl) s' h
    · exact (hCX H e s' h).elim
    · cases fl with
      | next => exact h.elim
      | brk => exact h.elim
      | cont => exact h.elim
      | ret u =>
        obtain ⟨v, H2, hos, hbare, hun, hok2, rv, rfl⟩ := h
        cases (show u = Value.bool true from rv)
        refine ⟨rfl, OldK.of_keep fun b o hb => ?_, hos, hbare⟩
        cases q : H b with
        | none => exact hun.keep b o hb q (fun z => (List.not_mem_nil z).elim) (fun z => (List.not_mem_nil z).elim)
        | some u =>
          obtain ⟨_, _, o', xs, rfl⟩ := hH b u q
          have h1 := (hok b _ q).1
          have h2 := (hok2 b _ (hun.frzs b o' _ q)).1
          rw [hb] at h1
          cases h1
          exact h2
  have rv := vals_of_ints hi
  have hz : vs.length = ns.length := hi.length
  cases hk : K.lookup a with
  | some o =>
    have := KX a o hk
    rw [ha] at this
    cases this
    exact main (fun _ => none) (fun b u z => nomatch z) (.inr ⟨_, vs.toArray, _, hk, rfl, rfl, rfl, by rw [List.size_toArray, hz]; exact hl, rv⟩) fun b u z => nomatch z
  | none =>
    have at_ : ∀ b u, (fun b => if b = a then some (HO.frz { cls := .type "list", data := .seq vs.toArray } (.lst (ns.map V.int))) else none) b = some u → b = a ∧ u = HO.frz { cls := .type "list", data := .seq vs.toArray } (.lst (ns.map V.int)) := by
      intro b u z
      by_cases hb : b = a
      · rw [show (fun b => if b = a then some (HO.frz { cls := .type "list", data := .seq vs.toArray } (.lst (ns.map V.int))) else none) b = _ from if_pos hb] at z
        exact ⟨hb, (Option.some.inj z).symm⟩
      · rw [show (fun b => if b = a then some (HO.frz { cls := .type "list", data := .seq vs.toArray } (.lst (ns.map V.int))) else none) b = _ from if_neg hb] at z
        cases z
    refine main _ (fun b u z => ⟨(at_ b u z).1, hk, _, _, (at_ b u z).2⟩) (.inl (.inr ⟨_, if_pos rfl⟩)) fun b u z => ?_
    obtain ⟨rfl, rfl⟩ := at_ b u z
    exact ⟨ha, by rw [List.length_map]; exact hl, vs, _, rv, ha⟩
theorem callerG {k : Nat} (h : Room k callerA) : RoomG k callerA := ⟨h, rfl⟩
/-- what the head leaves, from the law's promise -/
theorem walkG {l : PySem.W.OpenLaw} {n k : Nat} {q : Program} {loose : List Str} {XP : (Str → Option Value) → Heap → Prop} {YP : World → Heap → Prop} {d : DefRec} {K : Params → PySem.W.Frag} {x : Str} {sp : PySem.W.Frag → Sp}
    (hn : l.most = some n) (hn2 : n ≤ sizeLine) (hdf : d.params.defaults = []) (hr : Room k callerA) (hY : ∀ (w : World) (h : Heap), YP w h → (K w.params).In h)
    (F : ∀ (w : World) (mg : Str → Option Value) (fa : Addr) (h : Heap), (K w.params).In h → h.Ns mainGlobals mg → mg d.name = some (.ref fa) →
      ∃ fd : FuncData, (∀ (s : Shared) (u : Value), BindsTo s fd ⟨[u], []⟩ [(x, u)]) ∧ ∀ base : Heap, (K w.params).In base → base.Ns mainGlobals mg → FnG l.prog w (K w.params) mg base CX0 k fa fd [x] (sp (K w.params)))
    (hsp : ∀ (K : PySem.W.Frag) (H : Hp) (a : Addr) (ns : List Int), ns.length ≤ n → Only H → SqL K H a (ns.map V.int) → sp K [.ref a] H (fun v _ => v = .bl true) fun _ _ _ => False) :
    PySem.W.WalkO q loose XP YP l.row.toRowW d [] (fun f vs => PySem.call f vs) := by
  refine Att.attach_call hn hdf ?_
  intro w s0 s1 mg mb fa o pm cd doc a vs ns G Y ho hd hcd hmg hobj hi hlen hgens
  have kx := hY w _ Y
  obtain ⟨fd, hbind, hF⟩ := F w mg fa _ kx G.T.g hmg
  exact law_callG kx G.T.g G.T.b G.T.builtins G.T.nolimit hgens hobj hi (Nat.le_trans hlen hn2) (callerG hr) hF hbind (fun H hO hS => hsp _ H a ns hlen hO hS) fun _ _ _ h => h
end
end DD
namespace DD
open PySem L2
/-! ### promises of defs, apart from the heap -/
def RelA (T : Tb) (F H : Hp) : List V → List SV → Prop
  | [], [] => True
  | v :: vs, .val d :: svs => Is T F v d ∧ RelA T F H vs svs
  | v :: vs, .bag :: svs => (∃ a, v = .ref a ∧ IsBag H a ∧ F a = none) ∧ RelA T F H vs svs
  | v :: vs, .exc c ds :: svs => RelS T F H v (.exc c ds) ∧ RelA T F H vs svs
  | _, _ => False
def cntBag : List SV → Nat
  | [] => 0
  | .bag :: r => cntBag r + 1
  | _ :: r => cntBag r
def bagsOf (vs : List V) (svs : List SV) (b : Addr) : Prop := ∃ i : Nat, svs[i]? = some .bag ∧ vs[i]? = some (.ref b)
abbrev FS := List SV → (D → Prop) → Prop
/-- what a piece of code has done -/
structure Grow (T : Tb) (B : Addr → Prop) (F H F' H' : Hp) : Prop where
  le : Le F F'
  sub : Le F' H'
  new : ∀ b o, F' b = some o → F b = some o ∨ H b = none
  keep : ∀ b o, H b = some o → ¬ B b → ¬ T.tb b → H' b = some o
  bags : ∀ b, B b → IsBag H' b
  tabs : LamX.Tabs T.tz H'
/-- what is known stands here, and so do the tables -/
def LeT (T : Tb) (F H : Hp) : Prop := Le F H ∧ LamX.Tabs T.tz H ∧ ∀ b, T.tb b → F b = none
theorem Sim.subT {T : Tb} {e : En} {F H : Hp} {δ : DEnv} {σ : L2.St} (S : Sim T e F δ σ H) : LeT T F H := ⟨S.sub, S.tabs.1, fun _ h => S.fnTab h⟩
def liftSp (T : Tb) (f : FS) : Sp := fun vs H Q _ => ∃ F svs Qd, LeT T F H ∧ RelA T F H vs svs ∧ cntBag svs ≤ 1 ∧ f svs Qd ∧ ∀ v H' F' d, Grow T (bagsOf vs svs) F H F' H' → Is T F' v d → Qd d → Q v H'
theorem RelA.len {T : Tb} {F H : Hp} : ∀ {vs : List V} {svs : List SV}, RelA T F H vs svs → vs.length = svs.length
  | [], [], _ => rfl
  | [], _ :: _, q => q.elim
  | v :: vs, [], q => q.elim
  | v :: vs, .val d :: svs, q => by rw [List.length_cons, List.length_cons, RelA.len q.2]
  | v :: vs, .bag :: svs, q => by rw [List.length_cons, List.length_cons, RelA.len q.2]
  | v :: vs, .own _ :: svs, q => q.elim
  | v :: vs, .slf _ _ :: svs, q => q.elim
  | v :: vs, .pr _ _ :: svs, q => q.elim
  | v :: vs, .exc _ _ :: svs, q => by rw [List.length_cons, List.length_cons, RelA.len q.2]
theorem RelA.get {T : Tb} {F H : Hp} : ∀ {vs : List V} {svs : List SV} {i : Nat} {sv : SV}, RelA T F H vs svs → svs[i]? = some sv → ∃ v, vs[i]? = some v ∧ RelS T F H v sv ∧ (sv.isVal = true ∨ sv = .bag)
  | [], [], i, sv, _, h => by simp at h
  | [], _ :: _, _, _, q, _ => q.elim
  | v :: vs, [], _, _, q, _ => q.elim
  | v :: vs, .val d :: svs, 0, sv, q, h => by simp at h; subst h; exact ⟨v, rfl, q.1, .inl rfl⟩
  | v :: vs, .bag :: svs, 0, sv, q, h => by simp at h; subst h; exact ⟨v, rfl, q.1, .inr rfl⟩
  | v :: vs, .val d :: svs, i + 1, sv, q, h => by
    obtain ⟨u, h1, h2⟩ := RelA.get q.2 (by simpa using h)
    exact ⟨u, by simpa using h1, h2⟩
  | v :: vs, .bag :: svs, i + 1, sv, q, h => by
    obtain ⟨u, h1, h2⟩ := RelA.get q.2 (by simpa using h)
    exact ⟨u, by simpa using h1, h2⟩
  | v :: vs, .own _ :: svs, _, _, q, _ => q.elim
  | v :: vs, .slf _ _ :: svs, _, _, q, _ => q.elim
  | v :: vs, .pr _ _ :: svs, _, _, q, _ => q.elim
  | v :: vs, .exc c ds :: svs, 0, sv, q, h => by simp at h; subst h; exact ⟨v, rfl, q.1, .inl rfl⟩
  | v :: vs, .exc c ds :: svs, i + 1, sv, q, h => by
    obtain ⟨u, h1, h2⟩ := RelA.get q.2 (by simpa using h)
    exact ⟨u, by simpa using h1, h2⟩
theorem cntBag_no : ∀ {svs : List SV} {i : Nat}, cntBag svs = 0 → svs[i]? ≠ some .bag
  | [], i, _, h => by simp at h
  | .bag :: r, i, h, _ => by unfold cntBag at h; omega
  | .val d :: r, 0, h, z => by simp at z
  | .own d :: r, 0, h, z => by simp at z
  | .slf c d :: r, 0, h, z => by simp at z
  | .pr c d :: r, 0, h, z => by simp at z
  | .exc c d :: r, 0, h, z => by simp at z
  | .val d :: r, i + 1, h, z => cntBag_no (svs := r) (i := i) (by unfold cntBag at h; exact h) (by simpa using z)
  | .own d :: r, i + 1, h, z => cntBag_no (svs := r) (i := i) (by unfold cntBag at h; exact h) (by simpa using z)
  | .slf c d :: r, i + 1, h, z => cntBag_no (svs := r) (i := i) (by unfold cntBag at h; exact h) (by simpa using z)
  | .pr c d :: r, i + 1, h, z => cntBag_no (svs := r) (i := i) (by unfold cntBag at h; exact h) (by simpa using z)
  | .exc c d :: r, i + 1, h, z => cntBag_no (svs := r) (i := i) (by unfold cntBag at h; exact h) (by simpa using z)
theorem cntBag_one : ∀ {svs : List SV} {i j : Nat}, cntBag svs ≤ 1 → svs[i]? = some .bag → svs[j]? = some .bag → i = j
  | [], i, j, _, h, _ => by simp at h
  | .bag :: r, 0, 0, _, _, _ => rfl
  | .bag :: r, 0, j + 1, h, _, z => absurd (by simpa using z) (cntBag_no (svs := r) (i := j) (by unfold cntBag at h; omega))
  | .bag :: r, i + 1, 0, h, z, _ => absurd (by simpa using z) (cntBag_no (svs := r) (i := i) (by unfold cntBag at h; omega))
  | .bag :: r, i + 1, j + 1, h, z, _ => absurd (by simpa using z) (cntBag_no (svs := r) (i := i) (by unfold cntBag at h; omega))
  | .val d :: r, 0, j, h, z, _ => by simp at z
  | .own d :: r, 0, j, h, z, _ => by simp at z
  | .slf c d :: r, 0, j, h, z, _ => by simp at z
  | .pr c d :: r, 0, j, h, z, _ => by simp at z
  | .exc c d :: r, 0, j, h, z, _ => by simp at z
  | .val d :: r, i + 1, 0, h, _, z => by simp at z
  | .own d :: r, i + 1, 0, h, _, z => by simp at z
  | .slf c d :: r, i + 1, 0, h, _, z => by simp at z
  | .pr c d :: r, i + 1, 0, h, _, z => by simp at z
  | .exc c d :: r, i + 1, 0, h, _, z => by simp at z
  | .val d :: r, i + 1, j + 1, h, y, z => congrArg (· + 1) (cntBag_one (svs := r) (by unfold cntBag at h; exact h) (by simpa using y) (by simpa using z))
  | .own d :: r, i + 1, j + 1, h, y, z => congrArg (· + 1) (cntBag_one (svs := r) (by unfold cntBag at h; exact h) (by simpa using y) (by simpa using z))
  | .slf c d :: r, i + 1, j + 1, h, y, z => congrArg (· + 1) (cntBag_one (svs := r) (by unfold cntBag at h; exact h) (by simpa using y) (by simpa using z))
  | .pr c d :: r, i + 1, j + 1, h, y, z => congrArg (· + 1) (cntBag_one (svs := r) (by unfold cntBag at h; exact h) (by simpa using y) (by simpa using z))
  | .exc c d :: r, i + 1, j + 1, h, y, z => congrArg (· + 1) (cntBag_one (svs := r) (by unfold cntBag at h; exact h) (by simpa using y) (by simpa using z))
/-! ### calls -/
/-- a call of a known value with values, by its promise -/
def liftC (T : Tb) (f : FS) : List V → Hp → VK → Prop := fun vs H Q => liftSp T f vs H Q fun _ _ _ => False
def dflt (f : FS) (dds : List D) : FS := fun svs Q => f (svs ++ dds.map SV.val) Q
def wCall (f : FS) (ws : WA) : W := fun δ Q => ws δ fun svs => cntBag svs ≤ 1 ∧ f svs fun d => Q (.val d)
section
variable {X : Cx} {T : Tb} {pos p : Pos} {tg a b c elt iter : Expr} {es ifs : List Expr} {wa wb wc we : W} {wt : WT} {wi : WI} {ws : WA} {e : En} {F F' H H' : Hp} {δ : DEnv} {σ : L2.St} {q : Pat} {qs : List Pat}
theorem ResA.relA (S : Sim T e F δ σ H) : ∀ {vs : List V} {svs : List SV}, ResA T F δ σ vs svs → RelA T F H vs svs
  | [], [], _ => trivial
  | [], _ :: _, q => q.elim
  | v :: vs, [], q => q.elim
  | v :: vs, .val d :: svs, q => ⟨q.1, ResA.relA S q.2⟩
  | v :: vs, .bag :: svs, q => by
    obtain ⟨⟨i, h1, h2⟩, q⟩ := q
    obtain ⟨u, e1, e2, _⟩ := S.slot i _ h1
    rw [h2] at e1; cases e1
    exact ⟨e2, ResA.relA S q⟩
  | v :: vs, .own _ :: svs, q => q.elim
  | v :: vs, .slf _ _ :: svs, q => q.elim
  | v :: vs, .pr _ _ :: svs, q => q.elim
  | v :: vs, .exc _ _ :: svs, q => q.elim
theorem ResA.bag : ∀ {vs : List V} {svs : List SV} {i : Nat} {v : V}, ResA T F δ σ vs svs → svs[i]? = some .bag → vs[i]? = some v → ∃ j : Nat, δ[j]? = some (some .bag) ∧ σ[j]? = some (some v)
  | [], [], i, v, _, h, _ => by simp at h
  | [], _ :: _, _, _, q, _, _ => q.elim
  | v :: vs, [], _, _, q, _, _ => q.elim
  | v :: vs, .val d :: svs, 0, u, q, h, _ => by simp at h
  | v :: vs, .bag :: svs, 0, u, q, h, g => by simp at g; subst g; exact q.1
  | v :: vs, .val d :: svs, i + 1, u, q, h, g => ResA.bag (vs := vs) (svs := svs) (i := i) q.2 (by simpa using h) (by simpa using g)
  | v :: vs, .bag :: svs, i + 1, u, q, h, g => ResA.bag (vs := vs) (svs := svs) (i := i) q.2 (by simpa using h) (by simpa using g)
  | v :: vs, .own _ :: svs, _, _, q, _, _ => q.elim
  | v :: vs, .slf _ _ :: svs, _, _, q, _, _ => q.elim
  | v :: vs, .pr _ _ :: svs, _, _, q, _, _ => q.elim
  | v :: vs, .exc _ _ :: svs, _, _, q, _, _ => q.elim
theorem RelA.app : ∀ {vs : List V} {svs : List SV} {us : List V} {ds : List D}, RelA T F H vs svs → IsL T F us ds → RelA T F H (vs ++ us) (svs ++ ds.map SV.val)
  | [], [], us, [], _, h => by rw [h.nilE]; trivial
  | [], [], us, d :: ds, _, h => by
    unfold IsL at h
    obtain ⟨v, r, rfl, h1, h2⟩ := h
    exact ⟨h1, RelA.app (vs := []) (svs := []) (show RelA T F H [] [] from trivial) h2⟩
  | [], _ :: _, _, _, q, _ => q.elim
  | v :: vs, [], _, _, q, _ => q.elim
  | v :: vs, .val d :: svs, us, ds, q, h => ⟨q.1, RelA.app q.2 h⟩
  | v :: vs, .bag :: svs, us, ds, q, h => ⟨q.1, RelA.app q.2 h⟩
  | v :: vs, .exc _ _ :: svs, us, ds, q, h => ⟨q.1, RelA.app q.2 h⟩
  | v :: vs, .own _ :: svs, _, _, q, _ => q.elim
  | v :: vs, .slf _ _ :: svs, _, _, q, _ => q.elim
  | v :: vs, .pr _ _ :: svs, _, _, q, _ => q.elim
theorem cntBag_app : ∀ (svs : List SV) (ds : List D), cntBag (svs ++ ds.map SV.val) = cntBag svs
  | [], [] => rfl
  | [], d :: ds => by
    show cntBag (ds.map SV.val) = 0
    exact cntBag_app [] ds
  | .bag :: r, ds => by show cntBag (r ++ _) + 1 = cntBag r + 1; rw [cntBag_app]
  | .val d :: r, ds => cntBag_app r ds
  | .own d :: r, ds => cntBag_app r ds
  | .slf c d :: r, ds => cntBag_app r ds
  | .pr c d :: r, ds => cntBag_app r ds
  | .exc c d :: r, ds => cntBag_app r ds
theorem bagsOf_app {vs us : List V} {svs : List SV} {ds : List D} {b : Addr} (hl : vs.length = svs.length) (h : bagsOf (vs ++ us) (svs ++ ds.map SV.val) b) : bagsOf vs svs b := by
  obtain ⟨i, h1, h2⟩ := h
  by_cases hi : i < svs.length
  · rw [List.getElem?_append_left hi] at h1
    rw [List.getElem?_append_left (by omega)] at h2
    exact ⟨i, h1, h2⟩
  · rw [List.getElem?_append_right (by omega), List.getElem?_map] at h1
    cases q : ds[i - svs.length]? with
    | none => rw [q] at h1; cases h1
    | some d => rw [q] at h1; cases h1
/-- a def's promise, used -/
theorem use_sp {f : FS} {vs : List V} {svs : List SV} {Qd : D → Prop} {Q : VK} (S : Sim T e F δ σ H) (r : ResA T F δ σ vs svs) (hc : cntBag svs ≤ 1) (h : f svs Qd)
    (k : ∀ v H' F' d, Sim T e F' δ σ H' → Le F F' → Is T F' v d → Qd d → Q v H') : liftC T f vs H Q := by
  have rA := r.relA S
  refine ⟨F, svs, Qd, S.subT, rA, hc, h, fun v H' F' d g i q => ?_⟩
  refine k v H' F' d (S.grow (bagsOf vs svs) (fun b ⟨j, h1, h2⟩ => ?_) g.le g.sub g.new g.keep g.bags g.tabs) g.le i q
  exact r.bag h1 h2
theorem callD {f : FS} {CX : CXT} {k : Nat} {g : Addr} {fd : FuncData} {ps : List Str} {dvs : List V} {ds : List Value} {dds : List D} {E : XK} (G : FnG X.prog X.w X.K X.mg X.base CX k g fd ps (liftSp T f)) (hr : RoomG k X.A) (hb : Binds X.K fd ps ds) (hd : Vals dvs ds) (hx : Passes CX X E) (hdd : ∀ F, IsL T F dvs dds) : CallR X (.ref g) (liftC T (dflt f dds)) := by
  intro pins s σ H vs us Q I rv ⟨F, svs, Qd, h1, h2, h3, h4, h5⟩
  refine callG G hr hb hd hx pins s σ H vs us Q I rv ⟨F, svs ++ dds.map SV.val, Qd, h1, RelA.app h2 (hdd F), by rw [cntBag_app]; exact h3, h4, fun v H' F' d g i q => h5 v H' F' d ⟨g.le, g.sub, g.new, fun b o hb hn ht => g.keep b o hb (fun z => hn (bagsOf_app h2.len z)) ht, fun b hb => g.bags b ?_, g.tabs⟩ i q⟩
  obtain ⟨i, e1, e2⟩ := hb
  have hi := (List.getElem?_eq_some_iff.mp e1).1
  exact ⟨i, by rw [List.getElem?_append_left hi]; exact e1, by rw [List.getElem?_append_left (by rw [h2.len]; exact hi)]; exact e2⟩
theorem lift_C {r : List V → Hp → VK → Prop} {f : FS} (hr : r = liftC T f) {σ : L2.St} {H : Hp} {Q : VK} (h : lift T (wCall f ws) σ H Q) : tCB r (liftA T ws) σ H Q := by
  subst hr
  obtain ⟨e, F, δ, Qd, S, w, k⟩ := h
  refine ⟨e, F, δ, _, S, w, fun vs H1 F1 svs S1 l1 r1 q1 => ?_⟩
  exact use_sp S1 r1 q1.1 q1.2 fun v H' F' d S' l' i' q' => k v H' F' (.val d) S' (l1.trans l') i' q'
theorem d_call {f : FS} {g : Addr} {x : Str} (hc : CallR X (.ref g) (liftC T f)) (hm : X.mg x = some (.ref g)) (hk : PySem.W.keepIn X.K (.ref g) = true) (ha : PA X (a :: es) (liftA T ws)) (hg : Gl X x := by rfl) (hdb : (x == ("__debug__" : Str)) = false := by decide)
    (he : starEach (a :: es) X.env = (false, eval a X.env) :: starEach es X.env := by rfl) (hpl : (backTo pos (starEach es X.env)).any (·.1) = false := by rfl) : PE X (.Call (.Name x p) (a :: es) [] pos) (lift T (wCall f ws)) :=
  PE.weak (pe_callR hc hm hk ha hg hdb he hpl) fun σ H Q h => lift_C rfl h
theorem d_call0 {f : FS} {g : Addr} {x : Str} (hc : CallR X (.ref g) (liftC T f)) (hm : X.mg x = some (.ref g)) (hk : PySem.W.keepIn X.K (.ref g) = true) (hg : Gl X x := by rfl) (hdb : (x == ("__debug__" : Str)) = false := by decide) : PE X (.Call (.Name x p) [] [] pos) (lift T (wCall f wNil)) :=
  PE.weak (pe_callR0 hc hm hk hg hdb) fun σ H Q ⟨e, F, δ, Qd, S, w, k⟩ => use_sp S (show ResA T F δ σ [] [] from trivial) w.1 w.2 fun v H' F' d S' l' i' q' => k v H' F' (.val d) S' l' i' q'
/-! ### methods -/
def wMeth (c : Nat) (f : FS) (wo : W) (ws : WA) : W := fun δ Q => wo δ fun x => wd x fun d => match d with
  | .ins c' ds => c' = c ∧ ws δ fun svs => cntBag svs ≤ 1 ∧ f (.val (.ins c ds) :: svs) fun d => Q (.val d)
  | _ => False
theorem zip_lookup_none : ∀ {fs : List Str} {vs : List V} {f : Str}, fs.contains f = false → (fs.zip vs).lookup f = none
  | [], vs, f, _ => by simp
  | g :: fs, [], f, _ => by simp
  | g :: fs, u :: vs, f, h => by
    rw [List.contains_cons, Bool.or_eq_false_iff] at h
    rw [List.zip_cons_cons, List.lookup_cons, h.1]
    exact zip_lookup_none h.2
theorem lift_M {c : Nat} {m : Str} {f : FS} (hm : (T.fl c).contains m = false) {o : Expr} {wo : W} {σ : L2.St} {H : Hp} {Q : VK} (h : lift T (wMeth c f wo ws) σ H Q) : tMR (T.ca c) m (liftC T f) (lift T wo) (liftA T ws) σ H Q := by
  obtain ⟨e, F, δ, Qd, S, w, k⟩ := h
  refine use (te := lift T wo) S w fun x H1 F1 d S1 l1 i1 w1 => ?_
  split at w1
  · rename_i c' ds
    obtain ⟨rfl, w1⟩ := w1
    obtain ⟨p, dx, vs, rfl, h1, h2, h3⟩ := id i1.insE
    refine ⟨p, dx, _, rfl, S1.sub _ _ h1, zip_lookup_none hm, e, F1, δ, _, S1, w1, fun us H2 F2 svs S2 l2 r2 q2 => ?_⟩
    exact use_sp S2 (show ResA T F2 δ σ (.ref p :: us) (.val (.ins c' ds) :: svs) from ⟨Is.mono T l2 _ i1, r2⟩) q2.1 q2.2 fun v H' F' d S' l' i' q' => k v H' F' (.val d) S' ((l1.trans l2).trans l') i' q'
  · exact w1.elim
theorem d_meth {c : Nat} {m : Str} {f : FS} {g : Addr} {o : Expr} {wo : W} {apos : Pos} {pl : Sem Bool} (hc : CallR X (.ref g) (liftC T f)) (cl : Cls X.K (T.ca c)) (hm : Meth X.K (T.ca c) m g) (hf : (T.fl c).contains m = false) (ho : PE X o (lift T wo)) (ha : PA X (a :: es) (liftA T ws))
    (hst : starEach (a :: es) X.env = (false, eval a X.env) :: starEach es X.env := by rfl) (hpl : (backTo pos (starEach es X.env)).any (·.1) = false := by rfl)
    (ht : eval (.Call (.Attribute o m apos) (a :: es) [] pos) X.env = (do
      let v ← eval o X.env
      standAt apos.atName
      let (g, one) ← holding [v] (getMethod v m pl)
      callWith pos g one (backTo pos (starEach (a :: es) X.env)) (backToKw pos (keywordEach [] X.env))) := by rfl) : PE X (.Call (.Attribute o m apos) (a :: es) [] pos) (lift T (wMeth c f wo ws)) :=
  PE.weak (pe_methR (pl := pl) ho cl hm hc ha hst hpl ht) fun σ H Q h => lift_M (o := o) hf h
theorem d_meth0 {c : Nat} {m : Str} {f : FS} {g : Addr} {o : Expr} {wo : W} {apos : Pos} {pl : Sem Bool} (hc : CallR X (.ref g) (liftC T f)) (cl : Cls X.K (T.ca c)) (hm : Meth X.K (T.ca c) m g) (hf : (T.fl c).contains m = false) (ho : PE X o (lift T wo))
    (ht : eval (.Call (.Attribute o m apos) [] [] pos) X.env = (do
      let v ← eval o X.env
      standAt apos.atName
      let (g, one) ← holding [v] (getMethod v m pl)
      callWith pos g one (backTo pos (starEach [] X.env)) (backToKw pos (keywordEach [] X.env))) := by rfl) : PE X (.Call (.Attribute o m apos) [] [] pos) (lift T (wMeth c f wo wNil)) :=
  PE.weak (pe_methR0 (pl := pl) ho cl hm hc ht) fun σ H Q ⟨e, F, δ, Qd, S, w, k⟩ => by
    refine use (te := lift T wo) S w fun x H1 F1 d S1 l1 i1 w1 => ?_
    split at w1
    · rename_i c' ds
      obtain ⟨rfl, w1⟩ := w1
      obtain ⟨p, dx, vs, rfl, h1, h2, h3⟩ := id i1.insE
      refine ⟨p, dx, _, rfl, S1.sub _ _ h1, zip_lookup_none hf, ?_⟩
      exact use_sp S1 (show ResA T F1 δ σ [.ref p] [.val (.ins c' ds)] from ⟨i1, trivial⟩) w1.1 w1.2 fun v H' F' d S' l' i' q' => k v H' F' (.val d) S' (l1.trans l') i' q'
    · exact w1.elim
end
/-! ### a def's body -/
def startD (n : Nat) (svs : List SV) : DEnv := svs.map some ++ List.replicate (n - svs.length) none
def endD (Qd : D → Prop) : DE := ⟨fun _ => Qd .non, fun sv => wd sv Qd, fun _ => False, fun _ => False⟩
section
variable {T : Tb} {P : Program} {w : World} {K : PySem.W.Frag} {mg : Str → Option Value} {base : Heap}
theorem sim_start {F H : Hp} {vs : List V} {svs : List SV} {N : List Str} (hF : LeT T F H) (r : RelA T F H vs svs) (hc : cntBag svs ≤ 1) : Sim T ⟨F, H, bagsOf vs svs, T.tb, []⟩ F (startD N.length svs) (L2.start N vs) H := by
  have hl := r.len
  have get : ∀ (i : Nat) (sv : SV), (startD N.length svs)[i]? = some (some sv) → svs[i]? = some sv := fun i sv h => by
    unfold startD at h
    by_cases hi : i < svs.length
    · rw [List.getElem?_append_left (by simpa using hi), List.getElem?_map] at h
      cases q : svs[i]? with
      | none => rw [q] at h; cases h
      | some x => rw [q] at h; cases h; rfl
    · rw [List.getElem?_append_right (by simpa using hi), List.getElem?_replicate] at h
      split at h <;> cases h
  have getV : ∀ (i : Nat) (v : V), vs[i]? = some v → (L2.start N vs)[i]? = some (some v) := fun i v h => by
    unfold L2.start
    have hi := (List.getElem?_eq_some_iff.mp h).1
    rw [List.getElem?_append_left (by simpa using hi), List.getElem?_map, h]; rfl
  have bg : ∀ b, bagsOf vs svs b → IsBag H b := fun b ⟨i, h1, h2⟩ => by
    obtain ⟨v, e1, ⟨a, e2, e3, _⟩, _⟩ := r.get h1
    rw [h2] at e1; cases e1; cases e2; exact e3
  refine ⟨by simp [startD, L2.start, hl], hF.1, Le.refl F, fun b o h => .inl h, fun b o h _ _ => h, bg, fun b ⟨p, hp, z⟩ => (hF.2.1 p hp).elim fun ps h => ⟨_, z ▸ h.1⟩, fun b hb => let ⟨f, s, c, h, _⟩ := bg b hb; ⟨_, h⟩, ⟨hF.2.1, fun b h => ⟨h, hF.2.2 b h, tabAt hF.2.1 h⟩⟩, fun i sv h => ?_, fun i j si sj v h1 h2 v1 v2 u1 u2 => ?_⟩
  · obtain ⟨v, e1, e2, e3⟩ := r.get (get i sv h)
    refine ⟨v, getV i v e1, e2, ?_⟩
    rcases e3 with z | rfl
    · cases sv with
      | val d => trivial
      | own _ => cases z
      | bag => cases z
      | slf _ _ => cases z
      | pr _ _ => cases z
      | exc _ _ => trivial
    · rintro a rfl
      exact .inl ⟨i, get i _ h, e1⟩
  · obtain ⟨w1, _, _, e3⟩ := r.get (get i si h1)
    obtain ⟨w2, _, _, e4⟩ := r.get (get j sj h2)
    rcases e3 with z | rfl
    · rw [v1] at z; cases z
    · rcases e4 with z | rfl
      · rw [v2] at z; cases z
      · exact cntBag_one hc (get i _ h1) (get j _ h2)
/-- THE RULE for a def -/
theorem fn_D {x qual : Str} {st : Stmt} {f : Addr} {fd : FuncData} {N ps : List Str} {k : Nat} {sp : FS} {wb : WS} {dvs : List V} (F : FunX K x qual st dvs f fd) (S : FnScope N ps (defScope st))
    (hb : ∀ (cdv : Value) (A : Around) (outer : List Env) (s : Shared) (H : Hp) (E : XK), RoomG k (A.deeper (PyProof.Rows.envOfC qual (defScope st) s.heap.objs.size f cdv)) → PSs (cxOf CX0 P w K mg base N qual (defScope st) f cdv A outer s H E).nox (defBody st) (liftS T wb))
    (hw : ∀ svs Qd, sp svs Qd → svs.length = ps.length ∧ wb (endD Qd) (startD N.length svs)) : FnG P w K mg base CX0 (k + 1) f fd ps (liftSp T sp) := by
  refine fnG_of F S (fun vs H Q E ⟨F0, svs, Qd, h1, h2, h3, h4, _⟩ => h2.len.trans (hw svs Qd h4).1) fun cdv A outer s H vs Q E hr ⟨F0, svs, Qd, h1, h2, h3, h4, h5⟩ => ⟨_, (hb cdv A outer s H E hr).nox, ?_⟩
  have S0 := sim_start (N := N) h1 h2 h3
  have grow : ∀ F' δ' σ' H', Sim T ⟨F0, H, bagsOf vs svs, T.tb, []⟩ F' δ' σ' H' → Grow T (bagsOf vs svs) F0 H F' H' := fun F' δ' σ' H' S' => ⟨S'.base, S'.sub, S'.new, fun b o q n nt => S'.keep b o q n nt, S'.bags, S'.tabs.1⟩
  refine ⟨_, F0, _, endD Qd, S0, (hw svs Qd h4).2, fun σ' H' F' δ' S' l' q' => ?_, fun v σ' H' F' δ' sv S' l' r' q' => ?_, fun σ' H' F' δ' S' l' q' => q'.elim, fun σ' H' F' δ' S' l' q' => q'.elim⟩
  · exact h5 .non H' F' .non (grow _ _ _ _ S') Is.non q'
  · obtain ⟨F2, d, l2, S2, i2, q2⟩ := r'.wd S' q'
    exact h5 v H' F2 d (grow _ _ _ _ S2) i2 q2
end
end DD
namespace DD
open PySem L2
/-! ### fields -/
theorem zip_lookup : ∀ {fs : List Str} {vs : List V} {i : Nat} {f : Str} {v : V}, fs.Nodup → fs[i]? = some f → vs[i]? = some v → (fs.zip vs).lookup f = some v
  | [], vs, i, f, v, _, h, _ => by simp at h
  | g :: fs, [], i, f, v, _, _, h => by simp at h
  | g :: fs, u :: vs, 0, f, v, nd, h1, h2 => by
    simp at h1 h2; subst h1; subst h2
    rw [List.zip_cons_cons, List.lookup_cons]
    simp
  | g :: fs, u :: vs, i + 1, f, v, nd, h1, h2 => by
    have hm : f ∈ fs := List.mem_of_getElem? (by simpa using h1)
    have ne : (f == g) = false := by
      refine beq_eq_false_iff_ne.mpr fun z => ?_
      subst z
      exact (List.nodup_cons.mp nd).1 hm
    rw [List.zip_cons_cons, List.lookup_cons, ne]
    exact zip_lookup (List.nodup_cons.mp nd).2 (by simpa using h1) (by simpa using h2)
theorem putF_zip : ∀ {fs : List Str} {vs : List V} {f : Str} {v : V}, fs.Nodup → vs.length < fs.length → fs[vs.length]? = some f → putF f v ((fs.take vs.length).zip vs) = (fs.take (vs.length + 1)).zip (vs ++ [v])
  | [], vs, f, v, _, h, _ => by simp at h
  | g :: fs, [], f, v, nd, _, h => by
    simp at h; subst h
    simp [putF]
  | g :: fs, u :: vs, f, v, nd, hl, h => by
    have hm : f ∈ fs := List.mem_of_getElem? (i := vs.length) (by simpa using h)
    have ne : ¬ g = f := fun z => (List.nodup_cons.mp nd).1 (by rw [z]; exact hm)
    have ih := putF_zip (fs := fs) (vs := vs) (f := f) (v := v) (List.nodup_cons.mp nd).2 (by simpa using hl) (by simpa using h)
    show putF f v ((g, u) :: (fs.take vs.length).zip vs) = (g, u) :: (fs.take (vs.length + 1)).zip (vs ++ [v])
    unfold putF
    rw [if_neg ne, ih]
/-- the field's place in each class that may come -/
structure FldOk (T : Tb) (K : PySem.W.Frag) (f : Str) (cs : List (Nat × Nat)) : Prop where
  ok : ∀ c i, cs.lookup c = some i → Cls K (T.ca c) ∧ NoAttr K (T.ca c) f ∧ (T.fl c)[i]? = some f ∧ (T.fl c).Nodup
def wFld (cs : List (Nat × Nat)) (w : W) : W := fun δ Q => w δ fun x => wd x fun d => match d with
  | .ins c ds => (match cs.lookup c with
    | some i => (match ds[i]? with
      | some d => Q (.val d)
      | none => False)
    | none => False)
  | _ => False
section
variable {X : Cx} {T : Tb} {pos p : Pos} {tg a b c o : Expr} {es ifs : List Expr} {wa wb wc we : W} {wt : WT} {wi : WI} {ws : WA} {e : En} {F F' H H' : Hp} {δ : DEnv} {σ : L2.St} {q : Pat} {qs : List Pat} {E : XK}
theorem d_fld {f : Str} {cs : List (Nat × Nat)} (hf : FldOk T X.K f cs) (ha : PE X a (lift T wa)) (hb : attributeBase a f X.env (eval a X.env) = eval a X.env := by rfl) : PE X (.Attribute a f pos) (lift T (wFld cs wa)) := by
  refine PE.weak (pe_fld ha hb) fun σ H Q ⟨e, F, δ, Qd, S, w, k⟩ => ?_
  refine use (te := lift T wa) S w fun x H1 F1 dx S1 l1 i1 w1 => ?_
  split at w1
  · rename_i c ds
    split at w1
    · rename_i i hi
      split at w1
      · rename_i d hd
        obtain ⟨p, dx, vs, rfl, h1, h2, h3⟩ := i1.insE
        obtain ⟨o1, o2, o3, o4⟩ := hf.ok c i hi
        obtain ⟨v, h4, h5⟩ := h3.get T hd
        exact ⟨p, _, dx, _, v, rfl, S1.sub _ _ h1, o1, o2, zip_lookup o4 o3 h4, k v H1 F1 (.val d) S1 l1 h5 w1⟩
      · exact w1.elim
    · exact w1.elim
  · exact w1.elim
/-- self.f = e, in an __init__ -/
def wSetF (i : Nat) (c : Nat) (f : Str) (T : Tb) (w : W) : WS := fun D δ => w δ fun x => wd x fun d => match δ[i]? with
  | some (some (.slf c' ds)) => c' = c ∧ (T.fl c)[ds.length]? = some f ∧ D.nx (δ.set i (some (.slf c (ds ++ [d]))))
  | _ => False
theorem upd_slot (S : Sim T e F δ σ H) {i : Nat} {sv sv' : SV} {p : Addr} {o : HO} (hi : δ[i]? = some (some sv)) (hs : σ[i]? = some (some (.ref p))) (hv : sv.isVal = false) (hv' : sv'.isVal = false) (hr : RelS T F (upd H p o) (.ref p) sv') (hm : Mine e (.ref p) sv')
    (hb : ∀ b, e.Bg b → b = p → IsBag (upd H p o) b) (hk : e.Sf p ∨ e.Bg p ∨ e.H0 p = none) : Sim T e F (δ.set i (some sv')) σ (upd H p o) := by
  obtain ⟨v, e1, r1, _⟩ := S.slot i sv hi
  rw [hs] at e1; cases e1
  obtain ⟨p', o', e2, hp, hF⟩ := r1.there hv
  cases e2
  have hil := (List.getElem?_eq_some_iff.mp hi).1
  refine ⟨by rw [List.length_set]; exact S.len, S.sub.updR hF, S.base, S.new, fun b u q n1 n2 => ?_, fun b h => ?_, fun b h => ?_, S.bgt, tabs_wr S.tabs hp (r1.soft hv hp).1 (r1.soft hv hp).2, fun j sj h => ?_, fun j k sj sk u h1 h2 v1 v2 u1 u2 => ?_⟩
  · rw [upd_ne]
    · exact S.keep b u q n1 n2
    · rintro rfl
      rcases hk with z | z | z
      · exact n2 z
      · exact n1 z
      · rw [z] at q; cases q
  · by_cases z : b = p
    · exact hb b h z
    · obtain ⟨f, s, c, h1, h2⟩ := S.bags b h
      exact ⟨f, s, c, by rw [upd_ne z]; exact h1, h2⟩
  · by_cases z : b = p
    · subst z; exact ⟨_, upd_same⟩
    · obtain ⟨u, h1⟩ := S.self b h
      exact ⟨u, by rw [upd_ne z]; exact h1⟩
  · by_cases z : i = j
    · subst z
      rw [List.getElem?_set_self hil] at h
      cases h
      exact ⟨_, hs, hr, hm⟩
    · rw [List.getElem?_set_ne z] at h
      obtain ⟨v, h1, h2, h3⟩ := S.slot j sj h
      refine ⟨v, h1, h2.mono (Le.refl F) (fun a ha hv2 => ?_) (fun _ _ _ y => y), h3⟩
      rw [upd_ne]
      rintro rfl
      rw [ha] at h1
      exact z (S.sep i j sv sj _ hi h hv hv2 hs h1)
  · have old : ∀ (m : Nat) (sm : SV), (δ.set i (some sv'))[m]? = some (some sm) → sm.isVal = false → ∃ s0, δ[m]? = some (some s0) ∧ s0.isVal = false := fun m sm h hm => by
      by_cases z : i = m
      · subst z; exact ⟨sv, hi, hv⟩
      · rw [List.getElem?_set_ne z] at h; exact ⟨sm, h, hm⟩
    obtain ⟨s1, g1, g2⟩ := old j sj h1 v1
    obtain ⟨s2, g3, g4⟩ := old k sk h2 v2
    exact S.sep j k s1 s2 u g1 g3 g2 g4 u1 u2
theorem s_fld (i : Nat) (c : Nat) {x f : Str} {pos' pos2 : Pos} (hc : Cls X.K (T.ca c)) (hn : NoAttr X.K (T.ca c) f) (nd : (T.fl c).Nodup) (hl : (T.fl c).length < 1000) (ha : PE X a (lift T wa)) (hN : X.N[i]? = some x := by rfl) (hv : Vis X.env.scope x := by first | exact Or.inl rfl | exact Or.inr (Or.inl rfl) | exact Or.inr (Or.inr rfl)) (hd : (x == ("__debug__" : Str)) = false := by decide)
    (hcd : (x == ("__classdict__" : Str)) = false := by decide) (hs : swapsWith a (some (.Attribute (.Name x pos2) f pos')) pos.line X.env = pure false := by rfl) : PS X (.Assign [.Attribute (.Name x pos2) f pos'] a pos) (liftS T (wSetF i c f T wa)) := by
  refine PS.weak (ps_fld (pe_var hN hv hd hcd) ha hs) fun D σ H ⟨e, F, δ, Dd, S, w, k1, k2, k3, k4⟩ => ?_
  refine use (te := lift T wa) S w fun v H1 F1 d S1 l1 i1 w1 => ?_
  split at w1
  · rename_i c' ds hi
    obtain ⟨rfl, hf, w1⟩ := w1
    obtain ⟨u, e1, r1, m1⟩ := S1.slot i _ hi
    obtain ⟨p, dx, vs, rfl, hp, hlen, hF, is⟩ := r1
    have el := is.len
    refine ⟨_, e1, p, _, dx, _, rfl, hp, hc, hn, ?_, ?_⟩
    · refine Nat.lt_of_le_of_lt ?_ hl
      rw [List.length_zip, List.length_take]
      omega
    · have hlt : ds.length < (T.fl c').length := (List.getElem?_eq_some_iff.mp hf).1
      have ez : putF f v (((T.fl c').take ds.length).zip vs) = ((T.fl c').take (ds ++ [d]).length).zip (vs ++ [v]) := by
        rw [← el, putF_zip nd (by rw [el]; exact hlt) (by rw [el]; exact hf), List.length_append]
        simp [el]
      rw [ez]
      refine k1 _ _ F1 _ (upd_slot (p := p) (sv' := .slf c' (ds ++ [d])) S1 hi e1 rfl rfl ⟨p, dx, vs ++ [v], rfl, upd_same, ?_, hF, IsL.app T is (IsL.one T i1)⟩ m1 ?_ (.inl (m1 p rfl))) l1 w1
      · rw [List.length_append, List.length_singleton]; omega
      · rintro b hb rfl
        obtain ⟨f, s, c, h1, _⟩ := S1.bags b hb
        rw [hp] at h1; cases h1
  · exact w1.elim
/-! ### classes -/
abbrev FI := List SV → (List D → Prop) → Prop
structure GrowI (T : Tb) (c : Nat) (B : Addr → Prop) (me : Addr) (F H F' H' : Hp) (ds : List D) : Prop where
  le : Le F F'
  sub : Le F' H'
  new : ∀ b o, F' b = some o → F b = some o ∨ H b = none
  keep : ∀ b o, H b = some o → ¬ B b → b ≠ me → ¬ T.tb b → H' b = some o
  bags : ∀ b, B b → IsBag H' b
  tabs : LamX.Tabs T.tz H'
  obj : ∃ dx vs, H' me = some (.ins (T.ca c) dx ((T.fl c).zip vs)) ∧ vs.length = (T.fl c).length ∧ F' me = none ∧ IsL T F' vs ds
def liftIn (T : Tb) (c : Nat) (f : FI) : Sp := fun vs H Q _ => ∃ self dx rest F svs Qd, vs = .ref self :: rest ∧ H self = some (.ins (T.ca c) dx []) ∧ F self = none ∧ LeT T F H ∧ RelA T F H rest svs ∧ cntBag svs = 0 ∧ f svs Qd ∧
  ∀ H' F' ds, GrowI T c (fun _ => False) self F H F' H' ds → Qd ds → Q .non H'
/-- THE RULE for an __init__ -/
def endI (c : Nat) (n : Nat) (Qd : List D → Prop) : DE := ⟨fun (δ : DEnv) => match (δ[0]? : Option (Option SV)) with
  | some (some (.slf c' ds)) => c' = c ∧ ds.length = n ∧ Qd ds
  | _ => False, fun _ => False, fun _ => False, fun _ => False⟩
theorem sim_startI {N : List Str} {c : Nat} {self dx : Addr} {rest : List V} {F0 H : Hp} {svs : List SV} (h1 : H self = some (.ins (T.ca c) dx [])) (h2 : F0 self = none) (h3 : LeT T F0 H) (h4 : RelA T F0 H rest svs) (h5 : cntBag svs = 0) : Sim T ⟨F0, H, fun _ => False, fun b => b = self ∨ T.tb b, []⟩ F0 (startD N.length (.slf c [] :: svs)) (L2.start N (.ref self :: rest)) H := by
  -- the start: as of the arguments alone, the own object beside them
  have S0 := sim_start (N := []) h3 h4 (by omega)
  have nb : ∀ b, ¬ bagsOf rest svs b := fun b ⟨i, z, _⟩ => cntBag_no h5 z
  have hl := h4.len
  have get : ∀ (i : Nat) (sv : SV), (startD N.length (.slf c [] :: svs))[i]? = some (some sv) → (SV.slf c [] :: svs)[i]? = some sv := fun i sv h => by
    unfold startD at h
    by_cases hi : i < (SV.slf c [] :: svs).length
    · rw [List.getElem?_append_left (by rw [List.length_map]; exact hi), List.getElem?_map] at h
      cases q : (SV.slf c [] :: svs)[i]? with
      | none => rw [q] at h; cases h
      | some x => rw [q] at h; cases h; rfl
    · rw [List.getElem?_append_right (by rw [List.length_map]; omega), List.getElem?_replicate] at h
      split at h <;> cases h
  have getV : ∀ (i : Nat) (v : V), (V.ref self :: rest)[i]? = some v → (L2.start N (.ref self :: rest))[i]? = some (some v) := fun i v h => by
    unfold L2.start
    have hi := (List.getElem?_eq_some_iff.mp h).1
    rw [List.getElem?_append_left (by rw [List.length_map]; exact hi), List.getElem?_map, h]; rfl
  have only : ∀ (i : Nat) (sv : SV), (startD N.length (.slf c [] :: svs))[i]? = some (some sv) → sv.isVal = false → i = 0 := fun i sv h hv => by
    cases i with
    | zero => rfl
    | succ i =>
      obtain ⟨v, _, _, z⟩ := h4.get (i := i) (by simpa using get (i + 1) sv h)
      rcases z with z | rfl
      · rw [hv] at z; cases z
      · exact absurd (by simpa using get (i + 1) _ h) (cntBag_no (i := i) h5)
  refine ⟨by simp [startD, L2.start, hl], h3.1, Le.refl _, fun b o h => .inl h, fun b o h _ _ => h, fun b h => h.elim, fun b h => h.elim (fun h => ⟨_, by cases h; exact h1⟩) (S0.self b), fun b h => h.elim, ⟨h3.2.1, fun b h => ⟨.inr h, h3.2.2 b h, tabAt h3.2.1 h⟩⟩, fun i sv h => ?_, fun i j si sj v g1 g2 v1 v2 _ _ => (only i si g1 v1).trans (only j sj g2 v2).symm⟩
  cases i with
  | zero =>
    have := get 0 sv h
    simp at this; subst this
    exact ⟨.ref self, getV 0 _ rfl, ⟨self, dx, [], rfl, by simpa using h1, Nat.zero_le _, h2, IsL.nil T⟩, fun a ha => by cases ha; exact .inl rfl⟩
  | succ i =>
    obtain ⟨v, e1, e2, z⟩ := h4.get (i := i) (by simpa using get (i + 1) sv h)
    refine ⟨v, getV (i + 1) v (by simpa using e1), e2, ?_⟩
    rcases z with z | rfl
    · cases sv with
      | val d => trivial
      | own _ => cases z
      | bag => cases z
      | slf _ _ => cases z
      | pr _ _ => cases z
      | exc _ _ => trivial
    · exact absurd (by simpa using get (i + 1) _ h) (cntBag_no (i := i) h5)
theorem fn_I {P : Program} {w : World} {K : PySem.W.Frag} {mg : Str → Option Value} {base : Heap} {x qual : Str} {st : Stmt} {f : Addr} {fd : FuncData} {N ps : List Str} {k : Nat} {sp : FI} {wb : WS} (c : Nat) {dvs : List V} (F : FunX K x qual st dvs f fd) (S : FnScope N ps (defScope st))
    (hb : ∀ (cdv : Value) (A : Around) (outer : List Env) (s : Shared) (H : Hp) (E : XK), RoomG k (A.deeper (PyProof.Rows.envOfC qual (defScope st) s.heap.objs.size f cdv)) → PSs (cxOf CX0 P w K mg base N qual (defScope st) f cdv A outer s H E).nox (defBody st) (liftS T wb))
    (hw : ∀ svs Qd, sp svs Qd → svs.length + 1 = ps.length ∧ wb (endI c (T.fl c).length Qd) (startD N.length (.slf c [] :: svs))) : FnG P w K mg base CX0 (k + 1) f fd ps (liftIn T c sp) := by
  refine fnG_of F S (fun vs H Q E ⟨self, dx, rest, F0, svs, Qd, e0, h1, h2, h3, h4, h5, h6, _⟩ => by rw [e0, List.length_cons, h4.len]; exact (hw svs Qd h6).1) fun cdv A outer s H vs Q E hr ⟨self, dx, rest, F0, svs, Qd, e0, h1, h2, h3, h4, h5, h6, h7⟩ => ⟨_, (hb cdv A outer s H E hr).nox, ?_⟩
  subst e0
  have S1 := sim_startI (N := N) h1 h2 h3 h4 h5
  refine ⟨_, F0, _, endI c (T.fl c).length Qd, S1, (hw svs Qd h6).2, fun σ' H' F' δ' S' l' q' => ?_, fun v σ' H' F' δ' sv S' l' r' q' => q'.elim, fun σ' H' F' δ' S' l' q' => q'.elim, fun σ' H' F' δ' S' l' q' => q'.elim⟩
  have q2 : (match (δ'[0]? : Option (Option SV)) with | some (some (.slf c' ds)) => c' = c ∧ ds.length = (T.fl c).length ∧ Qd ds | _ => False) := q'
  split at q2
  · rename_i c' ds hd
    obtain ⟨rfl, hn, q3⟩ := q2
    obtain ⟨v, e1, ⟨p, dx', vs, rfl, g1, g2, g3, g4⟩, m1⟩ := S'.slot 0 _ hd
    have ep : p = self := (m1 p rfl).elim id fun z => (noTab S'.tabs.1 g1 (fun _ z => by cases z) z).elim
    subst ep
    refine h7 H' F' ds ⟨S'.base, S'.sub, S'.new, fun b o h _ hb ht => S'.keep b o h (fun z => z) fun z => z.elim hb ht, fun b h => h.elim, S'.tabs.1, ⟨dx', vs, ?_, by rw [g4.len, hn], g3, g4⟩⟩ q3
    rw [hn, List.take_length] at g1
    exact g1
  · exact q2.elim
/-- C(..) as a call -/
def mkF (c : Nat) (f : FI) : FS := fun svs Q => cntBag svs = 0 ∧ f svs fun ds => Q (.ins c ds)
theorem make_use {c : Nat} {f : FI} {F H : Hp} {vs : List V} {svs : List SV} {Qd : D → Prop} {Q : VK} (hFT : LeT T F H) (h2 : RelA T F H vs svs) (hc : cntBag svs = 0) (h4 : f svs fun ds => Qd (.ins c ds))
    (h5 : ∀ v H' F' d, Grow T (fun _ => False) F H F' H' → Is T F' v d → Qd d → Q v H') {x dx : Addr} (hx : H x = none) (hdx : H dx = none) (hne : dx ≠ x) : liftIn T c f (.ref x :: vs) (upd (upd H dx (.own x)) x (.ins (T.ca c) dx [])) (fun v H2 => v = .non ∧ Q (.ref x) H2) E := by
  have hFH := hFT.1
  have fz : ∀ {b : Addr}, H b = none → F b = none := fun {b} hb => by
    cases q : F b with
    | none => rfl
    | some o => rw [hFH b o q] at hb; cases hb
  have fx := fz hx
  have hx1 : upd H dx (.own x) x = none := by rw [upd_ne (Ne.symm hne)]; exact hx
  have sub2 : Le F (upd (upd H dx (.own x)) x (.ins (T.ca c) dx [])) := (hFH.updR (fz hdx)).updR fx
  have up : ∀ b, upd (upd H dx (.own x)) x (.ins (T.ca c) dx []) b = none → H b = none := fun b hb => by
    cases u : H b with
    | none => rfl
    | some o =>
      rw [upd_ne (ne_of_none u hx), upd_ne (ne_of_none u hdx), u] at hb; cases hb
  have old : ∀ b o, H b = some o → upd (upd H dx (.own x)) x (.ins (T.ca c) dx []) b = some o := fun b o h => by
    rw [upd_ne (ne_of_none h hx), upd_ne (ne_of_none h hdx)]; exact h
  have rel : ∀ {vs : List V} {svs : List SV}, RelA T F H vs svs → RelA T F (upd (upd H dx (.own x)) x (.ins (T.ca c) dx [])) vs svs := by
    intro vs
    induction vs with
    | nil => intro svs h; cases svs <;> exact h
    | cons v vs ih =>
      intro svs h
      cases svs with
      | nil => exact h
      | cons sv svs =>
        cases sv with
        | val d => exact ⟨h.1, ih h.2⟩
        | bag =>
          obtain ⟨⟨a, e1, ⟨f, s, c, e2, e3⟩, e4⟩, h⟩ := h
          exact ⟨⟨a, e1, ⟨f, s, c, old a _ e2, e3⟩, e4⟩, ih h⟩
        | own _ => exact h
        | slf _ _ => exact h
        | pr _ _ => exact h
        | exc _ _ => exact ⟨h.1.monoV (Le.refl F) rfl, ih h.2⟩
  refine ⟨x, dx, vs, F, svs, _, rfl, upd_same, fx, ⟨sub2, tabz_new (tabz_new hFT.2.1 hdx) hx1, hFT.2.2⟩, rel h2, hc, h4, fun H' F' ds g q => ⟨rfl, ?_⟩⟩
  obtain ⟨dx', ws, g1, g2, g3, g4⟩ := g.obj
  refine h5 (.ref x) H' (upd F' x (.ins (T.ca c) dx' ((T.fl c).zip ws))) (.ins c ds) ⟨g.le.trans (le_upd g3), fun b o q => ?_, fun b o q => ?_, fun b o hb _ ht => g.keep b o (old b o hb) (fun z => z) (ne_of_none hb hx) ht, fun b hb => hb.elim, g.tabs⟩ ?_ q
  · by_cases hb : b = x
    · subst hb; rw [upd_same] at q; cases q; exact g1
    · rw [upd_ne hb] at q; exact g.sub b o q
  · by_cases hb : b = x
    · subst hb; exact .inr hx
    · rw [upd_ne hb] at q
      exact (g.new b o q).elim .inl fun z => .inr (up b z)
  · unfold Is
    exact ⟨x, dx', ws, rfl, upd_same, g2, IsL.mono T (le_upd g3) ds g4⟩
theorem makeD {c : Nat} {f : FI} {CX : CXT} {k : Nat} {g : Addr} {fd : FuncData} {ps : List Str} {dvs : List V} {ds : List Value} {dds : List D} {E : XK} (M : Mk X.K (T.ca c) g) (G : FnG X.prog X.w X.K X.mg X.base CX k g fd ps (liftIn T c f)) (hr : RoomG (k + 1) X.A)
    (hb : Binds X.K fd ps ds) (hd : Vals dvs ds) (hx : Passes CX X E) (hdd : ∀ F, IsL T F dvs dds) : CallR X (.ref (T.ca c)) (liftC T (dflt (mkF c f) dds)) := by
  intro pins s σ H vs us Q I rv ⟨F, svs, Qd, hFH, h2, h3, ⟨hc, h4⟩, h5⟩
  refine makeG M G hr hb hd hx pins s σ H vs us Q I rv ?_
  intro x dx hx hdx hne
  rw [cntBag_app] at hc
  have nb : ∀ b, ¬ bagsOf vs svs b := fun b ⟨i, z, _⟩ => cntBag_no hc z
  exact make_use hFH (RelA.app h2 (hdd F)) (by rw [cntBag_app]; exact hc) h4 (fun v H' F' d gr i' q => h5 v H' F' d ⟨gr.le, gr.sub, gr.new, fun b o z _ ht => gr.keep b o z (fun y => y) ht, fun b y => (nb b y).elim, gr.tabs⟩ i' q) hx hdx hne
end
end DD
namespace DD
open PySem L2
/-! ### lists of the frame's own -/
def ownAt (δ : DEnv) (i : Nat) (k : List D → Prop) : Prop := match δ[i]? with
  | some (some (.own ds)) => k ds
  | _ => False
section
variable {X : Cx} {T : Tb} {pos p : Pos} {tg a b c o : Expr} {es ifs : List Expr} {st : Stmt} {rest : List Stmt} {wa wb wc we : W} {wt : WT} {wi : WI} {ws : WA} {e : En} {F F' H H' : Hp} {δ : DEnv} {σ : L2.St} {q : Pat} {qs : List Pat} {E : XK}
theorem ownAt.ex {i : Nat} {k : List D → Prop} (h : ownAt δ i k) : ∃ ds, δ[i]? = some (some (.own ds)) ∧ k ds := by
  unfold ownAt at h
  split at h
  · rename_i ds hi; exact ⟨ds, hi, h⟩
  · exact h.elim
theorem Sim.own (S : Sim T e F δ σ H) {i : Nat} {ds : List D} (hi : δ[i]? = some (some (.own ds))) : ∃ p vs, σ[i]? = some (some (.ref p)) ∧ H p = some (.lst vs) ∧ F p = none ∧ IsL T F vs ds ∧ e.H0 p = none := by
  obtain ⟨v, e1, ⟨p, vs, rfl, h1, h2, h3⟩, m⟩ := S.slot i _ hi
  exact ⟨p, vs, e1, h1, h2, h3, m p rfl⟩
/-- the frame's own list is written -/
theorem Sim.wrOwn (S : Sim T e F δ σ H) {i : Nat} {ds ds' : List D} {p : Addr} {vs : List V} (hi : δ[i]? = some (some (.own ds))) (hs : σ[i]? = some (some (.ref p))) (is : IsL T F vs ds') : Sim T e F (δ.set i (some (.own ds'))) σ (upd H p (.lst vs)) := by
  obtain ⟨p', us, e1, h1, h2, h3, h4⟩ := S.own hi
  rw [hs] at e1; cases e1
  refine upd_slot S hi hs rfl rfl ⟨p, vs, rfl, upd_same, h2, is⟩ (fun a ha => by cases ha; exact h4) (fun b hb z => ?_) (.inr (.inr h4))
  subst z
  obtain ⟨u, hu⟩ := S.bgt b hb
  rw [h4] at hu; cases hu
def wApp (i : Nat) (w : W) : WS := fun D δ => ownAt δ i fun ds => w δ fun x => wd x fun d => ds.length < sizeLine ∧ D.nx (δ.set i (some (.own (ds ++ [d]))))
theorem s_app (i : Nat) {x : Str} {p1 p2 p3 : Pos} (ha : PE X a (lift T wa)) (hN : X.N[i]? = some x := by rfl) (hv : Vis X.env.scope x := by first | exact Or.inl rfl | exact Or.inr (Or.inl rfl) | exact Or.inr (Or.inr rfl)) (hd : (x == ("__debug__" : Str)) = false := by decide)
    (hcd : (x == ("__classdict__" : Str)) = false := by decide) (hs : starEach (a :: []) X.env = (false, eval a X.env) :: starEach [] X.env := by rfl)
    (hbase : attributeBase (.Name x p1) "append" X.env (eval (.Name x p1) X.env) = eval (.Name x p1) X.env := by rfl)
    (hfew : ((backTo p3 (starEach (a :: []) X.env)).all (fun x => !x.1) && (backToKw p3 (keywordEach [] X.env)).all (fun x => x.1.isSome)
      && decide ((a :: []).length + ([] : List Keyword).length + (if ([] : List Keyword).isEmpty then 0 else 1) < 30)) = true := by rfl) (hline : (p2.endLine == p3.line) = true := by rfl)
    (hplain : (backTo p3 (starEach [] X.env)).any (·.1) = false := by rfl) (hsw : swapsWith (.Call (.Attribute (.Name x p1) "append" p2) [a] [] p3) none pos.line X.env = pure false := by rfl) :
    PS X (.Expr (.Call (.Attribute (.Name x p1) "append" p2) [a] [] p3) pos) (liftS T (wApp i wa)) := by
  refine PS.weak (ps_expr (pe_bm PySem.F.plainAttrs_list PySem.F.slot_list_append PySem.F.type_list_append mt_append (pe_var hN hv hd hcd) (pa_cons ha pa_nil hs) hbase hfew hline hs hplain) hsw) fun D σ H ⟨e, F, δ, Dd, S, w, k1, k2, k3, k4⟩ => ?_
  obtain ⟨ds, hi, w⟩ := w.ex
  obtain ⟨p, vs, hp, hvs, _⟩ := S.own hi
  refine ⟨_, hp, .inl ⟨rfl, vs, SqL.of hvs⟩, ?_⟩
  refine use (te := lift T wa) S w fun v H1 F1 d S1 l1 i1 ⟨hz, w1⟩ => ?_
  obtain ⟨p', us, e1, h1, h2, h3, h4⟩ := S1.own hi
  rw [hp] at e1; cases e1
  refine ⟨p, us, v, rfl, rfl, h1, by rw [h3.len]; exact hz, ?_⟩
  exact k1 σ _ F1 _ (S1.wrOwn hi hp (IsL.app T h3 (IsL.one T i1))) l1 w1
def wExt (i : Nat) (w : W) : WS := fun D δ => ownAt δ i fun ds => w δ fun x => wd x fun d => match d with
  | .lst es => szOk (ds.length + es.length) ∧ D.nx (δ.set i (some (.own (ds ++ es))))
  | _ => False
theorem s_ext (i : Nat) {x : Str} {p1 p2 p3 : Pos} (ha : PE X a (lift T wa)) (hN : X.N[i]? = some x := by rfl) (hv : Vis X.env.scope x := by first | exact Or.inl rfl | exact Or.inr (Or.inl rfl) | exact Or.inr (Or.inr rfl)) (hd : (x == ("__debug__" : Str)) = false := by decide)
    (hcd : (x == ("__classdict__" : Str)) = false := by decide) (hs : starEach (a :: []) X.env = (false, eval a X.env) :: starEach [] X.env := by rfl)
    (hbase : attributeBase (.Name x p1) "extend" X.env (eval (.Name x p1) X.env) = eval (.Name x p1) X.env := by rfl)
    (hfew : ((backTo p3 (starEach (a :: []) X.env)).all (fun x => !x.1) && (backToKw p3 (keywordEach [] X.env)).all (fun x => x.1.isSome)
      && decide ((a :: []).length + ([] : List Keyword).length + (if ([] : List Keyword).isEmpty then 0 else 1) < 30)) = true := by rfl) (hline : (p2.endLine == p3.line) = true := by rfl)
    (hplain : (backTo p3 (starEach [] X.env)).any (·.1) = false := by rfl) (hsw : swapsWith (.Call (.Attribute (.Name x p1) "extend" p2) [a] [] p3) none pos.line X.env = pure false := by rfl) :
    PS X (.Expr (.Call (.Attribute (.Name x p1) "extend" p2) [a] [] p3) pos) (liftS T (wExt i wa)) := by
  refine PS.weak (ps_expr (pe_bm PySem.F.plainAttrs_list PySem.F.slot_list_extend PySem.F.type_list_extend mt_extend (pe_var hN hv hd hcd) (pa_cons ha pa_nil hs) hbase hfew hline hs hplain) hsw) fun D σ H ⟨e, F, δ, Dd, S, w, k1, k2, k3, k4⟩ => ?_
  obtain ⟨ds, hi, w⟩ := w.ex
  obtain ⟨p, vs, hp, hvs, _⟩ := S.own hi
  refine ⟨_, hp, .inl ⟨rfl, vs, SqL.of hvs⟩, ?_⟩
  refine use (te := lift T wa) S w fun v H1 F1 d S1 l1 i1 w1 => ?_
  split at w1
  · rename_i es
    obtain ⟨hz, w1⟩ := w1
    obtain ⟨p', us, e1, h1, h2, h3, h4⟩ := S1.own hi
    rw [hp] at e1; cases e1
    obtain ⟨b, zs, rfl, g1, g2⟩ := i1.lstE
    refine ⟨p, b, us, zs, rfl, rfl, h1, S1.sub _ _ g1, by rw [h3.len, g2.len]; exact hz, ?_⟩
    exact k1 σ _ F1 _ (S1.wrOwn hi hp (IsL.app T h3 g2)) l1 w1
  · exact w1.elim
def wSetI (i : Nat) (wi w : W) : WS := fun D δ => ownAt δ i fun ds => w δ fun x => wd x fun d => wi δ fun y => wd y fun k => match k with
  | .int k => match ixN ds.length k with
    | some j => D.nx (δ.set i (some (.own (ds.set j d))))
    | none => False
  | _ => False
theorem s_setI (i : Nat) {x : Str} {p1 p2 : Pos} (ha : PE X a (lift T wa)) (hb : PE X b (lift T wb)) (hN : X.N[i]? = some x := by rfl) (hv : Vis X.env.scope x := by first | exact Or.inl rfl | exact Or.inr (Or.inl rfl) | exact Or.inr (Or.inr rfl)) (hd : (x == ("__debug__" : Str)) = false := by decide)
    (hcd : (x == ("__classdict__" : Str)) = false := by decide)
    (hs : swapsWithSole [.Subscript (.Name x p1) b p2] a pos.line X.env = pure false := by rfl) (hw : swappedStores [.Subscript (.Name x p1) b p2] a X.env = pure none := by rfl)
    (h1 : (assignEach [.Subscript (.Name x p1) b p2] X.env).map (·.2) = [assign (.Subscript (.Name x p1) b p2) X.env] := by rfl)
    (hasg : ∀ v, assign (.Subscript (.Name x p1) b p2) X.env v = (do
      let ov ← holding [v] (eval (.Name x p1) X.env)
      let iv ← holding [v, ov] (eval b X.env)
      standAt p2
      holding [v, ov, iv] (setItem ov iv v)
      release [v, ov, iv] []) := by intro _; rfl) :
    PS X (.Assign [.Subscript (.Name x p1) b p2] a pos) (liftS T (wSetI i wb wa)) := by
  refine PS.weak (ps_asg ha (pg_sub (pe_var hN hv hd hcd) hb set_list hasg) hs hw h1) fun D σ H ⟨e, F, δ, Dd, S, w, k1, k2, k3, k4⟩ => ?_
  obtain ⟨ds, hi, w⟩ := w.ex
  obtain ⟨p, vs, hp, hvs, _⟩ := S.own hi
  refine use (te := lift T wa) S w fun v H1 F1 d S1 l1 i1 w1 => ?_
  refine ⟨_, hp, ?_⟩
  refine use (te := lift T wb) S1 w1 fun iv H2 F2 dk S2 l2 i2 w2 => ?_
  split at w2
  · rename_i k
    cases i2.intE
    split at w2
    · rename_i j hj
      obtain ⟨p', us, e1, g1, g2, g3, g4⟩ := S2.own hi
      rw [hp] at e1; cases e1
      refine ⟨p, us, k, j, rfl, rfl, g1, by rw [g3.len]; exact hj, ?_⟩
      exact k1 σ _ F2 _ (S2.wrOwn hi hp (IsL.set T j g3 (Is.mono T l2 d i1))) (l1.trans l2) w2
    · exact w2.elim
  · exact w2.elim
/-! ### x op= e -/
def wAug (i : Nat) (f : P2f) (w : W) : WS := fun D δ => match δ[i]? with
  | some (some (.val dx)) => w δ fun y => wd y fun dy => f dx dy fun z => sto z fun z => D.nx (δ.set i (some z))
  | _ => False
theorem s_aug (i : Nat) {x : Str} {op : Operator} {r : R2} {f : P2f} {pos' : Pos} (hN : X.N.Nodup) (ho : OpR X (inplaceOp op) r) (hp : P2 T r f) (ha : PE X a (lift T wa)) (hi : X.N[i]? = some x := by rfl) (hx : Loc X.env.scope x := by first | exact Or.inl rfl | exact Or.inr rfl) (hf : X.fn x = true ∨ X.env.scope.names.lookup x = some .local := by first | exact .inl rfl | exact .inr rfl) :
    PS X (.AugAssign (.Name x pos') op a pos) (liftS T (wAug i f wa)) := by
  refine PS.weak (ps_aug (ti := r) hN hi hx ha ho hf) fun D σ H ⟨e, F, δ, Dd, S, w, k1, k2, k3, k4⟩ => ?_
  unfold wAug at w
  split at w
  · rename_i dx hi
    obtain ⟨v, h1, h2, _⟩ := S.slot i _ hi
    refine ⟨v, h1, ?_⟩
    refine use (te := lift T wa) S w fun y H1 F1 dy S1 l1 i1 w1 => ?_
    refine hp e F1 H1 δ σ v y dx dy _ _ S1 (Is.mono T l1 dx h2) i1 w1 fun z H2 F2 sv S2 l2 r2 q2 => ?_
    cases sv with
    | val d => exact k1 _ H2 F2 _ (S2.set r2 (.inl rfl)) (l1.trans l2) q2
    | own ds => exact k1 _ H2 F2 _ (S2.set r2 (.inr ⟨ds, rfl⟩)) (l1.trans l2) q2
    | bag => exact q2.elim
    | slf c ds => exact q2.elim
    | pr _ _ => exact q2.elim
    | exc _ _ => exact q2.elim
  · exact w.elim
/-! ### a, b = x, y -/
/-- an entry at which all that stands apart from the slots is kept -/
noncomputable def enO (T : Tb) (F H : Hp) (δ : DEnv) (σ : L2.St) : En := ⟨F, fun b => @ite _ (∃ (i : Nat) (ds : List D), δ[i]? = some (some (.own ds)) ∧ σ[i]? = some (some (.ref b))) (Classical.propDecidable _) none (H b),
  fun b => ∃ i : Nat, δ[i]? = some (some .bag) ∧ σ[i]? = some (some (.ref b)), fun b => (∃ (i : Nat) (c : Nat) (ds : List D), δ[i]? = some (some (.slf c ds)) ∧ σ[i]? = some (some (.ref b))) ∨ T.tb b, []⟩
theorem enO_own {b : Addr} {i : Nat} {ds : List D} (h1 : δ[i]? = some (some (.own ds))) (h2 : σ[i]? = some (some (.ref b))) : (enO T F H δ σ).H0 b = none := if_pos ⟨i, ds, h1, h2⟩
theorem enO_not {b : Addr} (h : ∀ (i : Nat) (ds : List D), δ[i]? = some (some (.own ds)) → σ[i]? ≠ some (some (.ref b))) : (enO T F H δ σ).H0 b = H b := if_neg fun ⟨i, ds, z1, z2⟩ => h i ds z1 z2
theorem enO_le {b : Addr} {o : HO} (h : (enO T F H δ σ).H0 b = some o) : H b = some o ∧ ∀ (i : Nat) (ds : List D), δ[i]? = some (some (.own ds)) → σ[i]? ≠ some (some (.ref b)) := by
  have hn : ∀ (i : Nat) (ds : List D), δ[i]? = some (some (.own ds)) → σ[i]? ≠ some (some (.ref b)) := fun i ds h1 h2 => by
    rw [enO_own h1 h2] at h; cases h
  exact ⟨(enO_not (T := T) (F := F) hn).symm.trans h, hn⟩
theorem enO_tab (S : Sim T e F δ σ H) {b : Addr} (h : T.tb b) : ∃ o, (enO T F H δ σ).H0 b = some o := by
  obtain ⟨o, ho⟩ := tabAt S.tabs.1 h
  refine ⟨o, (enO_not fun i ds z1 z2 => ?_).trans ho⟩
  obtain ⟨v, e1, ⟨a, vs, e2, e3, _⟩, _⟩ := S.slot i _ z1
  rw [z2] at e1; cases e1; cases e2
  exact noTab S.tabs.1 e3 (fun _ z => by cases z) h
theorem Sim.enO (S : Sim T e F δ σ H) : Sim T (enO T F H δ σ) F δ σ H := by
  refine ⟨S.len, S.sub, Le.refl F, fun b o h => .inl h, fun b o h _ _ => (enO_le h).1, fun b ⟨i, h1, h2⟩ => ?_, fun b hb => ?_, fun b ⟨i, h1, h2⟩ => ?_, ⟨S.tabs.1, fun b h => ⟨.inr h, S.fnTab h, enO_tab S h⟩⟩, fun i sv h => ?_, S.sep⟩
  · obtain ⟨v, e1, ⟨a, e2, e3, _⟩, _⟩ := S.slot i _ h1
    rw [h2] at e1; cases e1; cases e2; exact e3
  · rcases hb with ⟨i, c, ds, h1, h2⟩ | h1
    · obtain ⟨v, e1, ⟨a, dx, vs, e2, e3, _⟩, _⟩ := S.slot i _ h1
      rw [h2] at e1; cases e1; cases e2; exact ⟨_, e3⟩
    · exact S.self b (S.tabs.2 b h1).1
  · obtain ⟨v, e1, ⟨a, e2, ⟨f, s, c, e3, _⟩, _⟩, _⟩ := S.slot i _ h1
    rw [h2] at e1; cases e1; cases e2
    refine ⟨_, (enO_not fun j ds z1 z2 => ?_).trans e3⟩
    have := S.sep i j _ _ _ h1 z1 rfl rfl h2 z2
    subst this
    rw [h1] at z1; cases z1
  · obtain ⟨v, e1, e2, _⟩ := S.slot i sv h
    refine ⟨v, e1, e2, ?_⟩
    cases sv with
    | val d => trivial
    | own ds => rintro a rfl; exact enO_own h e1
    | bag => rintro a rfl; exact .inl ⟨i, h, e1⟩
    | slf c ds => rintro a rfl; exact .inl ⟨i, c, ds, h, e1⟩
    | pr _ _ => exact e2.elim
    | exc _ _ => trivial
theorem Sim.noSlot (S : Sim T e F δ σ H) {b : Addr} {o : HO} (q : H b = some o) (hx : (∃ ps, o = .tbl ps) ∨ ∃ φ, o = .ext φ) (i : Nat) (sv : SV) (h1 : δ[i]? = some (some sv)) (h2 : σ[i]? = some (some (.ref b))) : sv.isVal = true := by
  cases hv : sv.isVal with
  | true => rfl
  | false =>
    obtain ⟨v, e1, e2, _⟩ := S.slot i sv h1
    rw [h2] at e1; cases e1
    have := e2.soft hv q
    rcases hx with ⟨ps, rfl⟩ | ⟨φ, rfl⟩
    · exact absurd rfl (this.1 ps)
    · exact absurd rfl (this.2 φ)
theorem Sim.unO (S : Sim T e F δ σ H) (S' : Sim T (DD.enO T F H δ σ) F' δ σ H') : Sim T e F' δ σ H' := by
  refine ⟨S.len, S'.sub, S.base.trans S'.base, fun b o h => ?_, fun b o h n1 n2 => ?_, fun b hb => ?_, fun b hb => ?_, S.bgt, ⟨S'.tabs.1, S.tabs.2⟩, fun i sv h => ?_, S.sep⟩
  · rcases S'.new b o h with z | z
    · exact S.new b o z
    · by_cases hn : ∀ (i : Nat) (ds : List D), δ[i]? = some (some (.own ds)) → σ[i]? ≠ some (some (.ref b))
      · rw [enO_not hn] at z
        refine .inr ?_
        cases u : e.H0 b with
        | none => rfl
        | some o' =>
          by_cases h1 : e.Bg b
          · obtain ⟨_, _, _, h2, _⟩ := S.bags b h1; rw [z] at h2; cases h2
          · by_cases h2 : e.Sf b
            · obtain ⟨o2, h3⟩ := S.self b h2; rw [z] at h3; cases h3
            · rw [S.keep b o' u h1 h2] at z; cases z
      · have hn' : ∃ (i : Nat) (ds : List D), δ[i]? = some (some (.own ds)) ∧ σ[i]? = some (some (.ref b)) := Classical.byContradiction fun hc => hn fun i ds h1 h2 => hc ⟨i, ds, h1, h2⟩
        obtain ⟨i, ds, h1, h2⟩ := hn'
        obtain ⟨p, vs, e1, _, e3, _⟩ := S'.own h1
        rw [h2] at e1; cases e1
        rw [h] at e3; cases e3
  · have hH := S.keep b o h n1 n2
    have no : ∀ (i : Nat) (sv : SV), δ[i]? = some (some sv) → σ[i]? = some (some (.ref b)) → sv.isVal = true := fun i sv h1 h2 => by
      obtain ⟨v, e1, _, m⟩ := S.slot i sv h1
      rw [h2] at e1; cases e1
      cases sv with
      | pr _ _ => exact m.elim
      | exc _ _ => rfl
      | val d => rfl
      | own ds => rw [m b rfl] at h; cases h
      | bag => rcases m b rfl with z | z
               · exact absurd z n1
               · rw [z] at h; cases h
      | slf c ds => exact absurd (m b rfl) n2
    refine S'.keep b o ?_ (fun ⟨i, h1, h2⟩ => nomatch no i _ h1 h2) (fun z => z.elim (fun ⟨i, c, ds, h1, h2⟩ => nomatch no i _ h1 h2) fun t => n2 (S.tabs.2 b t).1)
    rw [enO_not fun i ds h1 h2 => nomatch no i _ h1 h2]
    exact hH
  · by_cases h1 : ∃ i : Nat, δ[i]? = some (some .bag) ∧ σ[i]? = some (some (.ref b))
    · exact S'.bags b h1
    · obtain ⟨f, s, c, g1, g2⟩ := S.bags b hb
      obtain ⟨u, hu⟩ := S.bgt b hb
      refine ⟨f, s, c, S'.keep b _ ?_ h1 ?_, g2⟩
      · rw [enO_not fun i ds z1 z2 => ?_]
        · exact g1
        · obtain ⟨p, vs, e1, _, _, _, e5⟩ := S.own z1
          rw [z2] at e1; cases e1
          rw [hu] at e5; cases e5
      · rintro (⟨i, c, ds, z1, z2⟩ | t)
        · obtain ⟨v, e1, ⟨a, dx, vs, e2, e3, _⟩, _⟩ := S.slot i _ z1
          rw [z2] at e1; cases e1; cases e2
          rw [g1] at e3; cases e3
        · exact noTab S.tabs.1 g1 (fun _ z => by cases z) t
  · obtain ⟨u, hu⟩ := S.self b hb
    by_cases h1 : ∃ (i : Nat) (sv : SV), δ[i]? = some (some sv) ∧ σ[i]? = some (some (.ref b)) ∧ sv.isVal = false
    · obtain ⟨i, sv, z1, z2, z3⟩ := h1
      obtain ⟨v, e1, e2, _⟩ := S'.slot i sv z1
      rw [z2] at e1; cases e1
      obtain ⟨a, o', e3, e4, _⟩ := e2.there z3
      cases e3; exact ⟨o', e4⟩
    · by_cases ht : T.tb b
      · obtain ⟨p, hp, rfl⟩ := ht
        obtain ⟨ps, g1, _⟩ := S'.tabs.1 p hp
        exact ⟨_, g1⟩
      · exact ⟨u, S'.keep b u (by rw [enO_not fun i ds z1 z2 => h1 ⟨i, _, z1, z2, rfl⟩]; exact hu) (fun ⟨i, z1, z2⟩ => h1 ⟨i, _, z1, z2, rfl⟩) fun z => z.elim (fun ⟨i, c, ds, z1, z2⟩ => h1 ⟨i, _, z1, z2, rfl⟩) ht⟩
  · obtain ⟨v, e1, _, m⟩ := S.slot i sv h
    obtain ⟨v', e1', e2', _⟩ := S'.slot i sv h
    rw [e1] at e1'; cases e1'
    exact ⟨v, e1, e2', m⟩
/-- what stood apart stands still -/
theorem Res.stay (S : Sim T e F δ σ H) (S' : Sim T (DD.enO T F H δ σ) F' δ σ H') {v : V} {sv : SV} (r : Res T e F H δ σ v sv) (hw : sv.isVal = true ∨ ∃ ds, sv = .own ds) : Res T e F' H' δ σ v sv := by
  cases sv with
  | val d => exact Is.mono T S'.base d r
  | own ds =>
    obtain ⟨⟨p, vs, rfl, h1, h2, h3⟩, m, n⟩ := r
    have hp : (DD.enO T F H δ σ).H0 p = some (.lst vs) := (enO_not fun i ds z1 z2 => n i _ z1 rfl z2).trans h1
    refine ⟨⟨p, vs, rfl, S'.keep p _ hp (fun ⟨i, z1, z2⟩ => n i _ z1 rfl z2) (fun z => z.elim (fun ⟨i, c, ds, z1, z2⟩ => n i _ z1 rfl z2) (noTab S.tabs.1 h1 fun _ z => by cases z)), ?_, IsL.mono T S'.base ds h3⟩, m, n⟩
    cases u : F' p with
    | none => rfl
    | some o =>
      rcases S'.new p o u with z | z
      · have z' : F p = some o := z
        rw [h2] at z'; cases z'
      · rw [hp] at z; cases z
  | bag => exact r
  | slf c ds => exact r
  | pr _ _ => rcases hw with z | ⟨_, z⟩ <;> cases z
  | exc _ _ => exact r.elim
/-- .. and what came behind is another thing -/
theorem Res.apart (S : Sim T e F δ σ H) (S' : Sim T (DD.enO T F H δ σ) F' δ σ H') {v u : V} {sv su : SV} (r : Res T e F H δ σ v sv) (r' : Res T (DD.enO T F H δ σ) F' H' δ σ u su) (hv : sv.isVal = false) (hu : su.isVal = false) (hs : ∃ ds, su = .own ds) (hs' : ∃ ds, sv = .own ds) : v ≠ u ∧ Res T e F' H' δ σ u su := by
  obtain ⟨ds, rfl⟩ := hs
  obtain ⟨ds', rfl⟩ := hs'
  obtain ⟨⟨p, vs, rfl, h1, h2, h3⟩, m, n⟩ := r
  obtain ⟨⟨q, us, rfl, g1, g2, g3⟩, m', n'⟩ := r'
  have hq : (DD.enO T F H δ σ).H0 q = none := m' q rfl
  have hq' : H q = none := by
    rw [← hq]; exact (enO_not fun i ds z1 z2 => n' i _ z1 rfl z2).symm
  have q0 : e.H0 q = none := by
    cases u : e.H0 q with
    | none => rfl
    | some o' =>
      by_cases h1 : e.Bg q
      · obtain ⟨_, _, _, h2, _⟩ := S.bags q h1; rw [hq'] at h2; cases h2
      · by_cases h2 : e.Sf q
        · obtain ⟨o2, h3⟩ := S.self q h2; rw [hq'] at h3; cases h3
        · rw [S.keep q o' u h1 h2] at hq'; cases hq'
  refine ⟨fun z => ?_, ⟨q, us, rfl, g1, g2, g3⟩, fun a ha => by cases ha; exact q0, n'⟩
  cases z
  rw [h1] at hq'; cases hq'
theorem Res.un (S : Sim T e F δ σ H) {u : V} {su : SV} (r' : Res T (DD.enO T F H δ σ) F' H' δ σ u su) (hw : su.isVal = true ∨ ∃ ds, su = .own ds) : Res T e F' H' δ σ u su := by
  cases su with
  | val d => exact r'
  | bag => exact r'
  | slf c ds => exact r'
  | pr _ _ => rcases hw with z | ⟨_, z⟩ <;> cases z
  | exc _ _ => exact r'.elim
  | own ds =>
    obtain ⟨⟨q, us, rfl, g1, g2, g3⟩, m', n'⟩ := r'
    have hq : (DD.enO T F H δ σ).H0 q = none := m' q rfl
    have hq' : H q = none := by
      rw [← hq]; exact (enO_not fun i ds z1 z2 => n' i _ z1 rfl z2).symm
    refine ⟨⟨q, us, rfl, g1, g2, g3⟩, fun a ha => ?_, n'⟩
    cases ha
    cases u : e.H0 q with
    | none => rfl
    | some o' =>
      by_cases h1 : e.Bg q
      · obtain ⟨_, _, _, h2, _⟩ := S.bags q h1; rw [hq'] at h2; cases h2
      · by_cases h2 : e.Sf q
        · obtain ⟨o2, h3⟩ := S.self q h2; rw [hq'] at h3; cases h3
        · rw [S.keep q o' u h1 h2] at hq'; cases hq'
end
end DD
namespace DD
open PySem L2
section
variable {X : Cx} {T : Tb} {pos p : Pos} {tg a b c o : Expr} {es ifs : List Expr} {st : Stmt} {sts : List Stmt} {wa wb wc we : W} {wt : WT} {wi : WI} {ws : WA} {wx : WS} {e : En} {F F' H H' : Hp} {δ : DEnv} {σ : L2.St} {q : Pat} {qs : List Pat} {E : XK}
theorem sto.ex {x : SV} {k : SV → Prop} (h : sto x k) : k x ∧ (x.isVal = true ∨ ∃ ds, x = .own ds) := by
  cases x with
  | val d => exact ⟨h, .inl rfl⟩
  | own ds => exact ⟨h, .inr ⟨ds, rfl⟩⟩
  | bag => exact h.elim
  | slf c ds => exact h.elim
  | pr _ _ => exact h.elim
  | exc _ _ => exact h.elim
/-- a result remains one when a slot is stored with another thing -/
theorem Res.setOther {v u : V} {su sv : SV} {i : Nat} (r : Res T e F H δ σ u su) (h : su.isVal = true ∨ ∃ ds, su = .own ds) (hne : su.isVal = false → sv.isVal = false → v ≠ u) (hl : δ.length = σ.length) : Res T e F H (δ.set i (some sv)) (σ.set i (some v)) u su := by
  cases su with
  | val d => exact r
  | bag => rcases h with z | ⟨_, z⟩ <;> cases z
  | slf _ _ => rcases h with z | ⟨_, z⟩ <;> cases z
  | pr _ _ => rcases h with z | ⟨_, z⟩ <;> cases z
  | exc _ _ => exact r.elim
  | own ds =>
    refine ⟨r.1, r.2.1, fun j sj hj hv => ?_⟩
    by_cases hi : i = j
    · subst hi
      by_cases hl2 : i < δ.length
      · rw [List.getElem?_set_self hl2] at hj
        cases hj
        rw [List.getElem?_set_self (by omega)]
        intro z
        cases z
        exact hne rfl hv rfl
      · rw [List.getElem?_eq_none (by simpa using hl2)] at hj; cases hj
    · rw [List.getElem?_set_ne hi] at hj ⊢
      exact r.2.2 j sj hj hv
def wPar (i j : Nat) (wa wb : W) : WS := fun D δ => wa δ fun x => sto x fun x => wb δ fun y => sto y fun y => D.nx ((δ.set i (some x)).set j (some y))
theorem two_res (S : Sim T e F δ σ H) {v : V} {sv : SV} {wb : W} {Q : VK} {k : SV → Prop} (r : Res T e F H δ σ v sv) (hv : sv.isVal = true ∨ ∃ ds, sv = .own ds) (h : wb δ fun y => sto y k)
    (hk : ∀ u H' F' su, Sim T e F' δ σ H' → Le F F' → Res T e F' H' δ σ v sv → Res T e F' H' δ σ u su → (su.isVal = true ∨ ∃ ds, su = .own ds) → (su.isVal = false → sv.isVal = false → v ≠ u) → k su → Q u H') : lift T wb σ H Q := by
  refine ⟨_, F, δ, _, S.enO, h, fun u H' F' su S' l' r' q' => ?_⟩
  obtain ⟨q2, hs⟩ := sto.ex q'
  refine hk u H' F' su (S.unO S') l' (r.stay S S' hv) (r'.un S hs) hs (fun h1 h2 => ?_) q2
  rcases hs with z | z
  · rw [h1] at z; cases z
  · rcases hv with y | y
    · rw [h2] at y; cases y
    · exact (Res.apart S S' r r' h2 h1 z y).1
theorem s_par (i j : Nat) {x y : Str} {px py pt : Pos} {kt k2 pt2} (hc : X.calm = true) (hN : X.N.Nodup) (hij : i ≠ j) (ha : PE X a (lift T wa)) (hb : PE X b (lift T wb))
    (hw : swappedStores [.Tuple [.Name x px, .Name y py] kt pt] (.Tuple [a, b] k2 pt2) X.env = pure (some [x, y])) (hi : X.N[i]? = some x := by rfl) (hj : X.N[j]? = some y := by rfl)
    (hx : X.env.scope.names.lookup x = some .local := by rfl) (hy : X.env.scope.names.lookup y = some .local := by rfl)
    (hs : swapsWithSole [.Tuple [.Name x px, .Name y py] kt pt] (.Tuple [a, b] k2 pt2) pos.line X.env = pure false := by rfl)
    (h1 : starEach (a :: [b]) X.env = (false, eval a X.env) :: starEach [b] X.env := by rfl) (h2 : starEach (b :: []) X.env = (false, eval b X.env) :: starEach [] X.env := by rfl) :
    PS X (.Assign [.Tuple [.Name x px, .Name y py] kt pt] (.Tuple [a, b] k2 pt2) pos) (liftS T (wPar i j wa wb)) := by
  refine PS.weak (ps_par hc hN hi hj hij hx hy (pa_cons ha (pa_cons hb pa_nil h2) h1) hw hs) fun D σ H ⟨e, F, δ, Dd, S, w, k1, k2, k3, k4⟩ => ?_
  refine ⟨e, F, δ, _, S, w, fun v H1 F1 sv S1 l1 r1 q1 => ?_⟩
  obtain ⟨q1, hv⟩ := sto.ex q1
  refine two_res S1 r1 hv q1 fun u H2 F2 su S2 l2 r1' r2 hs hne q2 => ?_
  refine ⟨v, u, rfl, k1 _ H2 F2 _ ((S2.set r1' hv).set (r2.setOther hs hne S2.len) hs) (l1.trans l2) q2⟩
def wPar3 (i j l : Nat) (wa wb wc : W) : WS := fun D δ => wa δ fun x => wd x fun x => wb δ fun y => wd y fun y => wc δ fun z => wd z fun z => D.nx (((δ.set i (some (.val x))).set j (some (.val y))).set l (some (.val z)))
theorem s_par3 (i j l : Nat) {x y z : Str} {px py pz pt : Pos} {kt k2 pt2} (hc : X.calm = true) (hN : X.N.Nodup) (hij : i ≠ j) (hil : i ≠ l) (hjl : j ≠ l) (ha : PE X a (lift T wa)) (hb : PE X b (lift T wb)) (hcc : PE X c (lift T wc))
    (hw : swappedStores [.Tuple [.Name x px, .Name y py, .Name z pz] kt pt] (.Tuple [a, b, c] k2 pt2) X.env = pure (some [x, y, z])) (hi : X.N[i]? = some x := by rfl) (hj : X.N[j]? = some y := by rfl) (hl : X.N[l]? = some z := by rfl)
    (hx : X.env.scope.names.lookup x = some .local := by rfl) (hy : X.env.scope.names.lookup y = some .local := by rfl) (hz : X.env.scope.names.lookup z = some .local := by rfl)
    (hs : swapsWithSole [.Tuple [.Name x px, .Name y py, .Name z pz] kt pt] (.Tuple [a, b, c] k2 pt2) pos.line X.env = pure false := by rfl)
    (h1 : starEach (a :: [b, c]) X.env = (false, eval a X.env) :: starEach [b, c] X.env := by rfl) (h2 : starEach (b :: [c]) X.env = (false, eval b X.env) :: starEach [c] X.env := by rfl) (h3 : starEach (c :: []) X.env = (false, eval c X.env) :: starEach [] X.env := by rfl) :
    PS X (.Assign [.Tuple [.Name x px, .Name y py, .Name z pz] kt pt] (.Tuple [a, b, c] k2 pt2) pos) (liftS T (wPar3 i j l wa wb wc)) := by
  refine PS.weak (ps_par3 hc hN hi hj hl hij hil hjl hx hy hz (pa_cons ha (pa_cons hb (pa_cons hcc pa_nil h3) h2) h1) hw hs) fun D σ H ⟨e, F, δ, Dd, S, w, k1, k2, k3, k4⟩ => ?_
  refine use (te := lift T wa) S w fun v1 H1 F1 d1 S1 l1 i1 w1 => ?_
  refine use (te := lift T wb) S1 w1 fun v2 H2 F2 d2 S2 l2 i2 w2 => ?_
  refine use (te := lift T wc) S2 w2 fun v3 H3 F3 d3 S3 l3 i3 w3 => ?_
  exact ⟨v1, v2, v3, rfl, k1 _ H3 F3 _ (((S3.setD (Is.mono T (l2.trans l3) _ i1)).setD (Is.mono T l3 _ i2)).setD i3) ((l1.trans l2).trans l3) w3⟩
/-- target = e, a target of several names, or of one -/
def wAsgT (q : Pat) (w : W) : WS := fun D δ => w δ fun x => wd x fun d => q.put d δ D.nx
theorem s_asgT (hg : PG X tg (liftG T q)) (ha : PE X a (lift T wa)) (hs : swapsWithSole [tg] a pos.line X.env = pure false := by rfl) (hw : swappedStores [tg] a X.env = pure none := by rfl)
    (h1 : (assignEach [tg] X.env).map (·.2) = [assign tg X.env] := by rfl) : PS X (.Assign [tg] a pos) (liftS T (wAsgT q wa)) := by
  refine PS.weak (ps_asg ha hg hs hw h1) fun D σ H ⟨e, F, δ, Dd, S, w, k1, k2, k3, k4⟩ => ?_
  refine use (te := lift T wa) S w fun v H1 F1 d S1 l1 i1 w1 => ?_
  exact ⟨e, F1, δ, d, _, S1, i1, w1, fun σ' F' δ' S' l' _ q' => k1 σ' H1 F' δ' S' (l1.trans l') q'⟩
/-! ### freezing the frame's own lists -/
def frz1 (δ : DEnv) (i : Nat) : DEnv := match δ[i]? with
  | some (some (.own ds)) => δ.set i (some (.val (.lst ds)))
  | _ => δ
def frzD (is : List Nat) (δ : DEnv) : DEnv := is.foldl frz1 δ
theorem Sim.frz1 (S : Sim T e F δ σ H) (i : Nat) : ∃ F', Le F F' ∧ Sim T e F' (DD.frz1 δ i) σ H := by
  unfold DD.frz1
  split
  · rename_i ds hi
    obtain ⟨p, vs, h1, h2, h3, h4, h5⟩ := S.own hi
    have hil := (List.getElem?_eq_some_iff.mp hi).1
    -- first the slot is forgotten, then its list becomes known, then it is told anew
    have S1 : Sim T e F (δ.set i none) σ H := S.forget (by rw [List.length_set]; exact S.len) fun j sv h => by
      by_cases hj : i = j
      · subst hj; rw [List.getElem?_set_self hil] at h; cases h
      · rw [List.getElem?_set_ne hj] at h; exact ⟨h, rfl⟩
    have S2 : Sim T e (upd F p (.lst vs)) (δ.set i none) σ H := S1.frz h2 h5 h3 fun j sj hj hv z => by
      by_cases hij : i = j
      · subst hij; rw [List.getElem?_set_self hil] at hj; cases hj
      · rw [List.getElem?_set_ne hij] at hj
        exact hij (S.sep i j _ _ _ hi hj rfl hv h1 z)
    refine ⟨upd F p (.lst vs), le_upd h3, ?_⟩
    have S3 := S2.setD (i := i) (v := .ref p) (d := .lst ds) (by unfold Is; exact ⟨p, vs, rfl, upd_same, IsL.mono T (le_upd h3) ds h4⟩)
    have e1 : (δ.set i none).set i (some (.val (.lst ds))) = δ.set i (some (.val (.lst ds))) := by rw [List.set_set]
    have e2 : σ.set i (some (.ref p)) = σ := by
      refine List.ext_getElem? fun j => ?_
      by_cases hj : i = j
      · subst hj
        rw [List.getElem?_set_self (by have := S.len; omega), h1]
      · rw [List.getElem?_set_ne hj]
    rw [e1, e2] at S3
    exact S3
  · exact ⟨F, Le.refl F, S⟩
theorem Sim.frzD : ∀ (is : List Nat) {F : Hp} {δ : DEnv}, Sim T e F δ σ H → ∃ F', Le F F' ∧ Sim T e F' (DD.frzD is δ) σ H
  | [], F, δ, S => ⟨F, Le.refl F, S⟩
  | i :: is, F, δ, S => by
    obtain ⟨F1, l1, S1⟩ := S.frz1 i
    obtain ⟨F2, l2, S2⟩ := Sim.frzD is S1
    exact ⟨F2, l1.trans l2, S2⟩
def wFrz (is : List Nat) (w : WS) : WS := fun D δ => w D (frzD is δ)
theorem ss_frz (is : List Nat) (h : PSs X sts (liftS T wx)) : PSs X sts (liftS T (wFrz is wx)) := PSs.weak h fun D σ H ⟨e, F, δ, Dd, S, w, k1, k2, k3, k4⟩ => by
  obtain ⟨F1, l1, S1⟩ := S.frzD is
  exact ⟨e, F1, _, Dd, S1, w, fun σ'' H'' F'' δ'' S'' l'' q'' => k1 σ'' H'' F'' δ'' S'' (l1.trans l'') q'', fun v σ'' H'' F'' δ'' sv S'' l'' r'' q'' => k2 v σ'' H'' F'' δ'' sv S'' (l1.trans l'') r'' q'',
    fun σ'' H'' F'' δ'' S'' l'' q'' => k3 σ'' H'' F'' δ'' S'' (l1.trans l'') q'', fun σ'' H'' F'' δ'' S'' l'' q'' => k4 σ'' H'' F'' δ'' S'' (l1.trans l'') q''⟩
theorem s_frz (is : List Nat) (h : PS X st (liftS T wx)) : PS X st (liftS T (wFrz is wx)) := PS.weak h fun D σ H ⟨e, F, δ, Dd, S, w, k1, k2, k3, k4⟩ => by
  obtain ⟨F1, l1, S1⟩ := S.frzD is
  exact ⟨e, F1, _, Dd, S1, w, fun σ'' H'' F'' δ'' S'' l'' q'' => k1 σ'' H'' F'' δ'' S'' (l1.trans l'') q'', fun v σ'' H'' F'' δ'' sv S'' l'' r'' q'' => k2 v σ'' H'' F'' δ'' sv S'' (l1.trans l'') r'' q'',
    fun σ'' H'' F'' δ'' S'' l'' q'' => k3 σ'' H'' F'' δ'' S'' (l1.trans l'') q'', fun σ'' H'' F'' δ'' S'' l'' q'' => k4 σ'' H'' F'' δ'' S'' (l1.trans l'') q''⟩
/-! ### subscripts -/
def ixM : List D → Nat → (D → Prop) → Prop
  | [], _, _ => False
  | x :: _, 0, Q => Q x
  | _ :: l, n + 1, Q => ixM l n Q
def ixK (ds : List D) (i : Int) (Q : D → Prop) : Prop := match i with
  | .ofNat n => ixM ds n Q
  | .negSucc m => m < ds.length ∧ ixM ds (ds.length - 1 - m) Q
theorem ixM_iff {Q : D → Prop} : ∀ {ds : List D} {n : Nat}, ixM ds n Q ↔ ∃ d, ds[n]? = some d ∧ Q d
  | [], n => by simp [ixM]
  | x :: l, 0 => by simp [ixM]
  | x :: l, n + 1 => by
    show ixM l n Q ↔ _
    rw [ixM_iff]
    simp
theorem ixK_iff {Q : D → Prop} {ds : List D} {i : Int} : ixK ds i Q ↔ ∃ d, atI ds i = some d ∧ Q d := by
  unfold atI ixN
  cases i with
  | ofNat n =>
    show ixM ds n Q ↔ _
    rw [ixM_iff]
    have h0 : (0 : Int) ≤ Int.ofNat n := Int.natCast_nonneg n
    rw [if_pos h0]
    by_cases h : n < ds.length
    · rw [if_pos (show Int.ofNat n < (ds.length : Int) from Int.ofNat_lt.mpr h)]
      show _ ↔ ∃ d, ds[n]? = some d ∧ Q d
      exact Iff.rfl
    · rw [if_neg (show ¬ Int.ofNat n < (ds.length : Int) from fun z => h (Int.ofNat_lt.mp z))]
      have : ds[n]? = none := List.getElem?_eq_none (by omega)
      rw [this]
      simp
  | negSucc m =>
    show (m < ds.length ∧ ixM ds (ds.length - 1 - m) Q) ↔ _
    rw [ixM_iff]
    have h0 : ¬ (0 : Int) ≤ Int.negSucc m := by omega
    rw [if_neg h0]
    by_cases h : m < ds.length
    · rw [if_pos (show -(ds.length : Int) ≤ Int.negSucc m by omega)]
      have e : (Int.negSucc m + (ds.length : Int)).toNat = ds.length - 1 - m := by omega
      rw [e]
      simp [h]
    · rw [if_neg (show ¬ -(ds.length : Int) ≤ Int.negSucc m by omega)]
      simp [h]
def ixD : P2f := fun x y Q => match x, y with
  | .lst ds, .int i => ixK ds i fun d => Q (.val d)
  | .tup ds, .int i => ixK ds i fun d => Q (.val d)
  | .str s, .int i => szOk s.length ∧ (match atI s.cps.toList i with | some c => Q (.val (.str ⟨#[c]⟩)) | none => False)
  | _, _ => False
theorem atI_is {vs : List V} {ds : List D} {i : Int} {d : D} (h : IsL T F vs ds) (ha : atI ds i = some d) : ∃ v, atI vs i = some v ∧ Is T F v d := by
  unfold atI at ha ⊢
  rw [h.len]
  cases q : ixN ds.length i with
  | none => rw [q] at ha; cases ha
  | some j =>
    rw [q] at ha
    exact h.get T ha
theorem p_ix {K : PySem.W.Frag} (hK : T.K = K) : P2 T (rIx K) ixD := by
  intro e F H δ σ x y dx dy Qd Q S ix iy h k
  unfold ixD at h
  split at h
  · cases iy.intE
    obtain ⟨p, vs, rfl, h1, i1⟩ := ix.lstE
    obtain ⟨d, hd, h⟩ := ixK_iff.mp h
    obtain ⟨v, hv, iv⟩ := atI_is i1 hd
    exact .inl ⟨p, vs, _, v, rfl, rfl, SqL.of (S.sub _ _ h1), hv, kv S k iv h⟩
  · cases iy.intE
    obtain ⟨p, vs, rfl, h1, i1⟩ := ix.tupE
    obtain ⟨d, hd, h⟩ := ixK_iff.mp h
    obtain ⟨v, hv, iv⟩ := atI_is i1 hd
    rw [hK] at h1
    exact .inr (.inl ⟨p, vs, _, v, rfl, rfl, sqT_mono S.sub h1, hv, kv S k iv h⟩)
  · cases iy.intE; cases ix.strE
    obtain ⟨hz, h⟩ := h
    split at h
    · rename_i c hc
      exact .inr (.inr ⟨_, _, c, rfl, rfl, hz, hc, kstr S k h⟩)
    · exact h.elim
  · exact h.elim
theorem d_ix (ha : PE X a (lift T wa)) (hb : PE X b (lift T wb)) (hs : PlainIx b := by intro _ _; rfl) (hK : T.K = X.K := by rfl) : PE X (.Subscript a b pos) (lift T (wOp ixD wa wb)) :=
  PE.weak (pe_ix ix_seq ha hb hs) fun σ H Q h => lift_op (p_ix hK) h
/-- x[e], x a name, the frame's own list too -/
def wIxN (i : Nat) (wb : W) : W := fun δ Q => match δ[i]? with
  | some (some (.val d)) => wb δ fun y => wd y fun dy => ixD d dy Q
  | some (some (.own ds)) => wb δ fun y => wd y fun dy => match dy with
    | .int k => ixK ds k fun d => Q (.val d)
    | _ => False
  | _ => False
theorem d_ixN (i : Nat) {x : Str} {p1 : Pos} (hb : PE X b (lift T wb)) (hN : X.N[i]? = some x := by rfl) (hv : Vis X.env.scope x := by first | exact Or.inl rfl | exact Or.inr (Or.inl rfl) | exact Or.inr (Or.inr rfl)) (hd : (x == ("__debug__" : Str)) = false := by decide)
    (hcd : (x == ("__classdict__" : Str)) = false := by decide) (hs : PlainIx b := by intro _ _; rfl) (hK : T.K = X.K := by rfl) : PE X (.Subscript (.Name x p1) b pos) (lift T (wIxN i wb)) := by
  refine PE.weak (pe_ix ix_seq (pe_var hN hv hd hcd) hb hs) fun σ H Q ⟨e, F, δ, Qd, S, w, k⟩ => ?_
  unfold wIxN at w
  split at w
  · rename_i d hi
    obtain ⟨v, h1, h2, _⟩ := S.slot i _ hi
    refine ⟨v, h1, use (te := lift T wb) S w fun y H1 F1 dy S1 l1 i1 w1 => ?_⟩
    exact p_ix hK e F1 H1 δ σ v y d dy _ _ S1 (Is.mono T l1 d h2) i1 w1 fun z H2 F2 sv S2 l2 r2 q2 => k z H2 F2 sv S2 (l1.trans l2) r2 q2
  · rename_i ds hi
    obtain ⟨p, vs, h1, _⟩ := S.own hi
    refine ⟨_, h1, use (te := lift T wb) S w fun y H1 F1 dy S1 l1 i1 w1 => ?_⟩
    split at w1
    · rename_i m
      cases i1.intE
      obtain ⟨d, hd, w1⟩ := ixK_iff.mp w1
      obtain ⟨p', us, e1, g1, g2, g3, _⟩ := S1.own hi
      rw [h1] at e1; cases e1
      obtain ⟨u, hu, iu⟩ := atI_is g3 hd
      exact .inl ⟨p, us, m, u, rfl, rfl, SqL.of g1, hu, k u H1 F1 (.val d) S1 l1 iu w1⟩
    · exact w1.elim
  · exact w.elim
/-! ### slices -/
def wOptI (w : W) : DEnv → (Option Int → Prop) → Prop := fun δ Q => w δ fun x => wd x fun d => match d with
  | .int i => Q (some i)
  | _ => False
def wNoI : DEnv → (Option Int → Prop) → Prop := fun _ Q => Q none
abbrev WO := DEnv → (Option Int → Prop) → Prop
def liftO (T : Tb) (w : WO) : TO := fun σ H Q => ∃ e F δ Qd, Sim T e F δ σ H ∧ w δ Qd ∧ ∀ o H' F', Sim T e F' δ σ H' → Le F F' → Qd o → Q o H'
theorem PO.weak {e : Option Expr} {t t' : TO} (h : PO X e t) (k : ∀ σ H Q, t' σ H Q → t σ H Q) : PO X e t' := ⟨fun pins s σ H Q I q => h.run pins s σ H Q I (k _ _ _ q)⟩
theorem o_none : PO X none (liftO T wNoI) := PO.weak po_none fun σ H Q ⟨e, F, δ, Qd, S, w, k⟩ => k none H F S (Le.refl F) w
theorem o_some (ha : PE X a (lift T wa)) : PO X (some a) (liftO T (wOptI wa)) := PO.weak (po_some ha) fun σ H Q ⟨e, F, δ, Qd, S, w, k⟩ => by
  refine use (te := lift T wa) S w fun y H1 F1 dy S1 l1 i1 w1 => ?_
  split at w1
  · cases i1.intE
    exact ⟨_, rfl, k _ H1 F1 S1 l1 w1⟩
  · exact w1.elim
def cutD (ds : List D) (lo hi : Option Int) : List D := (ds.drop (HT.sIx ds.length 0 lo)).take (HT.sIx ds.length ds.length hi - HT.sIx ds.length 0 lo)
theorem IsL.cut {vs : List V} {ds : List D} (h : IsL T F vs ds) (lo hi : Option Int) : IsL T F (cutV vs lo hi) (cutD ds lo hi) := by
  unfold cutV cutD
  rw [h.len]
  exact IsL.take T _ (IsL.drop T _ h)
def slD (x : D) (lo hi : Option Int) (Q : SV → Prop) : Prop := match x with
  | .lst ds => Q (.own (cutD ds lo hi))
  | .tup ds => Q (.val (.tup (cutD ds lo hi)))
  | .str s => szOk s.length ∧ Q (.val (.str (cutS s lo hi)))
  | _ => False
def wSl (wa : W) (l h : WO) : W := fun δ Q => wa δ fun x => wd x fun d => l δ fun lo => h δ fun hi => slD d lo hi Q
theorem cut_whole {ds : List D} {lo hi : Option Int} (h1 : HT.sIx ds.length 0 lo = 0) (h2 : HT.sIx ds.length ds.length hi = ds.length) : cutD ds lo hi = ds := by
  unfold cutD
  rw [h1, h2, List.drop_zero, Nat.sub_zero, List.take_length]
abbrev rSl3 (K : PySem.W.Frag) : V → Option Int → Option Int → Hp → VK → Prop := fun x lo hi H Q => rSlL K x lo hi H Q ∨ (rSlA K x lo hi H Q ∨ rSlS x lo hi H Q)
theorem d_sl {p2 : Pos} {lo hi : Option Expr} {wl wh : WO} (ha : PE X a (lift T wa)) (hl : PO X lo (liftO T wl)) (hh : PO X hi (liftO T wh)) (hK : T.K = X.K := by rfl) : PE X (.Subscript a (.Slice lo hi none p2) pos) (lift T (wSl wa wl wh)) := by
  refine PE.weak (pe_slice (r := rSl3 X.K) (SlR.or sl_list (SlR.or sl_tupA sl_str)) ha hl hh) fun σ H Q ⟨e, F, δ, Qd, S, w, k⟩ => ?_
  refine use (te := lift T wa) S w fun x H1 F1 d S1 l1 i1 w1 => ?_
  refine ⟨e, F1, δ, _, S1, w1, fun lo H2 F2 S2 l2 w2 => ⟨e, F2, δ, _, S2, w2, fun hi H3 F3 S3 l3 w3 => ?_⟩⟩
  have i3 := Is.mono T (l2.trans l3) d i1
  have kk : Kont T e F3 δ σ Qd Q := fun v H' F' sv S' l' r' q' => k v H' F' sv S' (((l1.trans l2).trans l3).trans l') r' q'
  unfold slD at w3
  split at w3
  · obtain ⟨p, vs, rfl, h1, j1⟩ := i3.lstE
    exact .inl ⟨p, vs, rfl, SqL.of (S3.sub _ _ h1), fun q hq => klst S3 kk hq (j1.cut lo hi) w3⟩
  · rename_i ds
    obtain ⟨p, vs, rfl, h1, j1⟩ := i3.tupE
    rw [hK] at h1
    refine .inr (.inl ⟨p, vs, rfl, sqT_mono S3.sub h1, fun hz => ?_, fun _ q hq => ktup S3 kk hq (j1.cut lo hi) w3⟩)
    rw [j1.len] at hz
    rw [cut_whole hz.1 hz.2] at w3
    exact kv S3 kk i3 w3
  · cases i3.strE
    exact .inr (.inr ⟨_, rfl, w3.1, kstr S3 kk w3.2⟩)
  · exact w3.elim
end
end DD
namespace DD
open PySem L2
section
variable {X : Cx} {T : Tb} {pos p : Pos} {tg a b c o : Expr} {es ifs : List Expr} {st : Stmt} {sts : List Stmt} {wa wb wc we : W} {wt : WT} {wi : WI} {ws : WA} {wx : WS} {e : En} {F F' H H' : Hp} {δ : DEnv} {σ : L2.St} {q : Pat} {qs : List Pat} {E : XK}
theorem Res.int {n : Int} : Res T e F H δ σ (.int n) (.val (.int n)) := (Is.int : Is T F (.int n) (.int n))
theorem Res.str {n : Str} : Res T e F H δ σ (.str n) (.val (.str n)) := (Is.str : Is T F (.str n) (.str n))
/-! ### abs, int, max, min, len, all, any -/
def absD : PNf := fun ds Q => match ds with
  | [.int i] => Q (.val (.int (if i < 0 then -i else i)))
  | _ => False
theorem p_abs : PN T (fun xs H Q => ∃ i, xs = [.int i] ∧ Q (.int (if i < 0 then -i else i)) H) absD := by
  intro e F H δ σ xs ds Qd Q S i h k
  unfold absD at h
  split at h
  · cases i.int1; exact ⟨_, rfl, kint S k h⟩
  · exact h.elim
def intD : PNf := fun ds Q => match ds with
  | [.int i] => Q (.val (.int i))
  | [.bl b] => Q (.val (.int (if b then 1 else 0)))
  | [.str s] => s.length ≤ 640 ∧ (match PySem.intText? s with | some n => Q (.val (.int n)) | none => False)
  | _ => False
abbrev rIntA : List V → Hp → VK → Prop := fun xs H Q => ((∃ i, xs = [.int i] ∧ Q (.int i) H) ∨ ∃ k, xs = [.bl k] ∧ Q (.int (if k then 1 else 0)) H) ∨ (∃ a n, xs = [.str a] ∧ PySem.intText? a = some n ∧ a.length ≤ 640 ∧ Q (.int n) H)
theorem c_int : CallR X (.type "int") rIntA := CallR.or call_int1 call_int_str
theorem p_int : PN T rIntA intD := by
  intro e F H δ σ xs ds Qd Q S i h k
  unfold intD at h
  split at h
  · cases i.int1; exact .inl (.inl ⟨_, rfl, kint S k h⟩)
  · obtain ⟨v, rfl, h1⟩ := i.oneE
    cases h1.blE; exact .inl (.inr ⟨_, rfl, kint S k h⟩)
  · obtain ⟨v, rfl, h1⟩ := i.oneE
    cases h1.strE
    obtain ⟨hz, h⟩ := h
    split at h
    · rename_i n hn
      exact .inr ⟨_, n, rfl, hn, hz, kint S k h⟩
    · exact h.elim
  · exact h.elim
def max2D : PNf := fun ds Q => match ds with
  | [.int i, .int j] => Q (.val (.int (if j > i then j else i)))
  | _ => False
def min2D : PNf := fun ds Q => match ds with
  | [.int i, .int j] => Q (.val (.int (if j < i then j else i)))
  | _ => False
theorem p_max2 : PN T (fun xs H Q => ∃ i j, xs = [.int i, .int j] ∧ Q (.int (if j > i then j else i)) H) max2D := by
  intro e F H δ σ xs ds Qd Q S i h k
  unfold max2D at h
  split at h
  · obtain ⟨v, v', rfl, h1, h2⟩ := IsL.two i
    cases h1.intE; cases h2.intE; exact ⟨_, _, rfl, kint S k h⟩
  · exact h.elim
theorem p_min2 : PN T (fun xs H Q => ∃ i j, xs = [.int i, .int j] ∧ Q (.int (if j < i then j else i)) H) min2D := by
  intro e F H δ σ xs ds Qd Q S i h k
  unfold min2D at h
  split at h
  · obtain ⟨v, v', rfl, h1, h2⟩ := IsL.two i
    cases h1.intE; cases h2.intE; exact ⟨_, _, rfl, kint S k h⟩
  · exact h.elim
def lenD : PNf := fun ds Q => match ds with
  | [.lst xs] => Q (.val (.int xs.length))
  | [.tup xs] => Q (.val (.int xs.length))
  | [.str s] => szOk s.length ∧ Q (.val (.int s.length))
  | _ => False
abbrev rLenA (K : PySem.W.Frag) : List V → Hp → VK → Prop := fun xs H Q => (∃ p ys, xs = [.ref p] ∧ (SqL K H p ys ∨ SqT K H p ys) ∧ Q (.int ys.length) H) ∨ (∃ z, xs = [.str z] ∧ z.length ≤ sizeLine ∧ Q (.int z.length) H)
theorem c_len : CallR X (.builtin "len") (rLenA X.K) := CallR.or call_len_seq call_len_str
theorem p_len : PN T (rLenA T.K) lenD := by
  intro e F H δ σ xs ds Qd Q S i h k
  unfold lenD at h
  split at h
  · obtain ⟨v, rfl, h1⟩ := i.oneE
    obtain ⟨p, vs, rfl, g1, g2⟩ := h1.lstE
    exact .inl ⟨p, vs, rfl, .inl (SqL.of (S.sub _ _ g1)), kint S k (by rw [g2.len]; exact h)⟩
  · obtain ⟨v, rfl, h1⟩ := i.oneE
    obtain ⟨p, vs, rfl, g1, g2⟩ := h1.tupE
    exact .inl ⟨p, vs, rfl, .inr (sqT_mono S.sub g1), kint S k (by rw [g2.len]; exact h)⟩
  · obtain ⟨v, rfl, h1⟩ := i.oneE
    cases h1.strE
    exact .inr ⟨_, rfl, h.1, kint S k h.2⟩
  · exact h.elim
/-- len of a name, the frame's own list too -/
def wLenN (i : Nat) : W := fun δ Q => match δ[i]? with
  | some (some (.val d)) => lenD [d] Q
  | some (some (.own ds)) => Q (.val (.int ds.length))
  | _ => False
theorem d_lenN (i : Nat) {x : Str} {p1 p2 : Pos} (hm : X.mg "len" = none) (hN : X.N[i]? = some x := by rfl) (hv : Vis X.env.scope x := by first | exact Or.inl rfl | exact Or.inr (Or.inl rfl) | exact Or.inr (Or.inr rfl)) (hd : (x == ("__debug__" : Str)) = false := by decide)
    (hcd : (x == ("__classdict__" : Str)) = false := by decide) (hg : Gl X "len" := by rfl) (he : starEach (.Name x p1 :: []) X.env = (false, eval (.Name x p1) X.env) :: starEach [] X.env := by rfl) (hpl : (backTo pos (starEach [] X.env)).any (·.1) = false := by rfl) (hK : T.K = X.K := by rfl) : PE X (.Call (.Name "len" p2) [.Name x p1] [] pos) (lift T (wLenN i)) := by
  refine PE.weak (pe_callB c_len hg hm PySem.boot_len (pa_cons (pe_var hN hv hd hcd) pa_nil he) (by decide) (by decide) he hpl) fun σ H Q ⟨e, F, δ, Qd, S, w, k⟩ => ?_
  unfold wLenN at w
  split at w
  · rename_i d hi
    obtain ⟨v, h1, h2, _⟩ := S.slot i _ hi
    have z := p_len e F H δ σ [v] [d] Qd Q S (IsL.one T h2) w k
    rw [hK] at z
    exact ⟨v, h1, z⟩
  · rename_i ds hi
    obtain ⟨p, vs, h1, h2, h3, h4, _⟩ := S.own hi
    exact ⟨_, h1, .inl ⟨p, vs, rfl, .inl (SqL.of h2), by rw [h4.len]; exact k _ H F (.val (.int ds.length)) S (Le.refl F) Res.int w⟩⟩
  · exact w.elim
/-- a list of bools -/
def bools : List D → Option (List Bool)
  | [] => some []
  | .bl b :: r => (bools r).map (b :: ·)
  | _ => none
theorem IsL.bools : ∀ {vs : List V} {ds : List D} {bs : List Bool}, IsL T F vs ds → DD.bools ds = some bs → vs = bs.map V.bl
  | vs, [], bs, h, e => by unfold DD.bools at e; cases e; exact h.nilE
  | vs, d :: ds, bs, h, e => by
    unfold IsL at h
    obtain ⟨v, r, rfl, h1, h2⟩ := h
    cases d with
    | bl b =>
      unfold DD.bools at e
      cases q : DD.bools ds with
      | none => rw [q] at e; cases e
      | some cs =>
        rw [q] at e
        cases e
        rw [h1.blE, IsL.bools h2 q, List.map_cons]
    | non => cases e
    | int _ => cases e
    | str _ => cases e
    | lst _ => cases e
    | tup _ => cases e
    | ins _ _ => cases e
    | scr _ => cases e
    | dct => cases e
    | fn _ => cases e
def allD : PNf := fun ds Q => match ds with
  | [.lst xs] => (match bools xs with | some bs => Q (.val (.bl (bs.all id))) | none => False)
  | _ => False
def anyD : PNf := fun ds Q => match ds with
  | [.lst xs] => (match bools xs with | some bs => Q (.val (.bl (bs.any id))) | none => False)
  | _ => False
theorem p_all {K : PySem.W.Frag} : PN T (rAll K) allD := by
  intro e F H δ σ xs ds Qd Q S i h k
  unfold allD at h
  split at h
  · obtain ⟨v, rfl, h1⟩ := i.oneE
    obtain ⟨p, vs, rfl, g1, g2⟩ := h1.lstE
    split at h
    · rename_i bs hb
      have := g2.bools hb
      subst this
      exact ⟨p, bs, rfl, SqL.of (S.sub _ _ g1), kbl S k h⟩
    · exact h.elim
  · exact h.elim
theorem p_any {K : PySem.W.Frag} : PN T (rAny K) anyD := by
  intro e F H δ σ xs ds Qd Q S i h k
  unfold anyD at h
  split at h
  · obtain ⟨v, rfl, h1⟩ := i.oneE
    obtain ⟨p, vs, rfl, g1, g2⟩ := h1.lstE
    split at h
    · rename_i bs hb
      have := g2.bools hb
      subst this
      exact ⟨p, bs, rfl, SqL.of (S.sub _ _ g1), kbl S k h⟩
    · exact h.elim
  · exact h.elim
/-! ### list(x), tuple(x), list(range(..)) -/
def listD : PNf := fun ds Q => match ds with
  | [.lst xs] => Q (.own xs)
  | [.tup xs] => Q (.own xs)
  | _ => False
theorem p_list : PN T (fun xs H Q => ∃ p ys, xs = [.ref p] ∧ (SqL T.K H p ys ∨ SqT T.K H p ys) ∧ ∀ l, H l = none → Q (.ref l) (upd H l (.lst ys))) listD := by
  intro e F H δ σ xs ds Qd Q S i h k
  unfold listD at h
  split at h
  · obtain ⟨v, rfl, h1⟩ := i.oneE
    obtain ⟨p, vs, rfl, g1, g2⟩ := h1.lstE
    exact ⟨p, vs, rfl, .inl (SqL.of (S.sub _ _ g1)), fun l hl => klst S k hl g2 h⟩
  · obtain ⟨v, rfl, h1⟩ := i.oneE
    obtain ⟨p, vs, rfl, g1, g2⟩ := h1.tupE
    exact ⟨p, vs, rfl, .inr (sqT_mono S.sub g1), fun l hl => klst S k hl g2 h⟩
  · exact h.elim
def tupleD : PNf := fun ds Q => match ds with
  | [.lst xs] => Q (.val (.tup xs))
  | [.tup xs] => Q (.val (.tup xs))
  | _ => False
theorem p_tuple : PN T (fun xs H Q => ∃ p ys, xs = [.ref p] ∧ ((SqL T.K H p ys ∧ ∀ l, H l = none → Q (.ref l) (upd H l (.tup ys))) ∨ (SqT T.K H p ys ∧ Q (.ref p) H))) tupleD := by
  intro e F H δ σ xs ds Qd Q S i h k
  unfold tupleD at h
  split at h
  · obtain ⟨v, rfl, h1⟩ := i.oneE
    obtain ⟨p, vs, rfl, g1, g2⟩ := h1.lstE
    exact ⟨p, vs, rfl, .inl ⟨SqL.of (S.sub _ _ g1), fun l hl => ktup S k hl g2 h⟩⟩
  · obtain ⟨v, rfl, h1⟩ := i.oneE
    obtain ⟨p, vs, rfl, g1, g2⟩ := id h1.tupE
    exact ⟨p, vs, rfl, .inr ⟨sqT_mono S.sub g1, kv S k h1 h⟩⟩
  · exact h.elim
/-! ### isinstance -/
def tyN : D → Option String
  | .non => some "NoneType"
  | .bl _ => some "bool"
  | .int _ => some "int"
  | .str _ => some "str"
  | .lst _ => some "list"
  | .tup _ => some "tuple"
  | .dct => some "dict"
  | _ => none
/-- what the class of an instance must be for isinstance -/
structure ClsTy (K : PySem.W.Frag) (C : Addr) : Prop where
  cl : Cls K C
  ha : PySem.W.findIn K (.ref C) "__class__" = some (some (.builtin "object.__class__"))
  hn : PySem.W.specialIn K (.builtin "object.__class__") "__get__" = some (some (.builtin "getset_descriptor.__get__"))
  ht : PySem.W.takesIn K (.builtin "object.__class__") = some true
  hm : PySem.W.mroIn K C (.type "object") = some true
/-- which types are heirs of u: the built-in ones by name, the text's own by number -/
structure IsiOk (T : Tb) (K : PySem.W.Frag) (u : Value) (fB : List (String × Bool)) (fC : List (Nat × Bool)) : Prop where
  b : ∀ n r, fB.lookup n = some r → PySem.W.kitOne K (.type n) u = some r
  c : ∀ n r, fC.lookup n = some r → ClsTy K (T.ca n) ∧ PySem.W.kitOne K (.ref (T.ca n)) u = some r
def isiD (fB : List (String × Bool)) (fC : List (Nat × Bool)) : P1f := fun d Q => match d with
  | .ins c _ => (match fC.lookup c with | some r => Q (.val (.bl r)) | none => False)
  | d => match tyN d with
    | some n => (match fB.lookup n with | some r => Q (.val (.bl r)) | none => False)
    | none => False
def wIsi (fB : List (String × Bool)) (fC : List (Nat × Bool)) (wa : W) : W := wUn (isiD fB fC) wa
theorem tyX_tup {K : PySem.W.Frag} {H : Hp} {a : Addr} {vs : List V} (h : SqT K H a vs) : TyX K H (.ref a) (.type "tuple") := by
  rcases h with (h | ⟨o, h⟩) | ⟨o, its, n, hk, hc, _⟩
  · exact .base (.tup h)
  · exact .fTuple h
  · exact .kTuple hk hc
theorem isi_run {fB : List (String × Bool)} {fC : List (Nat × Bool)} {u : Value} {v cv : V} {d : D} {Qd : SV → Prop} {Q : VK} (hK : T.K = X.K) (hk : IsiOk T X.K u fB fC) (hc : ClsV cv u) (S : Sim T e F δ σ H) (i : Is T F v d)
    (h : isiD fB fC d Qd) (k : Kont T e F δ σ Qd Q) : rIsi X.K [v, cv] H Q := by
  have bs : ∀ n r, fB.lookup n = some r → TyX X.K H v (.type n) → Qd (.val (.bl r)) → rIsi X.K [v, cv] H Q := fun n r hl ty q => ⟨v, cv, _, u, r, rfl, hc, ty, hk.b n r hl, kbl S k q⟩
  unfold isiD at h
  cases d with
  | ins c ds =>
    simp only at h
    split at h
    · rename_i r hr
      obtain ⟨h1, h2⟩ := hk.c c r hr
      obtain ⟨p, dx, vs, rfl, g1, _⟩ := i.insE
      exact ⟨_, cv, _, u, r, rfl, hc, .base (.ins (S.sub _ _ g1) h1.cl h1.ha h1.hn h1.ht h1.hm), h2, kbl S k h⟩
    · exact h.elim
  | non =>
    simp only [tyN] at h
    split at h
    · rename_i r hr; cases i.nonE; exact bs _ r hr (.base .non) h
    · exact h.elim
  | bl b =>
    simp only [tyN] at h
    split at h
    · rename_i r hr; cases i.blE; exact bs _ r hr (.base (.bl b)) h
    · exact h.elim
  | int b =>
    simp only [tyN] at h
    split at h
    · rename_i r hr; cases i.intE; exact bs _ r hr (.base (.int b)) h
    · exact h.elim
  | str b =>
    simp only [tyN] at h
    split at h
    · rename_i r hr; cases i.strE; exact bs _ r hr (.base (.str b)) h
    · exact h.elim
  | lst b =>
    simp only [tyN] at h
    split at h
    · rename_i r hr; obtain ⟨p, vs, rfl, g1, _⟩ := i.lstE; exact bs _ r hr (.base (.lst (S.sub _ _ g1))) h
    · exact h.elim
  | tup b =>
    simp only [tyN] at h
    split at h
    · rename_i r hr; obtain ⟨p, vs, rfl, g1, _⟩ := i.tupE; rw [hK] at g1; exact bs _ r hr (tyX_tup (sqT_mono S.sub g1)) h
    · exact h.elim
  | dct =>
    simp only [tyN] at h
    split at h
    · rename_i r hr; unfold Is at i; obtain ⟨p, rfl, g1⟩ := i; exact bs _ r hr (.base (.dK (S.sub _ _ g1))) h
    · exact h.elim
  | scr b => exact h.elim
  | fn b => exact h.elim
theorem d_isi {fB : List (String × Bool)} {fC : List (Nat × Bool)} {u : Value} {cv : V} (hk : IsiOk T X.K u fB fC) (hc : ClsV cv u) (hb : PE X b (tC cv)) (ha : PE X a (lift T wa)) (hm : X.mg "isinstance" = none) (hv : bootBuiltins "isinstance" = some (.builtin "isinstance")) (hg : Gl X "isinstance" := by rfl)
    (h1 : starEach (a :: [b]) X.env = (false, eval a X.env) :: starEach [b] X.env := by rfl) (h2 : starEach (b :: []) X.env = (false, eval b X.env) :: starEach [] X.env := by rfl) (hpl : (backTo pos (starEach [b] X.env)).any (·.1) = false := by rfl) (hK : T.K = X.K := by rfl) :
    PE X (.Call (.Name "isinstance" p) [a, b] [] pos) (lift T (wIsi fB fC wa)) := by
  refine PE.weak (pe_callB call_isi hg hm hv (pa_cons ha (pa_cons hb pa_nil h2) h1) (by decide) (by decide) h1 hpl) fun σ H Q ⟨e, F, δ, Qd, S, w, k⟩ => ?_
  refine use (te := lift T wa) S w fun v H1 F1 d S1 l1 i1 w1 => ?_
  exact isi_run hK hk hc S1 i1 w1 fun v H' F' sv S' l' r' q' => k v H' F' sv S' (l1.trans l') r' q'
/-! ### texts -/
def strD : PNf := fun ds Q => match ds with
  | [.int i] => i.natAbs.log2 < 1920 ∧ Q (.val (.str (toString i)))
  | [.str s] => Q (.val (.str s))
  | _ => False
abbrev rStrA : List V → Hp → VK → Prop := fun xs H Q => (∃ i, xs = [.int i] ∧ i.natAbs.log2 < 1920 ∧ Q (.str (toString i)) H) ∨ (∃ a, xs = [.str a] ∧ Q (.str a) H)
theorem c_str : CallR X (.type "str") rStrA := CallR.or call_str_int SkE.call_str_str
theorem p_str : PN T rStrA strD := by
  intro e F H δ σ xs ds Qd Q S i h k
  unfold strD at h
  split at h
  · cases i.int1; exact .inl ⟨_, rfl, h.1, kstr S k h.2⟩
  · obtain ⟨v, rfl, h1⟩ := i.oneE
    cases h1.strE; exact .inr ⟨_, rfl, kstr S k h⟩
  · exact h.elim
/-- x in s, a text within a text -/
def occ (i j : Str) : Bool := !(Builtin.Str.occurrences j i 0 j.length 1).isEmpty
def inSD (neg : Bool) : P2f := fun x y Q => match x, y with
  | .str i, .str j => Q (.val (.bl (if neg then !occ i j else occ i j)))
  | _, _ => False
theorem p_inS : P2 T (fun x y H Q => ∃ i j, x = .str i ∧ y = .str j ∧ Q (.bl (!(Builtin.Str.occurrences j i 0 j.length 1).isEmpty)) H) (inSD false) := by
  intro e F H δ σ x y dx dy Qd Q S ix iy h k
  unfold inSD at h
  split at h
  · cases ix.strE; cases iy.strE
    exact ⟨_, _, rfl, rfl, kbl S k h⟩
  · exact h.elim
theorem p_niS : P2 T (fun x y H Q => ∃ i j, x = .str i ∧ y = .str j ∧ Q (.bl (!(!(Builtin.Str.occurrences j i 0 j.length 1).isEmpty))) H) (inSD true) := by
  intro e F H δ σ x y dx dy Qd Q S ix iy h k
  unfold inSD at h
  split at h
  · cases ix.strE; cases iy.strE
    exact ⟨_, _, rfl, rfl, kbl S k h⟩
  · exact h.elim
/-- a list of texts -/
def strs_ : List D → Option (List Str)
  | [] => some []
  | .str b :: r => (strs_ r).map (b :: ·)
  | _ => none
theorem IsL.strs_ : ∀ {vs : List V} {ds : List D} {bs : List Str}, IsL T F vs ds → DD.strs_ ds = some bs → vs = bs.map V.str
  | vs, [], bs, h, e => by unfold DD.strs_ at e; cases e; exact h.nilE
  | vs, d :: ds, bs, h, e => by
    unfold IsL at h
    obtain ⟨v, r, rfl, h1, h2⟩ := h
    cases d with
    | str b =>
      unfold DD.strs_ at e
      cases q : DD.strs_ ds with
      | none => rw [q] at e; cases e
      | some cs =>
        rw [q] at e
        cases e
        rw [h1.strE, IsL.strs_ h2 q, List.map_cons]
    | non => cases e
    | int _ => cases e
    | bl _ => cases e
    | lst _ => cases e
    | tup _ => cases e
    | ins _ _ => cases e
    | scr _ => cases e
    | dct => cases e
    | fn _ => cases e
def joinD : P2f := fun x y Q => match x, y with
  | .str s, .lst xs => (match strs_ xs with | some ys => (ys.map (·.length)).sum + ys.length * s.length ≤ 16777216 ∧ Q (.val (.str (Txt.join s ys))) | none => False)
  | _, _ => False
def wJoin (wo wa : W) : W := fun δ Q => wo δ fun x => wd x fun dx => match dx with
  | .str s => wa δ fun y => wd y fun dy => joinD (.str s) dy Q
  | _ => False
theorem d_join {wo : W} {apos : Pos} (ho : PE X o (lift T wo)) (ha : PE X a (lift T wa)) (hs : starEach [a] X.env = [(false, eval a X.env)] := by rfl) (hbase : attributeBase o "join" X.env (eval o X.env) = eval o X.env := by rfl) (hline : (apos.endLine == pos.line) = true := by rfl) :
    PE X (.Call (.Attribute o "join" apos) [a] [] pos) (lift T (wJoin wo wa)) := by
  refine PE.weak (pe_join ho ha hs hbase hline) fun σ H Q ⟨e, F, δ, Qd, S, w, k⟩ => ?_
  refine use (te := lift T wo) S w fun v H1 F1 d S1 l1 i1 w1 => ?_
  split at w1
  · rename_i s
    cases i1.strE
    refine ⟨⟨s, rfl⟩, use (te := lift T wa) S1 w1 fun y H2 F2 dy S2 l2 i2 w2 => ?_⟩
    unfold joinD at w2
    split at w2
    · rename_i xs hh
      cases hh
      obtain ⟨p, vs, rfl, g1, g2⟩ := i2.lstE
      split at w2
      · rename_i ys hy
        have := g2.strs_ hy
        subst this
        exact ⟨s, p, ys, rfl, rfl, .inl (SqL.of (S2.sub _ _ g1)), w2.1, k _ H2 F2 (.val (.str _)) S2 (l1.trans l2) Res.str w2.2⟩
      · exact w2.elim
    · exact w2.elim
  · exact w1.elim
/-- f'..' -/
def fmtD : P1f := fun x Q => match x with
  | .str s => szOk s.length ∧ Q (.val (.str s))
  | .int i => i.natAbs.log2 < 1920 ∧ Q (.val (.str (toString i)))
  | _ => False
theorem d_fmt (ha : PE X a (lift T wa)) : PE X (.FormattedValue a (-1) none pos) (lift T (wUn fmtD wa)) := by
  refine PE.weak (pe_fmt ha) fun σ H Q ⟨e, F, δ, Qd, S, w, k⟩ => ?_
  refine use (te := lift T wa) S w fun v H1 F1 d S1 l1 i1 w1 => ?_
  unfold fmtD at w1
  split at w1
  · cases i1.strE; exact .inl ⟨_, rfl, w1.1, k _ H1 F1 (.val (.str _)) S1 l1 Res.str w1.2⟩
  · cases i1.intE; exact .inr ⟨_, rfl, w1.1, k _ H1 F1 (.val (.str _)) S1 l1 Res.str w1.2⟩
  · exact w1.elim
theorem d_f1 (ha : PE X a (lift T wa)) : PE X (.JoinedStr [a] pos) (lift T wa) := pe_joined1 ha
/-- the parts one behind the other -/
def fJs : List W → Str → W
  | [], acc => fun _ Q => Q (.val (.str acc))
  | w :: ws, acc => fun δ Q => w δ fun x => wd x fun d => match d with
    | .str y => szOk (acc ++ y).length ∧ fJs ws (acc ++ y) δ Q
    | _ => False
inductive FJ (X : Cx) (T : Tb) : List Expr → List W → Prop where
  | nil : FJ X T [] []
  | cons {e : Expr} {w : W} {es : List Expr} {ws : List W} (h : PE X e (lift T w)) (r : FJ X T es ws) : FJ X T (e :: es) (w :: ws)
theorem FJ.pj : ∀ {es : List Expr} {ws : List W}, FJ X T es ws → PJ X es (ws.map (lift T))
  | _, _, .nil => .nil
  | _, _, .cons h r => .cons h (FJ.pj r)
theorem lift_Js : ∀ (ws : List W) (acc : Str) {σ : L2.St} {H : Hp} {Q : Str → Hp → Prop} {Qd : SV → Prop} {e : En} {F : Hp} {δ : DEnv}, Sim T e F δ σ H → fJs ws acc δ Qd →
    (∀ s H' F', Sim T e F' δ σ H' → Le F F' → Qd (.val (.str s)) → Q s H') → tJs (ws.map (lift T)) acc σ H Q
  | [], acc, σ, H, Q, Qd, e, F, δ, S, w, k => k acc H F S (Le.refl F) w
  | w :: ws, acc, σ, H, Q, Qd, e, F, δ, S, h, k => by
    refine use (te := lift T w) S h fun v H1 F1 d S1 l1 i1 w1 => ?_
    split at w1
    · cases i1.strE
      exact ⟨_, rfl, w1.1, lift_Js ws _ S1 w1.2 fun s H' F' S' l' q => k s H' F' S' (l1.trans l') q⟩
    · exact w1.elim
theorem d_fN {v1 v2 : Expr} {rest : List Expr} {ws : List W} (h : FJ X T (v1 :: v2 :: rest) ws) : PE X (.JoinedStr (v1 :: v2 :: rest) pos) (lift T (fJs ws Str.empty)) := by
  refine PE.weak (pe_joined (FJ.pj h)) fun σ H Q ⟨e, F, δ, Qd, S, w, k⟩ => ?_
  exact lift_Js ws Str.empty S w fun s H' F' S' l' q => k _ H' F' (.val (.str s)) S' l' Res.str q
/-! ### repr -/
/-- data of nesting below n, fit to be shown -/
def okR : Nat → D → Bool
  | _, .non => true
  | _, .bl _ => true
  | _, .int i => decide (i.natAbs.log2 < 1920)
  | _, .str _ => true
  | n + 1, .lst ds => ds.all (okR n)
  | n + 1, .tup ds => ds.all (okR n)
  | _, _ => false
def shownD (d : D) : Str := PyData.shown (toP d)
theorem toPs_show : ∀ {ds : List D}, (∀ d ∈ ds, (toP d).showable = true ∧ (toP d).hasDict = false) → PyData.showableAll (toPs ds) = true ∧ PyData.hasDictAll (toPs ds) = false
  | [], _ => by unfold toPs PyData.showableAll PyData.hasDictAll; exact ⟨rfl, rfl⟩
  | d :: ds, h => by
    obtain ⟨h1, h2⟩ := h d List.mem_cons_self
    obtain ⟨h3, h4⟩ := toPs_show (ds := ds) fun x hx => h x (List.mem_cons_of_mem _ hx)
    unfold toPs PyData.showableAll PyData.hasDictAll
    rw [h1, h2, h3, h4]; exact ⟨rfl, rfl⟩
theorem okR_ok : ∀ (n : Nat) (d : D), okR n d = true → ((toP d).showable = true ∧ (toP d).hasDict = false) ∧ (toP d).depth ≤ n
  | n, .non, h => by unfold toP PyData.showable PyData.hasDict PyData.depth; exact ⟨⟨rfl, rfl⟩, Nat.zero_le _⟩
  | n, .bl b, h => by unfold toP PyData.showable PyData.hasDict PyData.depth; exact ⟨⟨rfl, rfl⟩, Nat.zero_le _⟩
  | n, .int b, h => by unfold okR at h; unfold toP PyData.showable PyData.hasDict PyData.depth; exact ⟨⟨h, rfl⟩, Nat.zero_le _⟩
  | n, .str b, h => by unfold toP PyData.showable PyData.hasDict PyData.depth; exact ⟨⟨rfl, rfl⟩, Nat.zero_le _⟩
  | 0, .lst ds, h => by unfold okR at h; cases h
  | 0, .tup ds, h => by unfold okR at h; cases h
  | n + 1, .lst ds, h => by
    unfold okR at h
    have h' := List.all_eq_true.mp h
    have g := toPs_show (ds := ds) fun d hd => (okR_ok n d (h' d hd)).1
    unfold toP PyData.showable PyData.hasDict PyData.depth
    exact ⟨g, Nat.succ_le_succ (toPs_depth fun d hd => (okR_ok n d (h' d hd)).2)⟩
  | n + 1, .tup ds, h => by
    unfold okR at h
    have h' := List.all_eq_true.mp h
    have g := toPs_show (ds := ds) fun d hd => (okR_ok n d (h' d hd)).1
    unfold toP PyData.showable PyData.hasDict PyData.depth
    exact ⟨g, Nat.succ_le_succ (toPs_depth fun d hd => (okR_ok n d (h' d hd)).2)⟩
  | n, .ins c ds, h => by cases n <;> (unfold okR at h; cases h)
  | n, .scr c, h => by cases n <;> (unfold okR at h; cases h)
  | n, .dct, h => by cases n <;> (unfold okR at h; cases h)
  | n, .fn _, h => by cases n <;> (unfold okR at h; cases h)
mutual
theorem is_dpR {F H : Hp} (s : Le F H) : ∀ (n : Nat) (d : D) (v : V), okR n d = true → Is T F v d → Dp T.K H v (toP d)
  | n, .non, v, h, i => by cases i.nonE; unfold toP; exact .non
  | n, .bl b, v, h, i => by cases i.blE; unfold toP; exact .bl b
  | n, .int b, v, h, i => by cases i.intE; unfold toP; exact .int b
  | n, .str b, v, h, i => by cases i.strE; unfold toP; exact .str b
  | 0, .lst ds, v, h, i => by unfold okR at h; cases h
  | 0, .tup ds, v, h, i => by unfold okR at h; cases h
  | n + 1, .lst ds, v, h, i => by
    obtain ⟨a, vs, rfl, h1, i1⟩ := i.lstE
    unfold okR at h
    unfold toP
    exact .lst (SqL.of (s _ _ h1)) (is_dpRs s n ds vs h i1)
  | n + 1, .tup ds, v, h, i => by
    obtain ⟨a, vs, rfl, h1, i1⟩ := i.tupE
    unfold okR at h
    unfold toP
    exact .tup (sqT_mono s h1) (is_dpRs s n ds vs h i1)
  | n, .ins c ds, v, h, i => by cases n <;> (unfold okR at h; cases h)
  | n, .scr c, v, h, i => by cases n <;> (unfold okR at h; cases h)
  | n, .dct, v, h, i => by cases n <;> (unfold okR at h; cases h)
  | n, .fn _, v, h, i => by cases n <;> (unfold okR at h; cases h)
theorem is_dpRs {F H : Hp} (s : Le F H) : ∀ (n : Nat) (ds : List D) (vs : List V), ds.all (okR n) = true → IsL T F vs ds → DpAll T.K H vs (toPs ds)
  | n, [], vs, h, i => by unfold IsL at i; rw [i]; unfold toPs; exact .nil
  | n, d :: ds, vs, h, i => by
    rw [List.all_cons, Bool.and_eq_true] at h
    unfold IsL at i
    obtain ⟨v, r, rfl, i1, i2⟩ := i
    unfold toPs
    exact .cons (is_dpR s n d v h.1 i1) (is_dpRs s n ds r h.2 i2)
end
def rRepr0 (K : PySem.W.Frag) : List V → Hp → VK → Prop := fun xs H Q => ∃ x d, xs = [x] ∧ Dp K H x d ∧ d.showable = true ∧ d.hasDict = false ∧ d.depth ≤ 40 ∧ (PyData.shown d).length ≤ sizeLine ∧ Q (.str (PyData.shown d)) H
theorem call_repr0 (gd : X.A.guards = some []) (hu : X.A.units + 64 < cLine) : CallR X (.builtin "repr") (rRepr0 X.K) := by
  rintro pins s σ H xs us Q I rv ⟨x, d, rfl, dp, h1, h2, h3, h4, h5⟩
  obtain ⟨u, rfl, rx⟩ := vals1 rv
  have fin : ∀ (t : Tok) (h' : Heap) (tk : Nat), (∀ b o, s.heap.get? b = some o → h'.get? b = some o) → EP X pins σ Q (.str (PyData.shown d) t) { s with heap := h', toks := tk } := fun t h' tk hk => ⟨.str _, H, I.kept (t' := tk) hk, ⟨t, rfl⟩, h5⟩
  cases dp with
  | non => cases rx; exact PySem.P.repr_of_none (fin _ s.heap _ fun _ _ h => h)
  | bl b => cases rx; exact PySem.P.repr_of_bool (fin _ s.heap _ fun _ _ h => h)
  | int i =>
    obtain ⟨t, rfl⟩ := rx
    exact PySem.P.repr_of_int (by simpa [PyData.showable] using h1) (fin _ s.heap _ fun _ _ h => h)
  | str z =>
    obtain ⟨t, rfl⟩ := rx
    exact PySem.P.repr_of_str (fin _ s.heap _ fun _ _ h => h) h4
  | lst hs ha =>
    obtain ⟨as, rd⟩ := Dp.reads I _ _ _ (Dp.lst hs ha) rx
    cases rx
    exact repr_of_reads' rd h1 (fun z => by rw [h2] at z; cases z) gd (by omega) (fun _ _ h => h) (fun h' u tk hk => fin u h' tk hk) h4
  | tup hs ha =>
    obtain ⟨as, rd⟩ := Dp.reads I _ _ _ (Dp.tup hs ha) rx
    cases rx
    exact repr_of_reads' rd h1 (fun z => by rw [h2] at z; cases z) gd (by omega) (fun _ _ h => h) (fun h' u tk hk => fin u h' tk hk) h4
/-- of {} -/
theorem call_repr_dct (gd : X.A.guards = some []) (hu : X.A.units + 64 < cLine) : CallR X (.builtin "repr") (fun xs H Q => ∃ a, xs = [.ref a] ∧ H a = some (.dK []) ∧ Q (.str (PyData.shown (.dict []))) H) := by
  rintro pins s σ H xs us Q I rv ⟨a, rfl, h, q⟩
  obtain ⟨u, rfl, rx⟩ := vals1 rv
  cases rx
  obtain ⟨_, hns, vs, kv, o, es, ep, ho, hx, hd, _, hp, _⟩ := I.hok a _ h
  cases kv
  have he : es.toList = [] := by
    cases hz : es.toList with
    | nil => rfl
    | cons e r => rw [hz] at hp; cases hp
  have rd : Reads s.heap (.ref a) (.dict []) (a :: [] ++ []) := Reads.dict (kvs := []) ho hx.1 hd (by rw [he]; exact .nil) (by rw [he]; exact .nil)
  refine repr_of_reads' rd (by decide +kernel) (fun _ z => ?_) gd (by show X.A.units + 2 < cLine; omega) (fun _ _ h => h) (fun h' u tk hk => ⟨.str _, H, I.kept (t' := tk) hk, ⟨u, rfl⟩, q⟩) (by decide +kernel)
  have e : sysModules = a := by simpa using z
  rw [← e] at hns
  simp at hns
def rRepr (K : PySem.W.Frag) : List V → Hp → VK → Prop := fun xs H Q => rRepr0 K xs H Q ∨ ∃ a, xs = [.ref a] ∧ H a = some (.dK []) ∧ Q (.str (PyData.shown (.dict []))) H
theorem call_reprH (gd : X.A.guards = some []) (hu : X.A.units + 64 < cLine) : CallR X (.builtin "repr") (rRepr X.K) := CallR.or (call_repr0 gd hu) (call_repr_dct gd hu)
theorem call_reprD {k : Nat} (hr : RoomG k X.A) : CallR X (.builtin "repr") (rRepr X.K) := call_reprH hr.gd hr.rm.units
def isDct : D → Bool
  | .dct => true
  | _ => false
def reprD : PNf := fun ds Q => match ds with
  | [d] => (isDct d || okR 40 d) = true ∧ szOk (shownD d).length ∧ Q (.val (.str (shownD d)))
  | _ => False
theorem p_repr : PN T (rRepr T.K) reprD := by
  intro e F H δ σ xs ds Qd Q S i h k
  unfold reprD at h
  split at h
  · rename_i d
    obtain ⟨v, rfl, h1⟩ := i.oneE
    cases hd : isDct d with
    | true =>
      cases d <;> first | (cases hd; done) | skip
      unfold Is at h1
      obtain ⟨a, rfl, h2⟩ := h1
      refine .inr ⟨a, rfl, S.sub _ _ h2, ?_⟩
      have e : shownD .dct = PyData.shown (.dict []) := by unfold shownD toP; rfl
      rw [e] at h
      exact kstr S k h.2.2
    | false =>
      rw [hd] at h
      obtain ⟨⟨g1, g2⟩, g3⟩ := okR_ok 40 _ h.1
      exact .inl ⟨v, _, rfl, is_dpR S.sub 40 _ v h.1 h1, g1, g2, g3, h.2.1, kstr S k h.2.2⟩
  · exact h.elim
end
end DD
namespace DD
open PySem L2 PyProof.Rows PySem.W
/-! ### what the text's own classes give to operators -/
/-- the type of a tree -/
def tyV (T : Tb) : D → Value
  | .non => .type "NoneType"
  | .bl _ => .type "bool"
  | .int _ => .type "int"
  | .str _ => .type "str"
  | .lst _ => .type "list"
  | .tup _ => .type "tuple"
  | .ins c _ => .ref (T.ca c)
  | .scr _ => .type "list"
  | .dct => .type "dict"
  | .fn _ => .type "function"
def noFn : D → Bool
  | .fn _ => false
  | _ => true
/-- below the running body, with room -/
structure SubG (X : Cx) (k : Nat) (A : Around) : Prop where
  rm : RoomG k A
  fr : A.frames = X.A.frames
section
variable {X : Cx} {T : Tb} {e : En} {F H : Hp} {δ : DEnv} {σ : L2.St} {pins : List (Addr × Obj)} {s : Shared} {A : Around}
theorem ty_looks {v : V} {u : Value} {d : D} (hK : T.K = X.K) (I : Inv X pins σ H s) (S : Le F H) (i : Is T F v d) (rv : RelV v u) (hf : noFn d = true) : Looks (model X.prog X.w) s.heap (typeOf u) (tyV T d) := by
  cases d with
  | non => cases i.nonE; cases rv; exact Looks.of_pure rfl
  | bl b => cases i.blE; cases rv; exact Looks.of_pure rfl
  | int b => cases i.intE; obtain ⟨t, rfl⟩ := rv; exact Looks.of_pure rfl
  | str b => cases i.strE; obtain ⟨t, rfl⟩ := rv; exact Looks.of_pure rfl
  | lst b =>
    obtain ⟨a, vs, rfl, h1, h2⟩ := i.lstE; cases rv
    obtain ⟨z, its, k, r, q⟩ := I.hok a _ (S _ _ h1)
    exact (Looks.ld (part := none) q).andThen .now
  | tup b =>
    obtain ⟨a, vs, rfl, h1, h2⟩ := i.tupE; cases rv
    rw [hK] at h1
    obtain ⟨its, r, q, z⟩ := I.tuple (sqT_mono S h1)
    obtain ⟨o, ho, hc, n, hd⟩ := q
    show Looks _ _ _ (Value.type "tuple")
    rw [← hc]
    exact (Looks.ld (part := none) ho).andThen .now
  | ins c ds =>
    obtain ⟨a, dx, vs, rfl, h1, _, h2⟩ := i.insE; cases rv
    obtain ⟨mA, J, _⟩ := ins_get I.hok (S _ _ h1)
    obtain ⟨od, J, _⟩ := J.look
    exact J.type
  | fn n => cases hf
  | dct =>
    unfold Is at i
    obtain ⟨a, rfl, h1⟩ := i; cases rv
    obtain ⟨_, _, vs, _, o, es, ep, g1, g2, _⟩ := (show ObjOk X.prog X.w H s.heap a (.dK []) from I.hok a _ (S _ _ h1))
    show Looks _ _ _ (Value.type "dict")
    rw [← g2.1]
    exact (Looks.ld (part := none) g1).andThen .now
  | scr ns =>
    unfold Is at i
    obtain ⟨a, rfl, h1⟩ := i; cases rv
    have h2 : SqL X.K H a (ns.map V.int) := hK ▸ h1.elim (fun q => .inl (q.elim (fun q => .inl (S _ _ q)) fun ⟨o, q⟩ => .inr ⟨o, S _ _ q⟩)) .inr
    obtain ⟨its, r, q, z⟩ := I.list h2
    obtain ⟨o, n1, ho, hc, hdn, hd⟩ := q
    show Looks _ _ _ (Value.type "list")
    rw [← hc]
    exact (Looks.ld (part := none) ho).andThen .now
/-- a call from below -/
theorem callA {CX : CXT} {k : Nat} {f : Addr} {fd : FuncData} {ps : List Str} {sp : Sp} {dvs : List V} {ds : List Value} {E : XK} (G : FnG X.prog X.w X.K X.mg X.base CX k f fd ps sp) (sb : SubG X k A) (hb : Binds X.K fd ps ds) (hd : Vals dvs ds) (hx : Passes CX X E)
    {vs : List V} {us : List Value} {Q : VK} (I : Inv X pins σ H s) (rv : Vals vs us) (h : sp (vs ++ dvs) H Q E) :
    wpAny (model X.prog X.w) A (call (.ref f) us) (fun u s' => ∃ v H', Inv X pins σ H' s' ∧ RelV v u ∧ Q v H') X.xe s := by
  have rw2 := Vals.append rv hd
  have hlen : (us ++ ds).length = ps.length := rw2.length.symm.trans (G.len _ _ _ _ h)
  have e0 : Env0 X.prog X.w X.K X.mg X.base A X.stack s H := by
    have q := I.env0
    exact ⟨by rw [sb.fr]; exact q.frames, q.mod, q.bs, q.bsz, q.funs, q.frf, q.hok, q.bare⟩
  have run := G.run A X.stack s H ⟨us, []⟩ (us ++ ds) (vs ++ dvs) Q E sb.rm e0 (hb s us I.kIn hlen) rw2 h
  refine wpAny_call (codeAny_mono run ?_)
  rintro (x | fl) s' q
  · exact hx pins σ H s x s' I q
  · cases fl with
    | ret u =>
      exact I.after q
    | next => exact q.elim
    | brk => exact q.elim
    | cont => exact q.elim
end
/-- an own special method: of the class at C -/
structure Spc (K : PySem.W.Frag) (C : Addr) (m : Str) (f : Addr) : Prop where
  hs : PySem.W.findIn K (.ref C) m = some (some (.ref f))
  hf : PySem.W.isFn K (.ref f) = true
/-- a known method: its promise is f's -/
structure MF (X : Cx) (T : Tb) (k : Nat) (c : Nat) (m : Str) (sp : FS) : Prop where
  ex : ∃ (g : Addr) (fd : FuncData) (ps : List Str) (CX : CXT) (E : XK), Spc X.K (T.ca c) m g ∧ FnG X.prog X.w X.K X.mg X.base CX k g fd ps (liftSp T sp) ∧ Binds X.K fd ps [] ∧ Passes CX X E
section
variable {X : Cx} {T : Tb} {k : Nat}
/-- one argument, or two, of an own special method: what it leaves -/
theorem MF.run {c : Nat} {m : Str} {sp : FS} (M : MF X T k c m sp) : ∃ g : Addr, Spc X.K (T.ca c) m g ∧ ∀ {A : Around} {pins : List (Addr × Obj)} {s : Shared} {e : En} {F H : Hp} {δ : DEnv} {σ : L2.St} {vs : List V} {us : List Value} {ds : List D} {Qd : D → Prop},
    SubG X k A → Inv X pins σ H s → Sim T e F δ σ H → IsL T F vs ds → Vals vs us → sp (ds.map SV.val) Qd →
    wpAny (model X.prog X.w) A (call (.ref g) us) (fun u s' => ∃ v H' F' d, Inv X pins σ H' s' ∧ RelV v u ∧ Sim T e F' δ σ H' ∧ Le F F' ∧ Is T F' v d ∧ Qd d) X.xe s := by
  obtain ⟨g, fd, ps, CX, E, hS, hG, hb, hx⟩ := M.ex
  refine ⟨g, hS, fun {A pins s e F H δ σ vs us ds Qd} sb I S i rv h => ?_⟩
  have ra : RelA T F H vs (ds.map SV.val) := by
    have := RelA.app (H := H) (vs := []) (svs := []) (T := T) trivial i
    simpa using this
  have hc : cntBag (ds.map SV.val) = 0 := by
    have := cntBag_app [] ds
    simpa [cntBag] using this
  have hnb : ∀ b, ¬ bagsOf vs (ds.map SV.val) b := fun b ⟨i, h1, _⟩ => cntBag_no hc h1
  have hsp : liftSp T sp (vs ++ []) H (fun v H' => ∃ F' d, Sim T e F' δ σ H' ∧ Le F F' ∧ Is T F' v d ∧ Qd d) E := by
    rw [List.append_nil]
    refine ⟨F, ds.map SV.val, Qd, S.subT, ra, by rw [hc]; decide, h, fun v H' F' d g i' q => ?_⟩
    exact ⟨F', d, S.grow (bagsOf vs (ds.map SV.val)) (fun b hb => (hnb b hb).elim) g.le g.sub g.new g.keep g.bags g.tabs, g.le, i', q⟩
  refine wpAny_mono (callA (dvs := []) (ds := []) hG sb hb .nil hx I rv hsp) (fun u s' ⟨v, H', J, r, F', d, S', l, i', q⟩ => ⟨v, H', F', d, J, r, S', l, i', q⟩) fun _ _ q => q
end
end DD
namespace DD
open PySem L2 PyProof.Rows PySem.W
/-- the promise, with what is known of the arguments -/
def rMF (T : Tb) (sp : FS) (ok : List D → Prop) : List V → Hp → VK → Prop := fun vs H Q => ∃ F ds Qd, LeT T F H ∧ IsL T F vs ds ∧ ok ds ∧ sp (ds.map SV.val) Qd ∧ ∀ v H' F' d, Grow T (fun _ => False) F H F' H' → Is T F' v d → Qd d → Q v H'
section
variable {X : Cx} {T : Tb} {k c : Nat} {m : Str} {sp : FS} {e : En} {F H : Hp} {δ : DEnv} {σ : L2.St} {pins : List (Addr × Obj)} {s : Shared} {A : Around}
theorem MF.go (M : MF X T k c m sp) : ∃ g : Addr, Spc X.K (T.ca c) m g ∧ ∀ {A : Around} {pins : List (Addr × Obj)} {s : Shared} {F H : Hp} {σ : L2.St} {vs : List V} {us : List Value} {ds : List D} {Qd : D → Prop} {Q : VK},
    SubG X k A → Inv X pins σ H s → LeT T F H → IsL T F vs ds → Vals vs us → sp (ds.map SV.val) Qd → (∀ v H' F' d, Grow T (fun _ => False) F H F' H' → Is T F' v d → Qd d → Q v H') →
    wpAny (model X.prog X.w) A (call (.ref g) us) (fun u s' => ∃ v H', Inv X pins σ H' s' ∧ RelV v u ∧ Q v H') X.xe s := by
  obtain ⟨g, fd, ps, CX, E, hS, hG, hb, hx⟩ := M.ex
  refine ⟨g, hS, fun {A pins s F H σ vs us ds Qd Q} sb I S i rv h hq => ?_⟩
  have ra : RelA T F H vs (ds.map SV.val) := by
    have := RelA.app (H := H) (vs := []) (svs := []) (T := T) trivial i
    simpa using this
  have hc : cntBag (ds.map SV.val) = 0 := by
    have := cntBag_app [] ds
    simpa [cntBag] using this
  have hnb : ∀ b, ¬ bagsOf vs (ds.map SV.val) b := fun b ⟨i, h1, _⟩ => cntBag_no hc h1
  refine callA (dvs := []) (ds := []) hG sb hb .nil hx I rv ?_
  rw [List.append_nil]
  exact ⟨F, ds.map SV.val, Qd, S, ra, by rw [hc]; decide, h, fun v H' F' d g i' q => hq v H' F' d ⟨g.le, g.sub, g.new, fun b o z _ ht => g.keep b o z (hnb b) ht, fun _ z => z.elim, g.tabs⟩ i' q⟩
theorem vals2 {v w : V} {u t : Value} (a : RelV v u) (b : RelV w t) : Vals [v, w] [u, t] := .cons a (.cons b .nil)
/-- the promise from a Sim -/
theorem rMF_of {vs : List V} {ds : List D} {ok : List D → Prop} {Q : VK} {Qd : SV → Prop} (S : Sim T e F δ σ H) (i : IsL T F vs ds) (ho : ok ds) (h : sp (ds.map SV.val) fun d => Qd (.val d)) (k : Kont T e F δ σ Qd Q) : rMF T sp ok vs H Q :=
  ⟨F, ds, _, S.subT, i, ho, h, fun v H' F' d gr i' q => k v H' F' (.val d) (S.grow (fun _ => False) (fun _ z => z.elim) gr.le gr.sub gr.new gr.keep gr.bags gr.tabs) gr.le i' q⟩
/-! ### == and != -/
/-- the first is of the class, the second's class is no heir of it -/
def okEq (T : Tb) (K : PySem.W.Frag) (c : Nat) : List D → Prop
  | [.ins c' _, d] => c' = c ∧ (PySem.W.notFirst K (T.ca c) (tyV T d) = true ∧ noFn d = true)
  | _ => False
theorem own_at {F : Hp} {x : V} {u : Value} {ds : List D} (I : Inv X pins σ H s) (S : LeT T F H) (i : Is T F x (.ins c ds)) (rv : RelV x u) : ∃ (a : Addr) (ox : Obj) (od : Option Obj), u = .ref a ∧ x = .ref a ∧ InstAt s.heap a ox (T.ca c) od ∧ ox.data = .plain := by
  obtain ⟨a, dx, vs, rfl, h1, _, h2⟩ := i.insE; cases rv
  obtain ⟨mA, J, _⟩ := ins_get I.hok (S.1 _ _ h1)
  obtain ⟨od, J, _⟩ := J.look
  exact ⟨a, _, _, rfl, rfl, J, rfl⟩
theorem rv_cmp {A : Around} {B : Around} {t : Sem Value} {Q : VK} (h : wpAny (model X.prog X.w) B t (fun u s' => ∃ v H', Inv X pins σ H' s' ∧ RelV v u ∧ Q v H') X.xe s) : wpAny (model X.prog X.w) B t (W.CmpBack (EP X pins σ Q)) X.xe s :=
  wpAny_mono h (fun u s' ⟨v, H', I', r, q⟩ => by
    cases u <;> first | exact ⟨v, H', I', r, q⟩ | (cases v <;> first | (obtain ⟨_, r⟩ := r; cases r) | cases r)) fun _ _ z => z
theorem okEq_ex {K : PySem.W.Frag} {ds : List D} (h : okEq T K c ds) : ∃ es d, ds = [.ins c es, d] ∧ PySem.W.notFirst K (T.ca c) (tyV T d) = true ∧ noFn d = true := by
  unfold okEq at h
  split at h
  · obtain ⟨rfl, h⟩ := h; exact ⟨_, _, rfl, h⟩
  · exact h.elim
theorem op_eqO (hK : T.K = X.K) (M : MF X T k c "__eq__" sp) (hr : RoomG k X.A) : OpR X (compareOp .Eq) (fun x y => rMF T sp (okEq T X.K c) [x, y]) := by
  obtain ⟨g, hS, run⟩ := M.go
  intro pins s σ H x y v u Q I rx ry ⟨F, ds, Qd, S, i, ho, h, hq⟩
  show wpAny (model X.prog X.w) X.A (richCompare .Eq v u) (EP X pins σ Q) X.xe s
  obtain ⟨es, d, rfl, hn, hfn⟩ := okEq_ex ho
  obtain ⟨x', y', e1, ix, iy⟩ := i.two
  cases e1
  obtain ⟨a, ox, od, rfl, rfl, J, hpl⟩ := own_at I S ix rx
  obtain ⟨mm, hF⟩ := I.fr
  refine cmp_K (op := .Eq) hr.rm.units0 hF I.ok.mod.kin J (ty_looks hK I S.1 iy ry hfn) hn hS.hs hS.hf ?_
  exact rv_cmp (A := X.A) (run ⟨hr, rfl⟩ I S i (vals2 rx ry) h hq)
/-- the class has object's own != -/
structure NeOk (K : PySem.W.Frag) (C : Addr) : Prop where
  ne : PySem.W.findIn K (.ref C) "__ne__" = some (some (.builtin "object.__ne__"))
  ob : PySem.W.mroIn K C (.type "object") = some true
theorem ne_call {A : Around} {x C g : Addr} {ox : Obj} {od : Option Obj} {b : Value} {Q : Value → Shared → Prop} {E : Value → Shared → Prop} (hu : A.in1.units < cLine) (kx : X.K.In s.heap) (J : InstAt s.heap x ox C od) (hO : NeOk X.K C)
    (hs : PySem.W.findIn X.K (.ref C) "__eq__" = some (some (.ref g))) (hf : PySem.W.isFn X.K (.ref g) = true)
    (h : wpAny (model X.prog X.w) A.in1 (call (.ref g) [.ref x, b]) (fun v s' => ∃ r, v = .bool r ∧ Q (.bool (!r)) s') E s) :
    wpAny (model X.prog X.w) A (tryCompare (.ref x) "__ne__" b) (fun r s' => ∃ v, r = some v ∧ Q v s') E s := by
  have run : wpAny (model X.prog X.w) A (call (.builtin "object.__ne__") [.ref x, b]) (fun v s' => ∃ r, v = .bool r ∧ Q v s') E s := by
    refine wpAny_call (codeAny_call_builtin PySem.F.cmp_object.ne.plain PySem.F.cmpEntry_ne (@check_slot (model X.prog X.w) _ _ s "object.__ne__" "object" "__ne__" (.ref x) [b] [] _ PySem.F.cmpKind_ne PySem.F.cmpSplit_ne (J.type.andThen (looks_mroIn kx hO.ob)) (PySem.F.cmpArgs_ne _ _) ?_))
    unfold Builtin.«object.__ne__»
    refine wpAny_bind (wpAny_pure ?_)
    refine wpAny_bind (wpAny_cRoomFor hu ?_)
    refine wpAny_bind (ifBound_K kx J hs hf (wpAny_mono h (fun v s' hv => ?_) fun _ _ z => z))
    obtain ⟨r, rfl, q⟩ := hv
    exact wpAny_bind (wpAny_truthy_bool (wpAny_pure ⟨_, rfl, q⟩))
  simp only [tryCompare, callSpecialIfBound?, bindSpecialIfBound?]
  refine wpAny_bind (wpAny_holding (wpAny_bind (wpAny_bind (wpAny_bind (J.type.here ((looks_findIn kx hO.ne).here ?_))))))
  simp only [PySem.F.cmp_object.ne.bind]
  refine wpAny_bind (wpAny_askSetting (wpAny_ite ?_))
  have fin : wpAny (model X.prog X.w) A (call (.builtin "object.__ne__") ([.ref x] ++ [b]) >>= fun v => pure (some v)) (fun r s' => ∃ v w, r = some v ∧ v = .bool w ∧ Q v s') E s :=
    wpAny_bind (wpAny_mono run (fun v s' ⟨r, h1, h2⟩ => wpAny_pure ⟨_, _, rfl, h1, h2⟩) fun _ _ z => z)
  split
  · refine wpAny_bind (wpAny_pure (wpAny_pure (wpAny_mono fin ?_ fun _ _ z => z)))
    rintro r s' ⟨v, w, rfl, rfl, q⟩
    exact wpAny_pure ⟨_, rfl, q⟩
  · refine wpAny_tryCatch (wpAny_bind (wpAny_pure (wpAny_pure (wpAny_mono fin ?_ fun _ _ z => z))))
    rintro r s' ⟨v, w, rfl, rfl, q⟩
    exact wpAny_pure ⟨_, rfl, q⟩
/-- what == leaves for != -/
def nebD (sp : FS) : FS := fun svs Q => sp svs fun d => match d with
  | .bl b => Q (.bl (!b))
  | _ => False
theorem op_neO (hK : T.K = X.K) (M : MF X T k c "__eq__" sp) (hO : NeOk X.K (T.ca c)) (hr : RoomG (k + 1) X.A) : OpR X (compareOp .NotEq) (fun x y => rMF T (nebD sp) (okEq T X.K c) [x, y]) := by
  obtain ⟨g, hS, run⟩ := M.go
  intro pins s σ H x y v u Q I rx ry ⟨F, ds, Qd, S, i, ho, h, hq⟩
  show wpAny (model X.prog X.w) X.A (richCompare .NotEq v u) (EP X pins σ Q) X.xe s
  obtain ⟨es, d, rfl, hn, hfn⟩ := okEq_ex ho
  obtain ⟨x', y', e1, ix, iy⟩ := i.two
  cases e1
  obtain ⟨a, ox, od, rfl, rfl, J, hpl⟩ := own_at I S ix rx
  have one : wpAny (model X.prog X.w) X.A (tryCompare (.ref a) "__ne__" u) (fun r s' => ∃ v, r = some v ∧ EP X pins σ Q v s') X.xe s := by
    refine ne_call (X := X) hr.rm.in1.units0 I.kIn J hO hS.hs hS.hf ?_
    have sb : SubG X k X.A.in1 := ⟨⟨hr.rm.in1, hr.gd⟩, rfl⟩
    refine wpAny_mono (run (Q := fun v H' => ∃ b, v = .bl b ∧ Q (.bl (!b)) H') sb I S i (vals2 rx ry) h fun v H' F' d gr i' q => ?_) (fun w s' ⟨v, H', I', r, b, e1, q⟩ => ?_) fun _ _ z => z
    · cases d <;> first | exact q.elim | skip
      cases i'.blE
      exact ⟨_, rfl, hq _ H' F' _ gr Is.bl q⟩
    · cases e1
      exact ⟨b, r, .bl (!b), H', I', rfl, q⟩
  have hb := ty_looks hK I S.1 iy ry hfn
  unfold richCompare
  simp only [oneThing_ref]
  refine wpAny_holding (wpAny_bind (wpAny_cRoomFor hr.rm.units0 ?_))
  refine wpAny_bind (J.type.here (wpAny_bind (hb.here ?_)))
  by_cases hT : (Value.ref (T.ca c) != tyV T d) = true
  · have hS2 : PySem.W.subIn X.K (tyV T d) (.ref (T.ca c)) = some false := by
      rcases Bool.or_eq_true_iff.mp hn with hz | hz
      · rw [beq_iff_eq.mp hz] at hT; simp at hT
      · exact beq_iff_eq.mp hz
    rw [if_pos hT]
    refine wpAny_bind ((looks_subIn I.kIn hS2).here ?_)
    rw [if_neg (by decide)]
    exact wpAny_bind (wpAny_mono one (fun r s' ⟨w, hw, hz⟩ => by subst hw; exact wpAny_pure hz) fun _ _ hz => hz)
  · rw [if_neg hT]
    refine wpAny_bind (wpAny_pure ?_)
    rw [if_neg (by decide)]
    exact wpAny_bind (wpAny_mono one (fun r s' ⟨w, hw, hz⟩ => by subst hw; exact wpAny_pure hz) fun _ _ hz => hz)
end
end DD
namespace DD
open PySem L2 PyProof.Rows PySem.W
section
variable {X : Cx} {T : Tb} {k c : Nat} {m : Str} {sp : FS} {e : En} {F H : Hp} {δ : DEnv} {σ : L2.St} {pins : List (Addr × Obj)} {s : Shared} {A : Around}
/-! ### len, str, - -/
def okIns (c : Nat) : List D → Prop
  | [.ins c' _] => c' = c
  | _ => False
theorem okIns_ex {ds : List D} (h : okIns c ds) : ∃ es, ds = [.ins c es] := by
  unfold okIns at h
  split at h
  · subst h; exact ⟨_, rfl⟩
  · exact h.elim
/-- a length fits -/
def lenS (sp : FS) : FS := fun svs Q => sp svs fun d => match d with
  | .int n => (0 ≤ n ∧ n < 2 ^ 63) ∧ Q (.int n)
  | _ => False
def strS (sp : FS) : FS := fun svs Q => sp svs fun d => match d with
  | .str n => Q (.str n)
  | _ => False
theorem call_lenO (M : MF X T k c "__len__" sp) (hr : RoomG (k + 1) X.A) : CallR X (.builtin "len") (rMF T (lenS sp) (okIns c)) := by
  obtain ⟨g, hS, run⟩ := M.go
  intro pins s σ H xs us Q I rv ⟨F, ds, Qd, S, i, ho, h, hq⟩
  obtain ⟨es, rfl⟩ := okIns_ex ho
  obtain ⟨x, rfl, ix⟩ := i.oneE
  obtain ⟨u, rfl, rx⟩ := vals1 rv
  obtain ⟨a, ox, od, rfl, rfl, J, hpl⟩ := own_at I S ix rx
  obtain ⟨mm, hF⟩ := I.fr
  have sb : SubG X k X.A.in1 := ⟨⟨hr.rm.in1, hr.gd⟩, rfl⟩
  refine len_K hF I.ok.mod.kin J hS.hs hS.hf ?_
  refine wpAny_mono (run (Q := fun v H' => ∃ n, v = .int n ∧ (0 ≤ n ∧ n < 2 ^ 63) ∧ Q (.int n) H') sb I S i rv h fun v H' F' d gr i' q => ?_) (fun w s' ⟨v, H', I', r, n, e1, q1, q2⟩ => ?_) fun _ _ z => z
  · cases d <;> first | exact q.elim | skip
    cases i'.intE
    exact ⟨_, rfl, q.1, hq _ H' F' _ gr Is.int q.2⟩
  · subst e1
    obtain ⟨t, rfl⟩ := r
    exact ⟨q1, .int n, H', I'.tok _, ⟨_, rfl⟩, q2⟩
theorem call_strO (M : MF X T k c "__str__" sp) (hr : RoomG (k + 2) X.A) : CallR X (.type "str") (rMF T (strS sp) (okIns c)) := by
  obtain ⟨g, hS, run⟩ := M.go
  intro pins s σ H xs us Q I rv ⟨F, ds, Qd, S, i, ho, h, hq⟩
  obtain ⟨es, rfl⟩ := okIns_ex ho
  obtain ⟨x, rfl, ix⟩ := i.oneE
  obtain ⟨u, rfl, rx⟩ := vals1 rv
  obtain ⟨a, ox, od, rfl, rfl, J, hpl⟩ := own_at I S ix rx
  have sb : SubG X k X.A.in1.in1 := ⟨⟨hr.rm.in1.in1, hr.gd⟩, rfl⟩
  refine kso_call hr.rm.in1.in1.units0 I.kIn J hS.hs hS.hf ?_
  refine wpAny_mono (run (Q := fun v H' => ∃ n, v = .str n ∧ Q (.str n) H') sb I S i rv h fun v H' F' d gr i' q => ?_) (fun w s' ⟨v, H', I', r, n, e1, q2⟩ => ?_) fun _ _ z => z
  · cases d <;> first | exact q.elim | skip
    cases i'.strE
    exact ⟨_, rfl, hq _ H' F' _ gr Is.str q⟩
  · subst e1
    obtain ⟨t, rfl⟩ := r
    exact ⟨.str n, H', I', ⟨_, rfl⟩, q2⟩
theorem un_negO (M : MF X T k c "__neg__" sp) (hr : RoomG k X.A) : UnR X (unaryOp .USub) (fun x => rMF T sp (okIns c) [x]) := by
  obtain ⟨g, hS, run⟩ := M.go
  intro pins s σ H x u Q I rx ⟨F, ds, Qd, S, i, ho, h, hq⟩
  obtain ⟨es, rfl⟩ := okIns_ex ho
  obtain ⟨x', e1, ix⟩ := i.oneE
  cases e1
  obtain ⟨a, ox, od, rfl, rfl, J, hpl⟩ := own_at I S ix rx
  obtain ⟨mm, hF⟩ := I.fr
  exact ksp_neg hF I.ok.mod.kin J hS.hs hS.hf (run ⟨hr, rfl⟩ I S i (.cons rx .nil) h hq)
/-! ### + - * -/
/-- what the class must be for its own operators -/
structure BinOk (K : PySem.W.Frag) (C : Addr) (nm : String) : Prop where
  sf : PySem.W.selfFirst K C = true
  rf : ∃ rc, PySem.W.findIn K (.ref C) (dunderR nm) = some rc ∧ (rc = none ∨ ∃ g : Addr, rc = some (.ref g))
/-- both of the class -/
def okTwo (c : Nat) : List D → Prop
  | [.ins c' _, .ins c'' _] => c' = c ∧ c'' = c
  | _ => False
theorem okTwo_ex {ds : List D} (h : okTwo c ds) : ∃ es es', ds = [.ins c es, .ins c es'] := by
  unfold okTwo at h
  split at h
  · obtain ⟨rfl, rfl⟩ := h; exact ⟨_, _, rfl⟩
  · exact h.elim
theorem bin_two {op : Operator} {x y C g : Addr} {ox oy : Obj} {od od' : Option Obj} {Q E : Value → Shared → Prop} (kx : X.K.In s.heap) (J : InstAt s.heap x ox C od) (J' : InstAt s.heap y oy C od') (hO : BinOk X.K C op.info.2)
    (hs : PySem.W.findIn X.K (.ref C) (PySem.dunder op.info.2) = some (some (.ref g))) (hf : PySem.W.isFn X.K (.ref g) = true)
    (h : wpAny (model X.prog X.w) A (call (.ref g) [.ref x, .ref y]) (W.CmpBack Q) E s) : wpAny (model X.prog X.w) A (binaryOp op (.ref x) (.ref y)) Q E s := by
  obtain ⟨cd, rest, hcd, hm⟩ := ksp_first hO.sf
  have one := ksp_try kx J hs hf h
  rcases hi : op.info with ⟨sym, nm⟩
  rw [hi] at hs
  rw [hi] at one
  have a1 : Looks (model X.prog X.w) s.heap (typeOf (.ref x)) (.ref C) := J.type
  have a2 : Looks (model X.prog X.w) s.heap (typeOf (.ref y)) (.ref C) := J'.type
  have a3 : Looks (model X.prog X.w) s.heap (fillsNumberSlot (.ref C) nm) true := fills_K kx hcd hm hs
  simp only [binaryOp, hi]
  refine wpAny_holding (wpAny_bind ?_)
  unfold binaryOp1
  refine wpAny_bind (a1.here (wpAny_bind (a2.here (wpAny_bind (a3.here ?_)))))
  rw [if_pos (beq_self_eq_true _)]
  refine wpAny_bind (wpAny_pure ?_)
  simp only [Bool.and_false, Bool.false_and, Bool.false_eq_true, if_false, pure_bind]
  rw [if_pos trivial]
  refine wpAny_bind (wpAny_mono one (fun r s' ⟨w, hw, hz⟩ => ?_) fun _ _ hz => hz)
  subst hw
  exact wpAny_pure (wpAny_pure hz)
theorem op_two {op : Operator} {mn : Str} (hmn : PySem.dunder op.info.2 = mn) (M : MF X T k c mn sp) (hO : BinOk X.K (T.ca c) op.info.2) (hr : RoomG k X.A) : OpR X (binaryOp op) (fun x y => rMF T sp (okTwo c) [x, y]) := by
  subst hmn
  obtain ⟨g, hS, run⟩ := M.go
  intro pins s σ H x y v u Q I rx ry ⟨F, ds, Qd, S, i, ho, h, hq⟩
  obtain ⟨es, es', rfl⟩ := okTwo_ex ho
  obtain ⟨x', y', e1, ix, iy⟩ := i.two
  cases e1
  obtain ⟨a, ox, od, rfl, rfl, J, hpl⟩ := own_at I S ix rx
  obtain ⟨b, oy, od', rfl, rfl, J', hpl'⟩ := own_at I S iy ry
  exact bin_two I.kIn J J' hO hS.hs hS.hf (rv_cmp (A := X.A) (run ⟨hr, rfl⟩ I S i (vals2 rx ry) h hq))
/-- the second an int -/
def okLeft (c : Nat) : List D → Prop
  | [.ins c' _, .int _] => c' = c
  | _ => False
theorem okLeft_ex {ds : List D} (h : okLeft c ds) : ∃ es n, ds = [.ins c es, .int n] := by
  unfold okLeft at h
  split at h
  · subst h; exact ⟨_, _, rfl⟩
  · exact h.elim
theorem op_left {op : Operator} {mn : Str} {fo ro : Option Value} (hmn : PySem.dunder op.info.2 = mn) (M : MF X T k c mn sp) (hO : BinOk X.K (T.ca c) op.info.2) (hr : RoomG k X.A)
    (h1 : PySem.W.findIn X.K (.type "int") (PySem.dunder op.info.2) = some fo) (h2 : PySem.W.findIn X.K (.type "int") (dunderR op.info.2) = some ro) (hsub : PySem.W.subIn X.K (.type "int") (.ref (T.ca c)) = some false) : OpR X (binaryOp op) (fun x y => rMF T sp (okLeft c) [x, y]) := by
  subst hmn
  obtain ⟨g, hS, run⟩ := M.go
  intro pins s σ H x y v u Q I rx ry ⟨F, ds, Qd, S, i, ho, h, hq⟩
  obtain ⟨es, n, rfl⟩ := okLeft_ex ho
  obtain ⟨x', y', e1, ix, iy⟩ := i.two
  cases e1
  obtain ⟨a, ox, od, rfl, rfl, J, hpl⟩ := own_at I S ix rx
  cases iy.intE
  obtain ⟨t, rfl⟩ := id ry
  obtain ⟨mm, hF⟩ := I.fr
  obtain ⟨rc, r1, r2⟩ := hO.rf
  exact ksp_binT (T := "int") hF I.ok.mod.kin J rfl hO.sf hS.hs hS.hf r1 r2 h1 h2 hsub (rv_cmp (A := X.A) (run ⟨hr, rfl⟩ I S i (vals2 rx ry) h hq))
/-- the first an int, the second of the class -/
def okRight (c : Nat) : List D → Prop
  | [.ins c' _, .int _] => c' = c
  | _ => False
/-- the built-in operator of ints, which has no answer for the other value -/
def NoOf (id : String) : Prop := ∀ (prog : Program) (w : World) (A : Around) (s : Shared) (a : Int) (t : Tok) (b : Addr) (ob : Obj) (Q E : Value → Shared → Prop), s.heap.get? b = some ob → ob.data = .plain → Q .notImplemented s → wpAny (model prog w) A (call (.builtin id) [.int a t, .ref b]) Q E s
theorem no_of {id : String} {name : Str} {B : Builtin} (p : Slot "int" name id) (e : entryFor table id = some B) (ar : ∀ a b : Value, argsOk id ⟨[a, b], []⟩)
    (h : ∀ (M : Model) (A : Around) (E : Value → Shared → Prop) (Q : Fin → Shared → Prop) (s : Shared) (a : Int) (t : Tok) (b : Addr) (oc : Value) (odi : Option Addr) (osl : Array (Option Value)), s.heap.get? b = some ⟨oc, odi, .plain, osl⟩ → Q (.done (.ret .notImplemented)) s → wpAny M A (B ⟨[.int a t, .ref b], []⟩) Q E s) : NoOf id := by
  intro prog w A s a t b ob Q E hl hd hq
  obtain ⟨oc, odi, oda, osl⟩ := ob
  dsimp only at hd
  subst hd
  exact wpAny_call (codeAny_call_builtin p.plain e (p.check _ _ _ _ _ _ _ _ (typeIs_int _ a t) (ar _ _) (h _ _ _ _ s a t b _ _ _ hl hq)))
structure IntOp (op : Operator) (id : String) : Prop where
  sl : Slot "int" (PySem.dunder op.info.2) id
  fi : fillsNumberSlot (.type "int") op.info.2 = pure true
  gv : NoOf id
theorem int_add : IntOp .Add "int.__add__" := ⟨PySem.F.slot_int_add, PySem.F.fills_int_add, no_of PySem.F.slot_int_add PySem.F.entry_int_add PySem.F.args_int_add_2 fun M A E Q s a t b oc odi osl hl hq => by obtain ⟨hp, g, d, tk, os⟩ := s; wp_walk using AutoSeq1.wpAny_loadPart' hl; exact hq⟩
theorem int_sub : IntOp .Sub "int.__sub__" := ⟨PySem.F.slot_int_sub, PySem.F.fills_int_sub, no_of PySem.F.slot_int_sub PySem.F.entry_int_sub PySem.F.args_int_sub_2 fun M A E Q s a t b oc odi osl hl hq => by obtain ⟨hp, g, d, tk, os⟩ := s; wp_walk using AutoSeq1.wpAny_loadPart' hl; exact hq⟩
theorem int_mul : IntOp .Mult "int.__mul__" := ⟨PySem.F.slot_int_mul, PySem.F.fills_int_mul, no_of PySem.F.slot_int_mul PySem.F.entry_int_mul PySem.F.args_int_mul_2 fun M A E Q s a t b oc odi osl hl hq => by obtain ⟨hp, g, d, tk, os⟩ := s; wp_walk using AutoSeq1.wpAny_loadPart' hl; exact hq⟩
theorem int_eqN : NoOf "int.__eq__" := no_of PySem.F.slot_int_eq PySem.F.entry_int_eq PySem.F.args_int_eq_2 fun M A E Q s a t b oc odi osl hl hq => by obtain ⟨hp, g, d, tk, os⟩ := s; wp_walk using AutoSeq1.wpAny_loadPart' hl; exact hq
theorem bin_right {op : Operator} {id : String} {n : Int} {t : Tok} {y C g f : Addr} {oy : Obj} {od' : Option Obj} {Q E : Value → Shared → Prop} (Z : IntOp op id) (kx : X.K.In s.heap) (J' : InstAt s.heap y oy C od') (hpl : oy.data = .plain) (hO : PySem.W.selfFirst X.K C = true)
    (hs' : PySem.W.findIn X.K (.ref C) (PySem.dunder op.info.2) = some (some (.ref f))) (hs : PySem.W.findIn X.K (.ref C) (dunderR op.info.2) = some (some (.ref g))) (hf : PySem.W.isFn X.K (.ref g) = true) (hm0 : PySem.W.mroIn X.K C (.type "int") = some false)
    (h : wpAny (model X.prog X.w) A (call (.ref g) [.ref y, .int n t]) (W.CmpBack Q) E s) : wpAny (model X.prog X.w) A (binaryOp op (.int n t) (.ref y)) Q E s := by
  obtain ⟨cd, rest, hcd, hm⟩ := ksp_first hO
  have one := ksp_try kx J' hs hf h
  obtain ⟨z1, z2, z3⟩ := Z
  rcases hi : op.info with ⟨sym, nm⟩
  rw [hi] at hs' one z1 z2
  dsimp only at hs' one z1 z2
  have a2 : Looks (model X.prog X.w) s.heap (typeOf (.ref y)) (.ref C) := J'.type
  have a3 : Looks (model X.prog X.w) s.heap (fillsNumberSlot (.ref C) nm) true := fills_K kx hcd hm hs'
  have a4 : Looks (model X.prog X.w) s.heap (isSubtype (.ref C) (.type "int")) false := looks_mroIn kx hm0
  simp only [binaryOp, hi]
  refine wpAny_holding (wpAny_bind ?_)
  unfold binaryOp1
  have hne : (Value.type "int" == Value.ref C) = false := Bool.eq_false_iff.mpr fun q => by cases beq_iff_eq.mp q
  refine wpAny_bind (wpAny_pure (a := Value.type "int") (wpAny_bind (a2.here (wpAny_bind (wpAny_of_eq z2 ?_)))))
  simp only [hne, Bool.false_eq_true, if_false]
  refine wpAny_bind (a3.here ?_)
  simp only [Bool.and_self, if_true]
  refine wpAny_bind (a4.here ?_)
  have hpy : numberSlotInPython (.type "int") nm = pure false := rfl
  simp only [Bool.false_eq_true, if_false, pure_bind, Bool.not_false, Bool.and_self, if_true, hpy]
  refine wpAny_bind (wpAny_tryMethod_declines (typeIs_int s n t) z1 (z3 _ _ _ _ _ _ _ _ _ _ J'.at_ hpl ⟨rfl, ?_⟩))
  refine wpAny_bind (wpAny_mono one (fun r s' ⟨w, hw, hz⟩ => ?_) fun _ _ hz => hz)
  subst hw
  exact wpAny_bind (wpAny_rule (wpAny_pure (wpAny_pure hz)))
/-- the promise of the reflected method, the arguments exchanged -/
def flipS (sp : FS) : FS := fun svs Q => match svs with
  | [a, b] => sp [b, a] Q
  | _ => False
def okRightL (c : Nat) : List D → Prop
  | [.int _, .ins c' _] => c' = c
  | _ => False
theorem okRightL_ex {ds : List D} (h : okRightL c ds) : ∃ es n, ds = [.int n, .ins c es] := by
  unfold okRightL at h
  split at h
  · subst h; exact ⟨_, _, rfl⟩
  · exact h.elim
theorem op_right {op : Operator} {id : String} {mn : Str} {f : Addr} (Z : IntOp op id) (hmn : dunderR op.info.2 = mn) (M : MF X T k c mn sp) (hO : PySem.W.selfFirst X.K (T.ca c) = true) (hs' : PySem.W.findIn X.K (.ref (T.ca c)) (PySem.dunder op.info.2) = some (some (.ref f)))
    (hm0 : PySem.W.mroIn X.K (T.ca c) (.type "int") = some false) (hr : RoomG k X.A) : OpR X (binaryOp op) (fun x y => rMF T (flipS sp) (okRightL c) [x, y]) := by
  subst hmn
  obtain ⟨g, hS, run⟩ := M.go
  intro pins s σ H x y v u Q I rx ry ⟨F, ds, Qd, S, i, ho, h, hq⟩
  obtain ⟨es, n, rfl⟩ := okRightL_ex ho
  obtain ⟨x', y', e1, ix, iy⟩ := i.two
  cases e1
  obtain ⟨b, oy, od', rfl, rfl, J', hpl'⟩ := own_at I S iy ry
  cases ix.intE
  obtain ⟨t, rfl⟩ := rx
  exact bin_right Z I.kIn J' hpl' hO hs' hS.hs hS.hf hm0 (rv_cmp (A := X.A) (run (ds := [.ins c es, .int n]) ⟨hr, rfl⟩ I S (.cons T iy (.one T ix)) (vals2 ry ⟨t, rfl⟩) h hq))
/-! ### int == own -/
theorem op_eqR {hK : T.K = X.K} (M : MF X T k c "__eq__" sp) (hm0 : PySem.W.mroIn X.K (T.ca c) (.type "int") = some false) (hr : RoomG k X.A) : OpR X (compareOp .Eq) (fun x y => rMF T (flipS sp) (okRightL c) [x, y]) := by
  obtain ⟨g, hS, run⟩ := M.go
  intro pins s σ H x y v u Q I rx ry ⟨F, ds, Qd, S, i, ho, h, hq⟩
  obtain ⟨es, n, rfl⟩ := okRightL_ex ho
  obtain ⟨x', y', e1, ix, iy⟩ := i.two
  cases e1
  obtain ⟨b, oy, od', rfl, rfl, J', hpl'⟩ := own_at I S iy ry
  cases ix.intE
  obtain ⟨t, rfl⟩ := rx
  have h1 := rv_cmp (A := X.A) (run (ds := [.ins c es, .int n]) ⟨hr, rfl⟩ I S (.cons T iy (.one T ix)) (vals2 ry ⟨t, rfl⟩) h hq)
  have one : wpAny (model X.prog X.w) X.A (tryCompare (.ref b) "__eq__" (.int n t)) (fun r s' => ∃ v, r = some v ∧ EP X pins σ Q v s') X.xe s := by
    unfold tryCompare
    refine wpAny_bind (ifBound_K I.kIn J' hS.hs hS.hf (wpAny_mono h1 (fun v s' hv => ?_) fun _ _ hz => hz))
    cases v <;> first | exact hv.elim | exact wpAny_pure ⟨_, rfl, hv⟩
  show wpAny (model X.prog X.w) X.A (richCompare .Eq (.int n t) (.ref b)) (EP X pins σ Q) X.xe s
  unfold richCompare
  refine wpAny_holding (wpAny_bind (wpAny_cRoomFor hr.rm.units0 ?_))
  have hone : oneThing? .Eq (.int n t) (.ref b) = none := by rfl
  rw [hone]
  refine wpAny_bind (wpAny_pure (a := Value.type "int") (wpAny_bind (J'.type.here ?_)))
  have hne : (Value.type "int" != Value.ref (T.ca c)) = true := by simp
  rw [if_pos hne]
  refine wpAny_bind ((looks_mroIn I.kIn hm0).here ?_)
  simp only [Bool.false_eq_true, if_false, Bool.not_false, if_true]
  refine wpAny_bind (wpAny_tryCompare_declines (T := "int") (typeIs_int s n t) PySem.F.slot_int_eq (int_eqN _ _ _ _ _ _ _ _ _ _ J'.at_ hpl' ⟨rfl, ?_⟩))
  exact wpAny_bind (wpAny_mono one (fun r s' ⟨w, hw, hz⟩ => by subst hw; exact wpAny_pure hz) fun _ _ hz => hz)
end
end DD
namespace DD
open PySem L2 PyProof.Rows PySem.W
/-! ### the operators of the text's own classes, by the trees alone -/
/-- what the text's own classes promise of one special method -/
abbrev Tab := List (Nat × FS)
structure EqCls (K : PySem.W.Frag) (C : Addr) : Prop where
  ne : NeOk K C
  i : PySem.W.mroIn K C (.type "int") = some false
/-- the values whose class is no heir of the class c: built-in ones, its own -/
def okY (c : Nat) : D → Prop
  | .ins c' _ => c' = c
  | .fn _ => False
  | _ => True
theorem notFirst_ty {K : PySem.W.Frag} {C : Addr} (n : String) (h : (PySem.W.subIn K (.type n) (.ref C) == some false) = true) : PySem.W.notFirst K C (.type n) = true := by
  unfold PySem.W.notFirst; rw [h, Bool.or_true]
theorem okY_first {T : Tb} {K : PySem.W.Frag} {c : Nat} {d : D} (h : okY c d) : PySem.W.notFirst K (T.ca c) (tyV T d) = true ∧ noFn d = true := by
  cases d with
  | fn _ => exact h.elim
  | ins c' es =>
    unfold okY at h; subst h
    refine ⟨?_, rfl⟩
    unfold PySem.W.notFirst tyV
    simp
  | _ => exact ⟨notFirst_ty _ (by kernel_rfl), rfl⟩
def eqT (tab : Tab) (neg : Bool) : P2f := fun x y Q => match x with
  | .ins c _ => (match tab.lookup c with
    | some sp => okY c y ∧ sp [.val x, .val y] fun d => match d with
      | .bl b => Q (.val (.bl (if neg then !b else b)))
      | _ => False
    | none => False)
  | .int _ => (match y with
    | .ins c _ => (match tab.lookup c with
      | some sp => neg = false ∧ sp [.val y, .val x] fun d => Q (.val d)
      | none => False)
    | _ => cmpD neg x y Q)
  | _ => cmpD neg x y Q
def rOwnE (T : Tb) (K : PySem.W.Frag) (tab : Tab) : R2 := fun x y H Q => (∃ c sp, tab.lookup c = some sp ∧ rMF T sp (okEq T K c) [x, y] H Q) ∨ (∃ c sp, tab.lookup c = some sp ∧ rMF T (flipS sp) (okRightL c) [x, y] H Q) ∨ rEqX K x y H Q
def rOwnN (T : Tb) (K : PySem.W.Frag) (tab : Tab) : R2 := fun x y H Q => (∃ c sp, tab.lookup c = some sp ∧ rMF T (nebD sp) (okEq T K c) [x, y] H Q) ∨ rNeX K x y H Q
/-- the known methods m of all classes of the table -/
def MFs (X : Cx) (T : Tb) (k : Nat) (m : Str) (tab : Tab) : Prop := ∀ c sp, tab.lookup c = some sp → MF X T k c m sp
theorem MFs.nil {X : Cx} {T : Tb} {k : Nat} {m : Str} : MFs X T k m [] := fun _ _ h => by cases h
theorem MFs.cons {X : Cx} {T : Tb} {k c : Nat} {m : Str} {sp : FS} {tab : Tab} (h : MF X T k c m sp) (hs : MFs X T k m tab) : MFs X T k m ((c, sp) :: tab) := fun c' sp' q => by
  rw [List.lookup_cons] at q
  split at q
  · rename_i e; cases eq_of_beq e; cases q; exact h
  · exact hs _ _ q
section
variable {X : Cx} {T : Tb} {k c : Nat} {m : Str} {sp : FS} {tab : Tab} {e : En} {F H : Hp} {δ : DEnv} {σ : L2.St}
theorem op_eqT (hK : T.K = X.K) (M : MFs X T k "__eq__" tab) (hC : ∀ c sp, tab.lookup c = some sp → EqCls X.K (T.ca c)) (hr : RoomG k X.A) : OpR X (compareOp .Eq) (rOwnE T X.K tab) := by
  intro pins s σ H x y v u Q I rx ry h
  rcases h with ⟨c, sp, hl, h⟩ | ⟨c, sp, hl, h⟩ | h
  · exact op_eqO hK (M c sp hl) hr pins s σ H x y v u Q I rx ry h
  · exact op_eqR (hK := hK) (M c sp hl) (hC c sp hl).i hr pins s σ H x y v u Q I rx ry h
  · exact o_eq hr.rm.units pins s σ H x y v u Q I rx ry h
theorem op_neT (hK : T.K = X.K) (M : MFs X T k "__eq__" tab) (hC : ∀ c sp, tab.lookup c = some sp → EqCls X.K (T.ca c)) (hr : RoomG (k + 1) X.A) : OpR X (compareOp .NotEq) (rOwnN T X.K tab) := by
  intro pins s σ H x y v u Q I rx ry h
  rcases h with ⟨c, sp, hl, h⟩ | h
  · exact op_neO hK (M c sp hl) (hC c sp hl).ne hr pins s σ H x y v u Q I rx ry h
  · exact o_ne hr.rm.units pins s σ H x y v u Q I rx ry h
theorem sq_mono {K : PySem.W.Frag} {F H : Hp} {a : Addr} {xs : List V} (l : Le F H) (h : SqL K F a xs) : SqL K H a xs := h.elim (fun q => .inl (q.elim (fun q => .inl (l _ _ q)) fun ⟨o, q⟩ => .inr ⟨o, l _ _ q⟩)) .inr
theorem rMF_two {Q : VK} {Qd : SV → Prop} {x y : V} {dx dy : D} {ok : List D → Prop} (S : Sim T e F δ σ H) (ix : Is T F x dx) (iy : Is T F y dy) (ho : ok [dx, dy]) (h : sp [.val dx, .val dy] fun d => Qd (.val d)) (k : Kont T e F δ σ Qd Q) : rMF T sp ok [x, y] H Q :=
  rMF_of S (.cons T ix (.one T iy)) ho h k
theorem p_eqT : P2 T (rOwnE T T.K tab) (eqT tab false) := by
  intro e F H δ σ x y dx dy Qd Q S ix iy h k
  have base : cmpD false dx dy Qd → rOwnE T T.K tab x y H Q := fun h => .inr (.inr (p_eqD e F H δ σ x y dx dy Qd Q S ix iy h k))
  unfold eqT at h
  split at h
  · split at h
    · rename_i sp hl
      refine .inl ⟨_, sp, hl, F, _, _, S.subT, .cons T ix (.one T iy), ⟨rfl, okY_first h.1⟩, h.2, fun v H' F' d gr i' q => ?_⟩
      cases d <;> first | exact q.elim | skip
      exact k v H' F' (.val (.bl _)) (S.grow (fun _ => False) (fun _ z => z.elim) gr.le gr.sub gr.new gr.keep gr.bags gr.tabs) gr.le i' (by simpa using q)
    · exact h.elim
  · split at h
    · split at h
      · rename_i sp hl
        exact .inr (.inl ⟨_, sp, hl, rMF_two S ix iy rfl h.2 k⟩)
      · exact h.elim
    · exact base h
  · exact base h
theorem p_neT : P2 T (rOwnN T T.K tab) (eqT tab true) := by
  intro e F H δ σ x y dx dy Qd Q S ix iy h k
  have base : cmpD true dx dy Qd → rOwnN T T.K tab x y H Q := fun h => .inr (p_neD e F H δ σ x y dx dy Qd Q S ix iy h k)
  unfold eqT at h
  split at h
  · split at h
    · rename_i sp hl
      refine .inl ⟨_, sp, hl, F, _, fun d => Qd (.val d), S.subT, .cons T ix (.one T iy), ⟨rfl, okY_first h.1⟩, ?_, fun v H' F' d gr i' q => ?_⟩
      · show sp _ _
        refine cast (congrArg (sp _) (funext fun d => ?_)) h.2
        cases d <;> simp
      · exact k v H' F' (.val _) (S.grow (fun _ => False) (fun _ z => z.elim) gr.le gr.sub gr.new gr.keep gr.bags gr.tabs) gr.le i' q
    · exact h.elim
  · split at h
    · split at h
      · exact absurd h.1 (by decide)
      · exact h.elim
    · exact base h
  · exact base h
/-! ### + - * -/
/-- the operator op of ints (and texts, lists by f), and of the class c: with its own, with an int on either side -/
def binO (f : P2f) (tab tabR : Tab) : P2f := fun x y Q => match x, y with
  | .ins c _, .ins c' _ => c' = c ∧ (match tab.lookup c with
    | some sp => sp [.val x, .val y] fun d => Q (.val d)
    | none => False)
  | .ins c _, .int _ => (match tab.lookup c with
    | some sp => sp [.val x, .val y] fun d => Q (.val d)
    | none => False)
  | .int _, .ins c _ => (match tabR.lookup c with
    | some sp => sp [.val y, .val x] fun d => Q (.val d)
    | none => False)
  | _, _ => f x y Q
def rBinO (T : Tb) (r : R2) (tab tabR : Tab) : R2 := fun x y H Q => (∃ c sp, tab.lookup c = some sp ∧ rMF T sp (okTwo c) [x, y] H Q) ∨ (∃ c sp, tab.lookup c = some sp ∧ rMF T sp (okLeft c) [x, y] H Q) ∨ (∃ c sp, tabR.lookup c = some sp ∧ rMF T (flipS sp) (okRightL c) [x, y] H Q) ∨ r x y H Q
structure BinCls (K : PySem.W.Frag) (C : Addr) (op : Operator) : Prop where
  ok : BinOk K C op.info.2
  i : PySem.W.mroIn K C (.type "int") = some false
  own : ∃ f : Addr, PySem.W.findIn K (.ref C) (PySem.dunder op.info.2) = some (some (.ref f))
/-- what is asked of int beside an own operator -/
structure IntTy (K : PySem.W.Frag) (op : Operator) : Prop where
  a : ∃ fo, PySem.W.findIn K (.type "int") (PySem.dunder op.info.2) = some fo
  b : ∃ ro, PySem.W.findIn K (.type "int") (dunderR op.info.2) = some ro
theorem int_sub_no {K : PySem.W.Frag} {C : Addr} : PySem.W.subIn K (.type "int") (.ref C) = some false := by kernel_rfl
theorem op_binO {op : Operator} {id : String} {mn rn : Str} {r : R2} {tabR : Tab} (ho : OpR X (binaryOp op) r) (Z : IntOp op id) (hZ : IntTy X.K op) (h1 : PySem.dunder op.info.2 = mn) (h2 : dunderR op.info.2 = rn) (M : MFs X T k mn tab) (MR : MFs X T k rn tabR)
    (hC : ∀ c sp, tab.lookup c = some sp → BinCls X.K (T.ca c) op) (hCR : ∀ c sp, tabR.lookup c = some sp → BinCls X.K (T.ca c) op) (hr : RoomG k X.A) : OpR X (binaryOp op) (rBinO T r tab tabR) := by
  intro pins s σ H x y v u Q I rx ry h
  rcases h with ⟨c, sp, hl, h⟩ | ⟨c, sp, hl, h⟩ | ⟨c, sp, hl, h⟩ | h
  · exact op_two h1 (M c sp hl) (hC c sp hl).ok hr pins s σ H x y v u Q I rx ry h
  · obtain ⟨fo, z1⟩ := hZ.a
    obtain ⟨ro, z2⟩ := hZ.b
    exact op_left h1 (M c sp hl) (hC c sp hl).ok hr z1 z2 int_sub_no pins s σ H x y v u Q I rx ry h
  · obtain ⟨f, hf⟩ := (hCR c sp hl).own
    exact op_right Z h2 (MR c sp hl) (hCR c sp hl).ok.sf hf (hCR c sp hl).i hr pins s σ H x y v u Q I rx ry h
  · exact ho pins s σ H x y v u Q I rx ry h
theorem p_binO {r : R2} {f : P2f} {tabR : Tab} (hp : P2 T r f) : P2 T (rBinO T r tab tabR) (binO f tab tabR) := by
  intro e F H δ σ x y dx dy Qd Q S ix iy h k
  unfold binO at h
  split at h
  · obtain ⟨rfl, h⟩ := h
    split at h
    · rename_i sp hl
      exact .inl ⟨_, sp, hl, rMF_two S ix iy ⟨rfl, rfl⟩ h k⟩
    · exact h.elim
  · split at h
    · rename_i sp hl
      exact .inr (.inl ⟨_, sp, hl, rMF_two S ix iy rfl h k⟩)
    · exact h.elim
  · split at h
    · rename_i sp hl
      exact .inr (.inr (.inl ⟨_, sp, hl, rMF_two S ix iy rfl h k⟩))
    · exact h.elim
  · exact .inr (.inr (.inr (hp e F H δ σ x y dx dy Qd Q S ix iy h k)))
/-! ### len, str, - -/
def lenT (tab : Tab) : PNf := fun ds Q => match ds with
  | [.ins c es] => (match tab.lookup c with
    | some sp => sp [.val (.ins c es)] fun d => match d with
      | .int n => (0 ≤ n ∧ n < 2 ^ 63) ∧ Q (.val (.int n))
      | _ => False
    | none => False)
  | [.scr ns] => Q (.val (.int ns.length))
  | _ => lenD ds Q
def rLenT (T : Tb) (K : PySem.W.Frag) (tab : Tab) : List V → Hp → VK → Prop := fun xs H Q => (∃ c sp, tab.lookup c = some sp ∧ rMF T (lenS sp) (okIns c) xs H Q) ∨ rLenA K xs H Q
theorem c_lenT (M : MFs X T k "__len__" tab) (hr : RoomG (k + 1) X.A) : CallR X (.builtin "len") (rLenT T X.K tab) := by
  intro pins s σ H xs us Q I rv h
  rcases h with ⟨c, sp, hl, h⟩ | h
  · exact call_lenO (M c sp hl) hr pins s σ H xs us Q I rv h
  · exact c_len pins s σ H xs us Q I rv h
theorem p_lenT : P2 T (fun _ _ _ _ => False) (fun _ _ _ => False) := fun _ _ _ _ _ _ _ _ _ _ _ _ _ _ h _ => h
theorem p_lenTab {K : PySem.W.Frag} (hK : T.K = K) : PN T (rLenT T K tab) (lenT tab) := by
  intro e F H δ σ xs ds Qd Q S i h k
  unfold lenT at h
  split at h
  · split at h
    · rename_i sp hl
      refine .inl ⟨_, sp, hl, F, _, fun d => match d with | .int n => Qd (.val (.int n)) | _ => False, S.subT, i, rfl, ?_, fun v H' F' d gr i' q => ?_⟩
      · show sp _ _
        exact h
      · cases d <;> first | exact q.elim | skip
        exact k v H' F' (.val (.int _)) (S.grow (fun _ => False) (fun _ z => z.elim) gr.le gr.sub gr.new gr.keep gr.bags gr.tabs) gr.le i' q
    · exact h.elim
  · obtain ⟨x, rfl, ix⟩ := i.oneE
    unfold Is at ix
    obtain ⟨a, rfl, h1⟩ := ix
    have h2 : SqL K H a _ := hK ▸ sq_mono S.sub h1
    refine .inr (.inl ⟨a, _, rfl, .inl h2, kint S k ?_⟩)
    rw [List.length_map]; exact h
  · have z := p_len e F H δ σ xs ds Qd Q S i h k
    rw [hK] at z
    exact .inr z
def strT (tab : Tab) : PNf := fun ds Q => match ds with
  | [.ins c es] => (match tab.lookup c with
    | some sp => sp [.val (.ins c es)] fun d => match d with
      | .str n => Q (.val (.str n))
      | _ => False
    | none => False)
  | _ => strD ds Q
def rStrT (T : Tb) (tab : Tab) : List V → Hp → VK → Prop := fun xs H Q => (∃ c sp, tab.lookup c = some sp ∧ rMF T (strS sp) (okIns c) xs H Q) ∨ rStrA xs H Q
theorem c_strT (M : MFs X T k "__str__" tab) (hr : RoomG (k + 2) X.A) : CallR X (.type "str") (rStrT T tab) := by
  intro pins s σ H xs us Q I rv h
  rcases h with ⟨c, sp, hl, h⟩ | h
  · exact call_strO (M c sp hl) hr pins s σ H xs us Q I rv h
  · exact c_str pins s σ H xs us Q I rv h
theorem p_strT : PN T (rStrT T tab) (strT tab) := by
  intro e F H δ σ xs ds Qd Q S i h k
  unfold strT at h
  split at h
  · split at h
    · rename_i sp hl
      refine .inl ⟨_, sp, hl, F, _, fun d => match d with | .str n => Qd (.val (.str n)) | _ => False, S.subT, i, rfl, ?_, fun v H' F' d gr i' q => ?_⟩
      · show sp _ _
        exact h
      · cases d <;> first | exact q.elim | skip
        exact k v H' F' (.val (.str _)) (S.grow (fun _ => False) (fun _ z => z.elim) gr.le gr.sub gr.new gr.keep gr.bags gr.tabs) gr.le i' q
    · exact h.elim
  · exact .inr (p_str e F H δ σ xs ds Qd Q S i h k)
def negT (tab : Tab) : P1f := fun x Q => match x with
  | .ins c _ => (match tab.lookup c with
    | some sp => sp [.val x] fun d => Q (.val d)
    | none => False)
  | _ => negD x Q
end
end DD
namespace DD
open PySem L2
/-! ### the bag that draws come from -/
section
variable {X : Cx} {T : Tb} {pos p : Pos} {tg a b c o : Expr} {es ifs : List Expr} {st : Stmt} {rest : List Stmt} {wa wb wc we : W} {wt : WT} {wi : WI} {ws : WA} {e : En} {F F' H H' : Hp} {δ : DEnv} {σ : L2.St} {q : Pat} {qs : List Pat} {E : XK}
theorem Sim.bag (S : Sim T e F δ σ H) {i : Nat} (hi : δ[i]? = some (some .bag)) : ∃ p f s c, σ[i]? = some (some (.ref p)) ∧ H p = some (.lst [.int f, .int s, .int c]) ∧ 0 ≤ f ∧ 0 ≤ s ∧ 0 ≤ c ∧ (e.Bg p ∨ e.H0 p = none) := by
  obtain ⟨v, e1, ⟨p, rfl, ⟨f, s, c, h1, h2, h3, h4⟩, _⟩, m⟩ := S.slot i _ hi
  exact ⟨p, f, s, c, e1, h1, h2, h3, h4, m p rfl⟩
theorem Sim.wrBag (S : Sim T e F δ σ H) {i : Nat} {p : Addr} {f s c : Int} (hi : δ[i]? = some (some .bag)) (hs : σ[i]? = some (some (.ref p))) (hf : 0 ≤ f) (h1 : 0 ≤ s) (h2 : 0 ≤ c) : Sim T e F δ σ (upd H p (.lst [.int f, .int s, .int c])) := by
  obtain ⟨v, e1, r, m⟩ := S.slot i _ hi
  rw [hs] at e1; cases e1
  obtain ⟨p', e2, _, hF⟩ := id r
  cases e2
  have key := upd_slot S hi hs rfl rfl (sv' := .bag) (o := .lst [.int f, .int s, .int c]) ⟨p, rfl, ⟨f, s, c, upd_same, hf, h1, h2⟩, hF⟩ m (fun b _ z => by subst z; exact ⟨f, s, c, upd_same, hf, h1, h2⟩) ((m p rfl).elim (fun z => .inr (.inl z)) fun z => .inr (.inr z))
  have : δ.set i (some .bag) = δ := by
    apply List.ext_getElem?
    intro j
    by_cases hj : i = j
    · subst hj
      rw [List.getElem?_set_self (List.getElem?_eq_some_iff.mp hi).1, hi]
    · rw [List.getElem?_set_ne hj]
  rwa [this] at key
/-- bag[i], i one of 0, 1, 2: some number -/
def wBagIx (i : Nat) (wb : W) : W := fun δ Q => δ[i]? = some (some .bag) ∧ wb δ fun y => wd y fun dy => match dy with
  | .int k => (0 ≤ k ∧ k < 3) ∧ ∀ n : Int, 0 ≤ n → Q (.val (.int n))
  | _ => False
theorem d_bagIx (i : Nat) {x : Str} {p1 : Pos} (hb : PE X b (lift T wb)) (hN : X.N[i]? = some x := by rfl) (hv : Vis X.env.scope x := by first | exact Or.inl rfl | exact Or.inr (Or.inl rfl) | exact Or.inr (Or.inr rfl)) (hd : (x == ("__debug__" : Str)) = false := by decide)
    (hcd : (x == ("__classdict__" : Str)) = false := by decide) (hs : PlainIx b := by intro _ _; rfl) : PE X (.Subscript (.Name x p1) b pos) (lift T (wBagIx i wb)) := by
  refine PE.weak (pe_ix ix_seq (pe_var hN hv hd hcd) hb hs) fun σ H Q ⟨e, F, δ, Qd, S, w, k⟩ => ?_
  obtain ⟨hi, w⟩ := w
  obtain ⟨p, _, _, _, h1, _⟩ := S.bag hi
  refine ⟨_, h1, use (te := lift T wb) S w fun y H1 F1 dy S1 l1 i1 w1 => ?_⟩
  split at w1
  · rename_i m
    cases i1.intE
    obtain ⟨⟨m0, m3⟩, w1⟩ := w1
    obtain ⟨p', f, s, c, e1, g1, g2, g3, g4, _⟩ := S1.bag hi
    rw [h1] at e1; cases e1
    obtain ⟨u, hu, hn⟩ : ∃ u : Int, atI [V.int f, V.int s, V.int c] m = some (.int u) ∧ 0 ≤ u := by
      have : m = 0 ∨ m = 1 ∨ m = 2 := by omega
      rcases this with rfl | rfl | rfl
      · exact ⟨f, rfl, g2⟩
      · exact ⟨s, rfl, g3⟩
      · exact ⟨c, rfl, g4⟩
    exact .inl ⟨p, _, m, .int u, rfl, rfl, SqL.of g1, hu, k _ H1 F1 (.val (.int u)) S1 l1 Res.int (w1 u hn)⟩
  · exact w1.elim
def wBagSet (i : Nat) (wi w : W) : WS := fun D δ => δ[i]? = some (some .bag) ∧ w δ fun x => wd x fun d => match d with
  | .int n => 0 ≤ n ∧ wi δ fun y => wd y fun k => match k with
    | .int k => (0 ≤ k ∧ k < 3) ∧ D.nx δ
    | _ => False
  | _ => False
theorem s_bagSet (i : Nat) {x : Str} {p1 p2 : Pos} (ha : PE X a (lift T wa)) (hb : PE X b (lift T wb)) (hN : X.N[i]? = some x := by rfl) (hv : Vis X.env.scope x := by first | exact Or.inl rfl | exact Or.inr (Or.inl rfl) | exact Or.inr (Or.inr rfl)) (hd : (x == ("__debug__" : Str)) = false := by decide)
    (hcd : (x == ("__classdict__" : Str)) = false := by decide)
    (hs : swapsWithSole [.Subscript (.Name x p1) b p2] a pos.line X.env = pure false := by rfl) (hw : swappedStores [.Subscript (.Name x p1) b p2] a X.env = pure none := by rfl)
    (h1 : (assignEach [.Subscript (.Name x p1) b p2] X.env).map (·.2) = [assign (.Subscript (.Name x p1) b p2) X.env] := by rfl)
    (hasg : ∀ v, assign (.Subscript (.Name x p1) b p2) X.env v = (do
      let ov ← holding [v] (eval (.Name x p1) X.env)
      let iv ← holding [v, ov] (eval b X.env)
      standAt p2
      holding [v, ov, iv] (setItem ov iv v)
      release [v, ov, iv] []) := by intro _; rfl) :
    PS X (.Assign [.Subscript (.Name x p1) b p2] a pos) (liftS T (wBagSet i wb wa)) := by
  refine PS.weak (ps_asg ha (pg_sub (pe_var hN hv hd hcd) hb set_list hasg) hs hw h1) fun D σ H ⟨e, F, δ, Dd, S, w, k1, k2, k3, k4⟩ => ?_
  obtain ⟨hi, w⟩ := w
  obtain ⟨p, _, _, _, hp, _⟩ := S.bag hi
  refine use (te := lift T wa) S w fun v H1 F1 d S1 l1 i1 w1 => ?_
  refine ⟨_, hp, ?_⟩
  split at w1
  · rename_i n
    cases i1.intE
    obtain ⟨hn, w1⟩ := w1
    refine use (te := lift T wb) S1 w1 fun iv H2 F2 dk S2 l2 i2 w2 => ?_
    split at w2
    · rename_i m
      cases i2.intE
      obtain ⟨⟨m0, m3⟩, w2⟩ := w2
      obtain ⟨p', f, s, c, e1, g1, g2, g3, g4, _⟩ := S2.bag hi
      rw [hp] at e1; cases e1
      have : m = 0 ∨ m = 1 ∨ m = 2 := by omega
      rcases this with rfl | rfl | rfl
      · exact ⟨p, _, _, 0, rfl, rfl, g1, rfl, k1 σ _ F2 _ (S2.wrBag hi hp hn g3 g4) (l1.trans l2) w2⟩
      · exact ⟨p, _, _, 1, rfl, rfl, g1, rfl, k1 σ _ F2 _ (S2.wrBag hi hp g2 hn g4) (l1.trans l2) w2⟩
      · exact ⟨p, _, _, 2, rfl, rfl, g1, rfl, k1 σ _ F2 _ (S2.wrBag hi hp g2 g3 hn) (l1.trans l2) w2⟩
    · exact w2.elim
  · exact w1.elim
/-! ### the script -/
theorem Is.scrE {v : V} {ns : List Int} (hK : T.K = X.K) (S : Le F H) (i : Is T F v (.scr ns)) : ∃ a, v = .ref a ∧ SqL X.K H a (ns.map V.int) := by
  unfold Is at i
  obtain ⟨a, rfl, h1⟩ := i
  exact ⟨a, rfl, hK ▸ sq_mono S h1⟩
theorem isL_ints {F : Hp} : ∀ ns : List Int, IsL T F (ns.map V.int) (ns.map D.int)
  | [] => IsL.nil T
  | n :: ns => IsL.cons T Is.int (isL_ints ns)
/-- script[e] -/
def wScrIx (i : Nat) (wb : W) : W := fun δ Q => match δ[i]? with
  | some (some (.val (.scr ns))) => wb δ fun y => wd y fun dy => match dy with
    | .int k => (match atI ns k with | some n => Q (.val (.int n)) | none => False)
    | _ => False
  | _ => False
theorem d_scrIx (hK : T.K = X.K) (i : Nat) {x : Str} {p1 : Pos} (hb : PE X b (lift T wb)) (hN : X.N[i]? = some x := by rfl) (hv : Vis X.env.scope x := by first | exact Or.inl rfl | exact Or.inr (Or.inl rfl) | exact Or.inr (Or.inr rfl)) (hd : (x == ("__debug__" : Str)) = false := by decide)
    (hcd : (x == ("__classdict__" : Str)) = false := by decide) (hs : PlainIx b := by intro _ _; rfl) : PE X (.Subscript (.Name x p1) b pos) (lift T (wScrIx i wb)) := by
  refine PE.weak (pe_ix ix_seq (pe_var hN hv hd hcd) hb hs) fun σ H Q ⟨e, F, δ, Qd, S, w, k⟩ => ?_
  unfold wScrIx at w
  split at w
  · rename_i ns hi
    obtain ⟨v, h1, h2, _⟩ := S.slot i _ hi
    refine ⟨v, h1, use (te := lift T wb) S w fun y H1 F1 dy S1 l1 i1 w1 => ?_⟩
    obtain ⟨a, rfl, hq⟩ := Is.scrE (X := X) hK (l1.trans S1.sub) h2
    split at w1
    · rename_i m
      cases i1.intE
      split at w1
      · rename_i n hn
        have hat : atI (ns.map V.int) m = some (V.int n) := by
          unfold atI at hn ⊢
          rw [List.length_map]
          cases u : ixN ns.length m with
          | none => rw [u] at hn; cases hn
          | some j => rw [u] at hn; show (ns.map V.int)[j]? = _; rw [List.getElem?_map, show ns[j]? = some n from hn]; rfl
        exact .inl ⟨a, _, m, _, rfl, rfl, hq, hat, k _ H1 F1 (.val (.int n)) S1 l1 Res.int w1⟩
      · exact w1.elim
    · exact w1.elim
  · exact w.elim
/-! ### a function whose list is the caller's own -/
abbrev FO := List SV → (List D → Prop) → Prop
def liftSpO (T : Tb) (f : FO) : Sp := fun vs H Q _ => ∃ F svs Qd, LeT T F H ∧ RelA T F H vs svs ∧ cntBag svs ≤ 1 ∧ f svs Qd ∧ ∀ v H' F' ds, Grow T (bagsOf vs svs) F H F' H' → RelS T F' H' v (.own ds) → (∀ a, v = .ref a → H a = none) → Qd ds → Q v H'
def endO (Qd : List D → Prop) : DE := ⟨fun _ => False, fun sv => match sv with
  | .own ds => Qd ds
  | _ => False, fun _ => False, fun _ => False⟩
theorem fn_O {P : Program} {w : World} {K : PySem.W.Frag} {mg : Str → Option Value} {base : Heap} {x qual : Str} {st : Stmt} {f : Addr} {fd : FuncData} {N ps : List Str} {k : Nat} {sp : FO} {wb : WS} {dvs : List V} (F : FunX K x qual st dvs f fd) (S : FnScope N ps (defScope st))
    (hb : ∀ (cdv : Value) (A : Around) (outer : List Env) (s : Shared) (H : Hp) (E : XK), RoomG k (A.deeper (PyProof.Rows.envOfC qual (defScope st) s.heap.objs.size f cdv)) → PSs (cxOf CX0 P w K mg base N qual (defScope st) f cdv A outer s H E).nox (defBody st) (liftS T wb))
    (hw : ∀ svs Qd, sp svs Qd → svs.length = ps.length ∧ wb (endO Qd) (startD N.length svs)) : FnG P w K mg base CX0 (k + 1) f fd ps (liftSpO T sp) := by
  refine fnG_of F S (fun vs H Q E ⟨F0, svs, Qd, h1, h2, h3, h4, _⟩ => h2.len.trans (hw svs Qd h4).1) fun cdv A outer s H vs Q E hr ⟨F0, svs, Qd, h1, h2, h3, h4, h5⟩ => ⟨_, (hb cdv A outer s H E hr).nox, ?_⟩
  have S0 := sim_start (N := N) h1 h2 h3
  refine ⟨_, F0, _, endO Qd, S0, (hw svs Qd h4).2, fun σ' H' F' δ' S' l' q' => q'.elim, fun v σ' H' F' δ' sv S' l' r' q' => ?_, fun σ' H' F' δ' S' l' q' => q'.elim, fun σ' H' F' δ' S' l' q' => q'.elim⟩
  cases sv with
  | own ds => exact h5 v H' F' ds ⟨S'.base, S'.sub, S'.new, fun b o q n nt => S'.keep b o q n nt, S'.bags, S'.tabs.1⟩ r'.1 (fun a ha => r'.2.1 a ha) q'
  | val d => exact q'.elim
  | bag => exact q'.elim
  | slf _ _ => exact q'.elim
  | pr _ _ => exact q'.elim
  | exc _ _ => exact q'.elim
end
end DD
namespace DD
open PySem L2
section
variable {X : Cx} {T : Tb} {pos p : Pos} {tg a b c o : Expr} {es ifs : List Expr} {st : Stmt} {rest : List Stmt} {wa wb wc we : W} {wt : WT} {wi : WI} {ws : WA} {e : En} {F F' H H' : Hp} {δ : DEnv} {σ : L2.St} {q : Pat} {qs : List Pat} {E : XK}
theorem Sim.growF (S : Sim T e F δ σ H) {p : Addr} (hp0 : e.H0 p = none) (hsl : ∀ (i : Nat) (sv : SV), δ[i]? = some (some sv) → sv.isVal = false → σ[i]? ≠ some (some (.ref p))) (le : Le F F') (sub : Le F' H') (new : ∀ b o, F' b = some o → F b = some o ∨ H b = none)
    (keep : ∀ b o, H b = some o → b ≠ p → ¬ T.tb b → H' b = some o) (bag : IsBag H' p) (bag0 : IsBag H p) (tabs : LamX.Tabs T.tz H') : Sim T e F' δ σ H' := by
  refine ⟨S.len, sub, S.base.trans le, fun b o q => ?_, fun b o q n1 n2 => ?_, fun b hb => ?_, fun b hb => ?_, S.bgt, ⟨tabs, S.tabs.2⟩, fun i sv q => ?_, S.sep⟩
  · rcases new b o q with h | h
    · exact S.new b o h
    · refine .inr ?_
      cases u : e.H0 b with
      | none => rfl
      | some o' =>
        by_cases h1 : e.Bg b
        · obtain ⟨f, s, c, h2, _⟩ := S.bags b h1; rw [h] at h2; cases h2
        · by_cases h2 : e.Sf b
          · obtain ⟨o2, h3⟩ := S.self b h2; rw [h] at h3; cases h3
          · rw [S.keep b o' u h1 h2] at h; cases h
  · refine keep b o (S.keep b o q n1 n2) ?_ fun z => n2 (S.tabs.2 b z).1
    rintro rfl; rw [hp0] at q; cases q
  · obtain ⟨f, s, c, h1, h2⟩ := S.bags b hb
    refine ⟨f, s, c, keep b _ h1 ?_ (noTab S.tabs.1 h1 fun _ z => by cases z), h2⟩
    rintro rfl
    obtain ⟨o, h3⟩ := S.bgt _ hb
    rw [hp0] at h3; cases h3
  · by_cases h : b = p
    · subst h; obtain ⟨f, s, c, h2, _⟩ := bag; exact ⟨_, h2⟩
    · obtain ⟨o, h1⟩ := S.self b hb
      by_cases ht : T.tb b
      · obtain ⟨p, hp, rfl⟩ := ht
        obtain ⟨ps, g1, _⟩ := tabs p hp
        exact ⟨_, g1⟩
      · exact ⟨o, keep b o h1 h ht⟩
  · obtain ⟨v, h1, h2, h3⟩ := S.slot i sv q
    refine ⟨v, h1, ?_, h3⟩
    cases hv : sv.isVal with
    | true =>
      cases sv with
      | val d => exact Is.mono T le d h2
      | own _ => cases hv
      | bag => cases hv
      | slf _ _ => cases hv
      | pr _ _ => cases hv
      | exc _ _ => exact h2.monoV le rfl
    | false =>
      obtain ⟨a, o, rfl, g2, g3⟩ := h2.there hv
      have fn : F' a = none := by
        cases u : F' a with
        | none => rfl
        | some o' =>
          rcases new a o' u with z | z
          · rw [g3] at z; cases z
          · rw [g2] at z; cases z
      have hb : a ≠ p := by rintro rfl; exact hsl i sv q hv h1
      refine h2.mono le (fun b hb' _ => ?_) (fun b hb' _ _ => ?_)
      · cases hb'
        rw [g2]; exact keep a o g2 hb (noTab S.tabs.1 g2 (RelS.soft h2 hv g2).1)
      · cases hb'; exact fn
theorem Sim.h0none (S : Sim T e F δ σ H) {p : Addr} (hp : H p = none) : e.H0 p = none := by
  cases q : e.H0 p with
  | none => rfl
  | some u =>
    by_cases hB : e.Bg p
    · obtain ⟨f, s, c, h2, _⟩ := S.bags p hB; rw [hp] at h2; cases h2
    · by_cases hS : e.Sf p
      · obtain ⟨u', h2⟩ := S.self p hS; rw [hp] at h2; cases h2
      · rw [S.keep p u q hB hS] at hp; cases hp
theorem Sim.apart (S : Sim T e F δ σ H) {p : Addr} (hp : H p = none) : ∀ (i : Nat) (sv : SV), δ[i]? = some (some sv) → sv.isVal = false → σ[i]? ≠ some (some (.ref p)) := fun i sv q hv z => by
  obtain ⟨v, h1, h2, _⟩ := S.slot i sv q
  obtain ⟨a, o', e1, e2, _⟩ := h2.there hv
  rw [z] at h1; cases h1; cases e1
  rw [hp] at e2; cases e2
/-- f(g(e, ..)), where g makes a bag for f alone -/
def wBagCall (fo : FO) (f : FS) (ws : WA) : W := fun δ Q => ws δ fun svs => cntBag svs = 0 ∧ fo svs fun ds => (∃ x y z : Int, ds = [.int x, .int y, .int z] ∧ 0 ≤ x ∧ 0 ≤ y ∧ 0 ≤ z) ∧ f [.bag] fun d => Q (.val d)
def liftCO (T : Tb) (f : FO) : List V → Hp → VK → Prop := fun vs H Q => liftSpO T f vs H Q fun _ _ _ => False
theorem d_bagCall {fo : FO} {f : FS} {g h : Addr} {x y : Str} {p1 p2 : Pos} (hc : CallR X (.ref h) (liftC T f)) (hco : CallR X (.ref g) (liftCO T fo)) (hm : X.mg x = some (.ref h)) (hk : PySem.W.keepIn X.K (.ref h) = true) (hmo : X.mg y = some (.ref g)) (hko : PySem.W.keepIn X.K (.ref g) = true)
    (ha : PA X (a :: es) (liftA T ws)) (hg : Gl X x := by rfl) (hgo : Gl X y := by rfl) (hdb : (x == ("__debug__" : Str)) = false := by decide) (hdo : (y == ("__debug__" : Str)) = false := by decide)
    (he : starEach (a :: es) X.env = (false, eval a X.env) :: starEach es X.env := by rfl) (hpl : (backTo p2 (starEach es X.env)).any (·.1) = false := by rfl)
    (heo : starEach [.Call (.Name y p1) (a :: es) [] p2] X.env = (false, eval (.Call (.Name y p1) (a :: es) [] p2) X.env) :: starEach [] X.env := by rfl) (hpo : (backTo pos (starEach [] X.env)).any (·.1) = false := by rfl) :
    PE X (.Call (.Name x p) [.Call (.Name y p1) (a :: es) [] p2] [] pos) (lift T (wBagCall fo f ws)) := by
  refine PE.weak (pe_callR hc hm hk (pa_cons (pe_callR hco hmo hko ha hgo hdo he hpl) pa_nil heo) hg hdb heo hpo) fun σ H Q ⟨e, F, δ, Qd, S, w, k⟩ => ?_
  refine ⟨e, F, δ, _, S, w, fun vs H1 F1 svs S1 l1 r1 ⟨hc0, q1⟩ => ?_⟩
  have nb : ∀ b, ¬ bagsOf vs svs b := fun b ⟨i, z, _⟩ => cntBag_no hc0 z
  refine ⟨F1, svs, _, S1.subT, ResA.relA S1 r1, by rw [hc0]; decide, q1, fun v H2 F2 ds gr ow fresh ⟨⟨x, y, z, e0, n1, n2, n3⟩, q2⟩ => ?_⟩
  subst e0
  obtain ⟨a2, us, rfl, g1, g2, g3⟩ := ow
  have hus : us = [.int x, .int y, .int z] := by
    obtain ⟨v1, v2, v3, rfl, h1, h2, h3⟩ := IsL.three g3
    cases h1.intE; cases h2.intE; cases h3.intE; rfl
  subst hus
  have S2 : Sim T e F2 δ σ H2 := S1.grow (bagsOf vs svs) (fun b z => (nb b z).elim) gr.le gr.sub gr.new gr.keep gr.bags gr.tabs
  have hn := fresh a2 rfl
  have p0 := S1.h0none hn
  have ps := S1.apart hn
  refine ⟨F2, [.bag], fun d => Qd (.val d), S2.subT, ⟨⟨a2, rfl, ⟨x, y, z, g1, n1, n2, n3⟩, g2⟩, trivial⟩, by decide, q2, fun v H3 F3 d gr' i' q' => ?_⟩
  have inb : bagsOf [V.ref a2] [SV.bag] a2 := ⟨0, rfl, rfl⟩
  have onb : ∀ b, bagsOf [V.ref a2] [SV.bag] b → b = a2 := fun b ⟨i, h1, h2⟩ => by
    cases i with
    | zero => simp at h2; exact h2.symm
    | succ i => simp at h1
  refine k v H3 F3 (.val d) (S2.growF p0 ps gr'.le gr'.sub gr'.new (fun b o h hne ht => gr'.keep b o h (fun z => hne (onb b z)) ht) (gr'.bags a2 inb) ⟨x, y, z, g1, n1, n2, n3⟩ gr'.tabs) ((l1.trans gr.le).trans gr'.le) i' q'
/-- a slice, of the script too -/
def slDX (x : D) (lo hi : Option Int) (Q : SV → Prop) : Prop := match x with
  | .scr ns => Q (.own (cutD (ns.map D.int) lo hi))
  | d => slD d lo hi Q
def wSlX (wa : W) (l h : WO) : W := fun δ Q => wa δ fun x => wd x fun d => l δ fun lo => h δ fun hi => slDX d lo hi Q
theorem d_slX (hK : T.K = X.K) {p2 : Pos} {lo hi : Option Expr} {wl wh : WO} (ha : PE X a (lift T wa)) (hl : PO X lo (liftO T wl)) (hh : PO X hi (liftO T wh)) : PE X (.Subscript a (.Slice lo hi none p2) pos) (lift T (wSlX wa wl wh)) := by
  refine PE.weak (pe_slice (r := rSl3 X.K) (SlR.or sl_list (SlR.or sl_tupA sl_str)) ha hl hh) fun σ H Q ⟨e, F, δ, Qd, S, w, k⟩ => ?_
  refine use (te := lift T wa) S w fun x H1 F1 d S1 l1 i1 w1 => ?_
  refine ⟨e, F1, δ, _, S1, w1, fun lo H2 F2 S2 l2 w2 => ⟨e, F2, δ, _, S2, w2, fun hi H3 F3 S3 l3 w3 => ?_⟩⟩
  have i3 := Is.mono T (l2.trans l3) d i1
  have kk : Kont T e F3 δ σ Qd Q := fun v H' F' sv S' l' r' q' => k v H' F' sv S' (((l1.trans l2).trans l3).trans l') r' q'
  unfold slDX at w3
  split at w3
  · obtain ⟨a, rfl, hq⟩ := Is.scrE (X := X) hK S3.sub i3
    exact .inl ⟨a, _, rfl, hq, fun q hn => klst S3 kk hn ((isL_ints _).cut lo hi) w3⟩
  · unfold slD at w3
    split at w3
    · obtain ⟨p, vs, rfl, h1, j1⟩ := i3.lstE
      exact .inl ⟨p, vs, rfl, SqL.of (S3.sub _ _ h1), fun q hq => klst S3 kk hq (j1.cut lo hi) w3⟩
    · obtain ⟨p, vs, rfl, h1, j1⟩ := i3.tupE
      rw [hK] at h1
      refine .inr (.inl ⟨p, vs, rfl, sqT_mono S3.sub h1, fun hz => ?_, fun _ q hq => ktup S3 kk hq (j1.cut lo hi) w3⟩)
      rw [j1.len] at hz
      rw [cut_whole hz.1 hz.2] at w3
      exact kv S3 kk i3 w3
    · cases i3.strE
      exact .inr (.inr ⟨_, rfl, w3.1, kstr S3 kk w3.2⟩)
    · exact w3.elim
end
end DD
namespace DD
open PySem L2
/-! ### calls with keywords and defaults -/
def pick {α : Type} : List Nat → List α → List α
  | [], _ => []
  | i :: is, xs => match xs[i]? with
    | some x => x :: pick is xs
    | none => pick is xs
theorem pick_vals {vs : List V} {us : List Value} (r : Vals vs us) : ∀ is : List Nat, Vals (pick is vs) (pick is us)
  | [] => .nil
  | i :: is => by
    unfold pick
    cases q : vs[i]? with
    | some v =>
      obtain ⟨u, e1, e2⟩ := r.get q
      rw [e1]; exact .cons e2 (pick_vals r is)
    | none =>
      have : us[i]? = none := by rw [List.getElem?_eq_none_iff, ← r.length]; exact List.getElem?_eq_none_iff.mp q
      rw [this]; exact pick_vals r is
theorem RelA.cons {T : Tb} {F H : Hp} {v : V} {vs : List V} {sv : SV} {svs : List SV} (h : RelS T F H v sv) (z : sv.isVal = true ∨ sv = .bag) (r : RelA T F H vs svs) : RelA T F H (v :: vs) (sv :: svs) := by
  rcases z with z | rfl
  · cases sv with
    | val d => exact ⟨h, r⟩
    | own _ => cases z
    | bag => cases z
    | slf _ _ => cases z
    | pr _ _ => cases z
    | exc _ _ => exact ⟨h, r⟩
  · exact ⟨h, r⟩
theorem pick_rel {T : Tb} {F H : Hp} {vs : List V} {svs : List SV} (r : RelA T F H vs svs) : ∀ is : List Nat, RelA T F H (pick is vs) (pick is svs)
  | [] => trivial
  | i :: is => by
    unfold pick
    cases q : svs[i]? with
    | some v =>
      obtain ⟨u, e1, e2, e3⟩ := r.get q
      rw [e1]; exact RelA.cons e2 e3 (pick_rel r is)
    | none =>
      have : vs[i]? = none := by rw [List.getElem?_eq_none_iff, r.len]; exact List.getElem?_eq_none_iff.mp q
      rw [this]; exact pick_rel r is
theorem pick_bags {vs : List V} {svs : List SV} {b : Addr} (hl : vs.length = svs.length) : ∀ {is : List Nat}, bagsOf (pick is vs) (pick is svs) b → bagsOf vs svs b
  | [], ⟨i, h, _⟩ => by simp [pick] at h
  | j :: is, ⟨i, h1, h2⟩ => by
    unfold pick at h1 h2
    cases q : svs[j]? with
    | some sv =>
      have hj := (List.getElem?_eq_some_iff.mp q).1
      have q2 : vs[j]? = some (vs[j]'(by omega)) := List.getElem?_eq_getElem (by omega)
      rw [q] at h1; rw [q2] at h2
      cases i with
      | zero => simp at h1 h2; exact ⟨j, by rw [q, h1], by rw [q2, h2]⟩
      | succ i => exact pick_bags hl (is := is) ⟨i, by simpa using h1, by simpa using h2⟩
    | none =>
      have q2 : vs[j]? = none := by rw [List.getElem?_eq_none_iff, hl]; exact List.getElem?_eq_none_iff.mp q
      rw [q] at h1; rw [q2] at h2
      exact pick_bags hl (is := is) ⟨i, h1, h2⟩
/-- n values by place, those of the names ks, then the defaults, put in the parameters' order -/
def KB (K : PySem.W.Frag) (fd : FuncData) (ps : List Str) (n : Nat) (ks : List Str) (is : List Nat) (ds : List Value) : Prop :=
  ∀ (s : Shared) (us ws : List Value), K.In s.heap → us.length = n → ws.length = ks.length → BindsTo s fd ⟨us, ks.zip ws⟩ (ps.zip (pick is ((us ++ ws) ++ ds)))
section
variable {K : PySem.W.Frag} {x qual : Str} {st : Stmt} {dvs : List V} {f : Addr} {fd : FuncData} {ps : List Str}
theorem FunX.kb0 (F : FunX K x qual st [] f fd) (n : Nat) (ks : List Str) (is : List Nat)
    (h : ∀ (kV doc pm : Value) (an : Option Addr) (cdv ct : Value) (us ws : List Value), us.length = n → ws.length = ks.length → bindArgs (PySem.W.fnOf x qual (defArgs st) (defBody st) (defScope st) .none kV doc pm an cdv ct) ⟨us, ks.zip ws⟩ = pure (ps.zip (pick is (us ++ ws)))) :
    ∃ ds, Vals [] ds ∧ KB K fd ps n ks is ds := by
  obtain ⟨oc, od, dV, kV, doc, pm, an, cdv, ct, osl, rfl, lk, hcd, hD⟩ := F.ex
  rcases hD with ⟨_, rfl⟩ | ⟨e, _⟩
  · exact ⟨[], .nil, fun s us ws _ l1 l2 => by rw [List.append_nil]; exact .of_eq (h kV doc pm an cdv ct us ws l1 l2)⟩
  · exact absurd rfl e
theorem FunX.kbD (F : FunX K x qual st dvs f fd) (hd : dvs ≠ []) (n : Nat) (ks : List Str) (is : List Nat)
    (h : ∀ (A : Addr) (kV doc pm : Value) (an : Option Addr) (cdv ct : Value) (us ws its : List Value), us.length = n → ws.length = ks.length → its.length = dvs.length →
      ∃ k, bindArgs (PySem.W.fnOf x qual (defArgs st) (defBody st) (defScope st) (.ref A) kV doc pm an cdv ct) ⟨us, ks.zip ws⟩ = seqItems? (.ref A) >>= k ∧ k (some its.toArray) = pure (ps.zip (pick is ((us ++ ws) ++ its)))) :
    ∃ ds, Vals dvs ds ∧ KB K fd ps n ks is ds := by
  obtain ⟨oc, od, dV, kV, doc, pm, an, cdv, ct, osl, rfl, lk, hcd, hD⟩ := F.ex
  rcases hD with ⟨e, _⟩ | ⟨_, A, o, its, m, rfl, lT, oT, rT⟩
  · exact absurd e hd
  · refine ⟨its, rT, fun s us ws X l1 l2 => ?_⟩
    obtain ⟨k, e1, e2⟩ := h A kV doc pm an cdv ct us ws its l1 l2 rT.length.symm
    refine BindsTo.of_looks fun M => ?_
    rw [e1]
    exact looks_items X lT oT (.of_pure e2)
end
/-- a promise as it is for the values in the order in which they are given -/
def permS (is : List Nat) (dds : List D) (sp : FS) : FS := fun svs Q => cntBag (pick is (svs ++ dds.map SV.val)) ≤ 1 ∧ sp (pick is (svs ++ dds.map SV.val)) Q
/-- a call of a known value with n values and the names ks -/
def CallRK (X : Cx) (fv : Value) (n : Nat) (ks : List Str) (r : List V → Hp → VK → Prop) : Prop := ∀ (pins : List (Addr × Obj)) (s : Shared) (σ : L2.St) (H : Hp) (vs zs : List V) (us ws : List Value) (Q : VK), Inv X pins σ H s → Vals vs us → Vals zs ws → vs.length = n → zs.length = ks.length →
  r (vs ++ zs) H Q → wpAny (model X.prog X.w) X.A (call fv us (ks.zip ws)) (EP X pins σ Q) X.xe s
section
variable {X : Cx} {T : Tb} {pos p apos : Pos} {tg a b c o : Expr} {es ifs : List Expr} {kws : List Keyword} {wa wb wc we : W} {ws wk : WA} {e : En} {F F' H H' : Hp} {δ : DEnv} {σ : L2.St} {E : XK} {CX : CXT} {k n : Nat} {f : FS} {g : Addr} {fd : FuncData} {ps ks : List Str} {is : List Nat} {dvs : List V} {ds : List Value} {dds : List D}
theorem perm_use {vs : List V} {svs : List SV} {sp : FS} {Qd : D → Prop} {Q : VK} (hFH : LeT T F H) (h2 : RelA T F H vs svs) (h : permS is dds sp svs Qd) (hdd : ∀ F, IsL T F dvs dds)
    (h5 : ∀ v H' F' d, Grow T (bagsOf vs svs) F H F' H' → Is T F' v d → Qd d → Q v H') : liftSp T sp (pick is (vs ++ dvs)) H Q E := by
  refine ⟨F, pick is (svs ++ dds.map SV.val), Qd, hFH, pick_rel (RelA.app h2 (hdd F)) is, h.1, h.2, fun v H' F' d g i' q => h5 v H' F' d ⟨g.le, g.sub, g.new, fun b o z nb ht => g.keep b o z (fun y => nb ?_) ht, fun b hb => ?_, g.tabs⟩ i' q⟩
  · have hl : (vs ++ dvs).length = (svs ++ dds.map SV.val).length := (RelA.app h2 (hdd F)).len
    exact bagsOf_app h2.len (pick_bags hl y)
  · by_cases y : bagsOf (pick is (vs ++ dvs)) (pick is (svs ++ dds.map SV.val)) b
    · exact g.bags b y
    · obtain ⟨i, h1, h3⟩ := hb
      obtain ⟨v, e1, ⟨a, e2, ⟨f, s, c, e3, e4⟩, _⟩, _⟩ := h2.get h1
      rw [h3] at e1; cases e1; cases e2
      exact ⟨f, s, c, g.keep _ _ e3 y (noTab hFH.2.1 e3 fun _ z => by cases z), e4⟩
theorem callP (G : FnG X.prog X.w X.K X.mg X.base CX k g fd ps (liftSp T f)) (hr : RoomG k X.A) (hb : KB X.K fd ps n ks is ds) (hd : Vals dvs ds) (hx : Passes CX X E) (hdd : ∀ F, IsL T F dvs dds) : CallRK X (.ref g) n ks (liftC T (permS is dds f)) := by
  intro pins s σ H vs zs us ws Q I rv rz l1 l2 ⟨F, svs, Qd, hFH, h2, h3, h4, h5⟩
  have rr : Vals (pick is ((vs ++ zs) ++ dvs)) (pick is ((us ++ ws) ++ ds)) := pick_vals ((rv.append rz).append hd) is
  have hsp : liftSp T f (pick is ((vs ++ zs) ++ dvs)) H Q E := perm_use hFH h2 h4 hdd h5
  have run := G.run X.A X.stack s H ⟨us, ks.zip ws⟩ _ _ Q E hr I.env0 (hb s us ws I.kIn (rv.length.symm.trans l1) (rz.length.symm.trans l2)) rr hsp
  refine wpAny_call (codeAny_mono run ?_)
  rintro (e | fl) s' q
  · exact hx pins σ H s e s' I q
  · cases fl <;> first | exact I.after q | exact q.elim
theorem PK.weak {t t' : TA} (h : PK X kws t) (k : ∀ σ H Q, t' σ H Q → t σ H Q) : PK X kws t' := ⟨fun pos pins s σ H Q I q => h.run pos pins s σ H Q I (k _ _ _ q)⟩
theorem k_nil : PK X [] (liftA T wNil) := PK.weak pk_nil fun σ H Q ⟨e, F, δ, Qd, S, w, k⟩ => k [] H F [] S (Le.refl F) trivial w
theorem cons_lift {te : TE} {σ : L2.St} {H : Hp} {Q : List V → Hp → Prop} (h : liftA T (wCons wa ws) σ H Q) : tCons (lift T wa) (liftA T ws) σ H Q := by
  obtain ⟨e, F, δ, Qd, S, w, k⟩ := h
  refine ⟨e, F, δ, _, S, w, fun v H1 F1 sv S1 l1 r1 q1 => ?_⟩
  cases sv with
  | val d =>
    exact ⟨e, F1, δ, _, S1, q1, fun vs H2 F2 svs S2 l2 r2 q2 => k (v :: vs) H2 F2 (.val d :: svs) S2 (l1.trans l2) ⟨Is.mono T l2 d r1, r2⟩ q2⟩
  | own ds =>
    obtain ⟨F2, d, l2, S2, i2, q2⟩ := r1.wd S1 (k := fun d => ws δ fun svs => Qd (.val d :: svs)) q1
    exact ⟨e, F2, δ, _, S2, q2, fun vs H3 F3 svs S3 l3 r3 q3 => k (v :: vs) H3 F3 (.val d :: svs) S3 ((l1.trans l2).trans l3) ⟨Is.mono T l3 d i2, r3⟩ q3⟩
  | bag =>
    exact ⟨e, F1, δ, _, S1, q1, fun vs H2 F2 svs S2 l2 r2 q2 => k (v :: vs) H2 F2 (.bag :: svs) S2 (l1.trans l2) ⟨r1, r2⟩ q2⟩
  | slf _ _ => exact r1.elim
  | pr _ _ => exact q1.elim
  | exc _ _ => exact q1.elim
theorem k_cons {nm : Option Str} {kpos : Pos} (ha : PE X a (lift T wa)) (hr : PK X kws (liftA T ws)) : PK X (⟨nm, a, kpos⟩ :: kws) (liftA T (wCons wa ws)) := PK.weak (pk_cons ha hr) fun σ H Q h => cons_lift (te := lift T wa) h
/-- f(e, .., k = v, ..) -/
def wCallK (n m : Nat) (f : FS) (ws wk : WA) : W := fun δ Q => ws δ fun svs => wk δ fun zsv => (svs.length = n ∧ zsv.length = m) ∧ cntBag (svs ++ zsv) ≤ 1 ∧ f (svs ++ zsv) fun d => Q (.val d)
theorem resA_app {F : Hp} : ∀ {vs zs : List V} {svs zsv : List SV}, ResA T F δ σ vs svs → ResA T F δ σ zs zsv → ResA T F δ σ (vs ++ zs) (svs ++ zsv)
  | [], zs, [], zsv, _, h => h
  | [], _, _ :: _, _, h, _ => h.elim
  | _ :: _, _, [], _, h, _ => h.elim
  | v :: vs, zs, .val d :: svs, zsv, h, h' => ⟨h.1, resA_app h.2 h'⟩
  | v :: vs, zs, .bag :: svs, zsv, h, h' => ⟨h.1, resA_app h.2 h'⟩
  | v :: vs, zs, .own _ :: svs, zsv, h, h' => h.elim
  | v :: vs, zs, .slf _ _ :: svs, zsv, h, h' => h.elim
  | v :: vs, zs, .pr _ _ :: svs, zsv, h, h' => h.elim
theorem resA_len {F : Hp} : ∀ {vs : List V} {svs : List SV}, ResA T F δ σ vs svs → vs.length = svs.length
  | [], [], _ => rfl
  | [], _ :: _, q => q.elim
  | v :: vs, [], q => q.elim
  | v :: vs, .val d :: svs, q => by rw [List.length_cons, List.length_cons, resA_len q.2]
  | v :: vs, .bag :: svs, q => by rw [List.length_cons, List.length_cons, resA_len q.2]
  | v :: vs, .own _ :: svs, q => q.elim
  | v :: vs, .slf _ _ :: svs, q => q.elim
  | v :: vs, .pr _ _ :: svs, q => q.elim
  | v :: vs, .exc _ _ :: svs, q => q.elim
/-- what the values leave for the call -/
def tCK (n m : Nat) (r : List V → Hp → VK → Prop) (t tk : TA) : TE := fun σ H Q => t σ H fun vs H1 => tk σ H1 fun zs H2 => vs.length = n ∧ zs.length = m ∧ r (vs ++ zs) H2 Q
theorem lift_CK {n m : Nat} {σ : L2.St} {H : Hp} {Q : VK} (h : lift T (wCallK n m f ws wk) σ H Q) : tCK n m (liftC T f) (liftA T ws) (liftA T wk) σ H Q := by
  obtain ⟨e, F, δ, Qd, S, w, k⟩ := h
  refine ⟨e, F, δ, _, S, w, fun vs H1 F1 svs S1 l1 r1 q1 => ⟨e, F1, δ, _, S1, q1, fun zs H2 F2 zsv S2 l2 r2 ⟨⟨q2, q3⟩, q4, q5⟩ => ⟨by rw [resA_len r1, q2], by rw [resA_len r2, q3], ?_⟩⟩⟩
  exact use_sp S2 (resA_app (ResA.mono l2 r1) r2) q4 q5 fun v H' F' d S' l' i' q' => k v H' F' (.val d) S' ((l1.trans l2).trans l') i' q'
theorem d_callK {x : Str} {n : Nat} {fv : Addr} (hc : CallRK X (.ref fv) n ks (liftC T f)) (hm : X.mg x = some (.ref fv)) (hk : PySem.W.keepIn X.K (.ref fv) = true) (ha : PA X (a :: es) (liftA T ws)) (hkw : PK X kws (liftA T wk)) (hg : Gl X x := by rfl)
    (hall : (backToKw pos (keywordEach kws X.env)).all (·.1.isSome) = true := by rfl) (hks : (backToKw pos (keywordEach kws X.env)).filterMap (·.1) = ks := by rfl)
    (hdb : (x == ("__debug__" : Str)) = false := by decide) (he : starEach (a :: es) X.env = (false, eval a X.env) :: starEach es X.env := by rfl)
    (hpl : ((backTo pos (starEach (a :: es) X.env)).any (·.1) || (backToKw pos (keywordEach kws X.env)).any (·.1.isNone)) = false := by rfl) : PE X (.Call (.Name x p) (a :: es) kws pos) (lift T (wCallK n ks.length f ws wk)) := by
  constructor
  intro pins s σ H Q I h
  apply wpAny_Call_Name_kw
  apply ld_glob I hg hm _ hdb
  refine PySem.W.callWith_KW (h₀ := X.base) I.ok.mod.kin hk hall (thn (ha.run pos pins s σ H _ I (lift_CK h)) ?_) hpl he
  rintro us s1 ⟨vs, H1, I1, rv, q⟩
  refine thn (hkw.run pos pins s1 σ H1 _ I1 q) ?_
  rintro ws s2 ⟨zs, H2, I2, rz, l1, l2, q2⟩
  rw [hks]
  exact ⟨I2.kIn, hc pins s2 σ H2 vs zs us ws Q I2 rv rz l1 l2 q2⟩
/-- f(k = v, ..) -/
theorem d_callK0 {x : Str} {fv : Addr} (hc : CallRK X (.ref fv) 0 ks (liftC T f)) (hm : X.mg x = some (.ref fv)) (hk : PySem.W.keepIn X.K (.ref fv) = true) (hkw : PK X kws (liftA T wk)) (hg : Gl X x := by rfl)
    (hall : (backToKw pos (keywordEach kws X.env)).all (·.1.isSome) = true := by rfl) (hks : (backToKw pos (keywordEach kws X.env)).filterMap (·.1) = ks := by rfl)
    (hdb : (x == ("__debug__" : Str)) = false := by decide)
    (hpl : ((backTo pos (starEach [] X.env)).any (·.1) || (backToKw pos (keywordEach kws X.env)).any (·.1.isNone)) = false := by rfl) : PE X (.Call (.Name x p) [] kws pos) (lift T (wCallK 0 ks.length f wNil wk)) := by
  constructor
  intro pins s σ H Q I h
  apply wpAny_Call_Name_kw
  apply ld_glob I hg hm _ hdb
  have h2 : tCK 0 ks.length (liftC T f) (fun σ H Q => Q [] H) (liftA T wk) σ H Q := by
    obtain ⟨e, F, δ, Qd, S, w, k⟩ := h
    exact ⟨e, F, δ, _, S, w, fun zs H2 F2 zsv S2 l2 r2 ⟨⟨_, q3⟩, q4, q5⟩ => ⟨rfl, by rw [resA_len r2, q3], use_sp S2 r2 q4 q5 fun v H' F' d S' l' i' q' => k v H' F' (.val d) S' (l2.trans l') i' q'⟩⟩
  refine PySem.W.callWith_KW0 (h₀ := X.base) I.ok.mod.kin hk hall (thn (hkw.run pos pins s σ H _ I h2) ?_) hpl
  rintro ws s2 ⟨zs, H2, I2, rz, l1, l2, q2⟩
  rw [hks]
  exact ⟨I2.kIn, hc pins s2 σ H2 [] zs [] ws Q I2 .nil rz l1 l2 q2⟩
theorem pick_succ {α : Type} {x : α} {xs : List α} : ∀ is : List Nat, pick (is.map (· + 1)) (x :: xs) = pick is xs
  | [] => rfl
  | i :: is => by
    show (match (x :: xs)[i + 1]? with | some y => y :: pick (is.map (· + 1)) (x :: xs) | none => pick (is.map (· + 1)) (x :: xs)) = _
    rw [List.getElem?_cons_succ, pick_succ is]
    rfl
theorem pick_self {α : Type} {x : α} {xs : List α} (is : List Nat) : pick (0 :: is.map (· + 1)) (x :: xs) = x :: pick is xs := by
  show x :: pick (is.map (· + 1)) (x :: xs) = _
  rw [pick_succ]
/-- C(.., k = v, ..) -/
theorem makeP {c : Nat} {f : FI} (M : Mk X.K (T.ca c) g) (G : FnG X.prog X.w X.K X.mg X.base CX k g fd ps (liftIn T c f)) (hr : RoomG (k + 1) X.A)
    (hb : KB X.K fd ps (n + 1) ks (0 :: is.map (· + 1)) ds) (hd : Vals dvs ds) (hx : Passes CX X E) (hdd : ∀ F, IsL T F dvs dds) : CallRK X (.ref (T.ca c)) n ks (liftC T (permS is dds (mkF c f))) := by
  intro pins s σ H vs zs us ws Q I rv rz l1 l2 ⟨F, svs, Qd, hFH, h2, h3, ⟨hc1, hc, h4⟩, h5⟩
  have hrel := pick_rel (RelA.app h2 (hdd F)) is
  have h0 := make_use (E := E) hFH hrel hc h4 (Q := Q) (fun v H' F' d gr i' q => h5 v H' F' d ⟨gr.le, gr.sub, gr.new, fun b o z _ ht => gr.keep b o z (fun y => y) ht, (fun b hb => by
    obtain ⟨i, h1, h3⟩ := hb
    obtain ⟨v, e1, ⟨a, e2, ⟨f, s, c, e3, e4⟩, _⟩, _⟩ := h2.get h1
    rw [h3] at e1; cases e1; cases e2
    exact ⟨f, s, c, gr.keep _ _ e3 (fun y => y) (noTab hFH.2.1 e3 fun _ z => by cases z), e4⟩), gr.tabs⟩ i' q) (I.hok.fresh (Nat.le_succ s.heap.objs.size)) (I.hok.fresh (Nat.le_refl s.heap.objs.size)) (Nat.ne_of_lt (Nat.lt_succ_self _))
  have J := Inv.made (C := T.ca c) I
  have rv2 : Vals (pick (0 :: is.map (· + 1)) (((.ref (s.heap.objs.size + 1) :: vs) ++ zs) ++ dvs)) (pick (0 :: is.map (· + 1)) (((.ref (s.heap.objs.size + 1) :: us) ++ ws) ++ ds)) :=
    pick_vals (Vals.append (Vals.append (Paired.cons (show RelV (.ref (s.heap.objs.size + 1)) (.ref (s.heap.objs.size + 1)) from rfl) rv) rz) hd) _
  have gd : (X.A.under (.builtin "type.__call__" ⟨.ref (T.ca c) :: us, ks.zip ws⟩)).guards = some [] := by
    show PySem.pushGuards (Code.guards (.builtin "type.__call__" ⟨.ref (T.ca c) :: us, ks.zip ws⟩)) X.A.guards = _
    have : (Code.builtin "type.__call__" ⟨.ref (T.ca c) :: us, ks.zip ws⟩).isGuard = false := by
      show guardIds.contains "type.__call__" = false
      decide +kernel
    rw [hr.gd]
    unfold Code.guards
    rw [this]
    rfl
  have hsp : liftIn T c f (pick (0 :: is.map (· + 1)) (((.ref (s.heap.objs.size + 1) :: vs) ++ zs) ++ dvs)) (upd (upd H s.heap.objs.size (.own (s.heap.objs.size + 1))) (s.heap.objs.size + 1) (.ins (T.ca c) s.heap.objs.size [])) (fun v H2 => v = .non ∧ Q (.ref (s.heap.objs.size + 1)) H2) E := by
    rw [List.cons_append, List.cons_append, pick_self]
    exact h0
  have run := G.run _ X.stack _ _ ⟨.ref (s.heap.objs.size + 1) :: us, ks.zip ws⟩ _ _ _ E ⟨hr.rm.make (T.ca c) us (ks.zip ws), gd⟩ (J.env0.make (T.ca c) us (ks.zip ws)) (hb _ (.ref (s.heap.objs.size + 1) :: us) ws J.kIn (by rw [List.length_cons, ← rv.length, l1]) (rz.length.symm.trans l2)) rv2 hsp
  refine wpAny_call (make_map (f := g) I.kIn M.makes M.init (beq_iff_eq.mp M.fn) (codeAny_mono run ?_))
  rintro (e | fl) s' q
  · exact hx pins σ _ _ e s' J q
  · cases fl with
    | ret u =>
      obtain ⟨v, H2, J2, rv3, rfl, q3⟩ := J.after q
      exact ⟨rv3, .ref (s.heap.objs.size + 1), H2, J2, rfl, q3⟩
    | next => exact q.elim
    | brk => exact q.elim
    | cont => exact q.elim
/-- o.m(.., k = v, ..) -/
theorem d_methK {c : Nat} {m : Str} {n : Nat} {o : Expr} {wo : W} {pl : Sem Bool} {fv : Addr} (hc : CallRK X (.ref fv) (n + 1) ks (liftC T f)) (cl : Cls X.K (T.ca c)) (hm : Meth X.K (T.ca c) m fv) (hf : (T.fl c).contains m = false) (ho : PE X o (lift T wo)) (ha : PA X (a :: es) (liftA T ws)) (hkw : PK X kws (liftA T wk))
    (hall : (backToKw pos (keywordEach kws X.env)).all (·.1.isSome) = true := by rfl) (hks : (backToKw pos (keywordEach kws X.env)).filterMap (·.1) = ks := by rfl)
    (he : starEach (a :: es) X.env = (false, eval a X.env) :: starEach es X.env := by rfl)
    (hpl : ((backTo pos (starEach (a :: es) X.env)).any (·.1) || (backToKw pos (keywordEach kws X.env)).any (·.1.isNone)) = false := by rfl)
    (ht : eval (.Call (.Attribute o m apos) (a :: es) kws pos) X.env = (do
      let v ← eval o X.env
      standAt apos.atName
      let (g, one) ← holding [v] (getMethod v m pl)
      callWith pos g one (backTo pos (starEach (a :: es) X.env)) (backToKw pos (keywordEach kws X.env))) := by rfl) :
    PE X (.Call (.Attribute o m apos) (a :: es) kws pos) (lift T fun δ Q => wo δ fun x => wd x fun d => match d with
      | .ins c' ds => c' = c ∧ wCallK n ks.length (fun svs Q => cntBag (SV.val (.ins c ds) :: svs) ≤ 1 ∧ f (.val (.ins c ds) :: svs) Q) ws wk δ Q
      | _ => False) := by
  constructor
  intro pins s σ H Q I ⟨e, F, δ, Qd, S, w, k⟩
  refine PySem.W.methodCall_KW (pl := pl) (thn (ho.run pins s σ H (fun x H1 => ∃ a dx fs, x = .ref a ∧ H1 a = some (.ins (T.ca c) dx fs) ∧ fs.lookup m = none ∧ tCK n ks.length (fun vs => liftC T f (.ref a :: vs)) (liftA T ws) (liftA T wk) σ H1 Q) I ?_) ?_) ht
  · refine use (te := lift T wo) S w fun x H1 F1 d S1 l1 i1 w1 => ?_
    split at w1
    · rename_i c' ds
      obtain ⟨rfl, w1⟩ := w1
      obtain ⟨p, dx, us, rfl, h1, h2, h3⟩ := id i1.insE
      refine ⟨p, dx, _, rfl, S1.sub _ _ h1, zip_lookup_none hf, e, F1, δ, _, S1, w1, fun vs H2 F2 svs S2 l2 r2 q2 => ⟨e, F2, δ, _, S2, q2, fun zs H3 F3 zsv S3 l3 r3 ⟨⟨q3, q4⟩, q5, q6, q7⟩ => ⟨by rw [resA_len r2, q3], by rw [resA_len r3, q4], ?_⟩⟩⟩
      exact use_sp S3 (show ResA T F3 δ σ (.ref p :: (vs ++ zs)) (.val (.ins c' ds) :: (svs ++ zsv)) from ⟨Is.mono T (l2.trans l3) _ i1, resA_app (ResA.mono l3 r2) r3⟩) q6 q7 fun v H' F' d S' l' i' q' => k v H' F' (.val d) S' (((l1.trans l2).trans l3).trans l') i' q'
    · exact w1.elim
  · rintro u s1 ⟨x, H1, I1, rx, q, dx, fs, rfl, hq, hl, h2⟩
    cases rx
    apply getmeth_ok I1 hq cl hm hl
    refine PySem.W.callWith_KW (first := [.ref q]) (h₀ := X.base) I.ok.mod.kin hm.kp hall (thn (ha.run pos pins s1 σ H1 _ I1 h2) ?_) hpl he
    rintro us s2 ⟨vs, H2, I2, rv, q2⟩
    refine thn (hkw.run pos pins s2 σ H2 _ I2 q2) ?_
    rintro ws s3 ⟨zs, H3, I3, rz, l1, l2, q3⟩
    rw [hks]
    exact ⟨I3.kIn, hc pins s3 σ H3 (.ref q :: vs) zs (.ref q :: us) ws Q I3 (Paired.cons rfl rv) rz (by rw [List.length_cons, l1]) l2 q3⟩
theorem d_methK0 {c : Nat} {m : Str} {o : Expr} {wo : W} {pl : Sem Bool} {fv : Addr} (hc : CallRK X (.ref fv) 1 ks (liftC T f)) (cl : Cls X.K (T.ca c)) (hm : Meth X.K (T.ca c) m fv) (hf : (T.fl c).contains m = false) (ho : PE X o (lift T wo)) (hkw : PK X kws (liftA T wk))
    (hall : (backToKw pos (keywordEach kws X.env)).all (·.1.isSome) = true := by rfl) (hks : (backToKw pos (keywordEach kws X.env)).filterMap (·.1) = ks := by rfl)
    (hpl : ((backTo pos (starEach [] X.env)).any (·.1) || (backToKw pos (keywordEach kws X.env)).any (·.1.isNone)) = false := by rfl)
    (ht : eval (.Call (.Attribute o m apos) [] kws pos) X.env = (do
      let v ← eval o X.env
      standAt apos.atName
      let (g, one) ← holding [v] (getMethod v m pl)
      callWith pos g one (backTo pos (starEach [] X.env)) (backToKw pos (keywordEach kws X.env))) := by rfl) :
    PE X (.Call (.Attribute o m apos) [] kws pos) (lift T fun δ Q => wo δ fun x => wd x fun d => match d with
      | .ins c' ds => c' = c ∧ wk δ fun zsv => zsv.length = ks.length ∧ cntBag zsv ≤ 1 ∧ f (.val (.ins c ds) :: zsv) fun d => Q (.val d)
      | _ => False) := by
  constructor
  intro pins s σ H Q I ⟨e, F, δ, Qd, S, w, k⟩
  refine PySem.W.methodCall_KW (pl := pl) (thn (ho.run pins s σ H (fun x H1 => ∃ a dx fs, x = .ref a ∧ H1 a = some (.ins (T.ca c) dx fs) ∧ fs.lookup m = none ∧ liftA T wk σ H1 fun zs H2 => zs.length = ks.length ∧ liftC T f (.ref a :: zs) H2 Q) I ?_) ?_) ht
  · refine use (te := lift T wo) S w fun x H1 F1 d S1 l1 i1 w1 => ?_
    split at w1
    · rename_i c' ds
      obtain ⟨rfl, w1⟩ := w1
      obtain ⟨p, dx, us, rfl, h1, h2, h3⟩ := id i1.insE
      refine ⟨p, dx, _, rfl, S1.sub _ _ h1, zip_lookup_none hf, e, F1, δ, _, S1, w1, fun zs H3 F3 zsv S3 l3 r3 ⟨q4, q6, q7⟩ => ⟨by rw [resA_len r3, q4], ?_⟩⟩
      exact use_sp S3 (show ResA T F3 δ σ (.ref p :: zs) (.val (.ins c' ds) :: zsv) from ⟨Is.mono T l3 _ i1, r3⟩) q6 q7 fun v H' F' d S' l' i' q' => k v H' F' (.val d) S' ((l1.trans l3).trans l') i' q'
    · exact w1.elim
  · rintro u s1 ⟨x, H1, I1, rx, q, dx, fs, rfl, hq, hl, h2⟩
    cases rx
    apply getmeth_ok I1 hq cl hm hl
    refine PySem.W.callWith_KW0 (first := [.ref q]) (h₀ := X.base) I.ok.mod.kin hm.kp hall (thn (hkw.run pos pins s1 σ H1 _ I1 h2) ?_) hpl
    rintro ws s3 ⟨zs, H3, I3, rz, l2, q3⟩
    rw [hks]
    exact ⟨I3.kIn, hc pins s3 σ H3 [.ref q] zs [.ref q] ws Q I3 (Paired.cons rfl .nil) rz rfl l2 q3⟩
end
end DD
namespace DD
open PySem L2 PySem.W PyProof.Rows
/-! ### s[::-1] -/
def revS (z : Str) : Str := ⟨z.cps.toList.reverse.toArray⟩
theorem rev_ix (z : Str) : (⟨((Builtin.Str.strSliceIndices none none (-1) z.length).filterMap (z.cps[·]?)).toArray⟩ : Str) = revS z := by
  have h1 : Builtin.Str.strSliceIndices none none (-1) z.length = (List.range z.cps.size).map fun k => z.cps.size - 1 - k := by
    unfold Builtin.Str.strSliceIndices
    exact PySem.W.krv_sliceRange z.cps.size
  rw [h1, PySem.W.krv_range, List.filterMap_reverse, PySem.W.krv_all]
  rfl
def rRevS : V → Hp → VK → Prop := fun x H Q => ∃ z, x = .str z ∧ z.length ≤ sizeLine ∧ Q (.str (revS z)) H
section
variable {X : Cx} {T : Tb} {pos p1 p2 p3 : Pos} {a : Expr} {wa : W} {te : TE} {k : Nat}
theorem pe_rev2 (he : PE X a te) : PE X (.Subscript a (.Slice none none (some (.UnaryOp .USub (.Constant (.int 1) k p1) p2)) p3) pos)
    (fun σ H Q => te σ H fun x H1 => (∃ a xs, x = .ref a ∧ SqL X.K H1 a xs ∧ ∀ p, H1 p = none → Q (.ref p) (upd H1 p (.lst xs.reverse))) ∨ rRevS x H1 Q) := by
  constructor
  intro pins s σ H Q I h
  refine Subscript_ (thn (he.run pins s σ H _ I h) ?_)
  rintro v s1 ⟨x, H1, I1, r1, q1⟩
  have hst : PO X (some (.UnaryOp .USub (.Constant (.int 1) k p1) p2)) (tPart (tUn (rU fun i => .int (-i)) (tC (.int 1)))) := po_some (pe_un un_neg pe_int)
  refine wpAny_Slice (thn (po_none.run pins s1 σ H1 (fun o H2 => o = none ∧ H2 = H1) I1 ⟨rfl, rfl⟩) ?_)
  rintro vl s2 ⟨l, H2, I2, pl, rfl, rfl⟩
  refine thn (po_none.run pins s2 σ H2 (fun o H3 => o = none ∧ H3 = H2) I2 ⟨rfl, rfl⟩) ?_
  rintro vu s3 ⟨u, H3, I3, pu, rfl, rfl⟩
  refine thn (hst.run pins s3 σ H3 (fun o H4 => o = some (-1) ∧ H4 = H3) I3 ⟨1, rfl, -1, rfl, rfl, rfl⟩) ?_
  rintro vs s4 ⟨o, H4, I4, ps, rfl, rfl⟩
  have I5 : Inv X pins σ H4 { s4 with heap := s4.heap.push { cls := .type "slice", data := .fields #[vl, vu, vs] } } := I4.kept (t' := s4.toks) fun b ob q => Heap.get?_push_of_some _ q
  rcases q1 with ⟨b, xs, rfl, hx, q⟩ | ⟨z, rfl, hz, q⟩
  · cases r1
    obtain ⟨its, r, ht, hz⟩ := I5.list hx
    have hlen := r.length
    refine tail_any (ops := [.ref b, .ref s4.heap.objs.size]) ht.isList.typeIs (PySem.slot_list_getitem.lookup) ?_ (by with_unfolding_all rfl)
    refine wpAny_getItem_list_slice ht.isList (Heap.IsSliceOf.new _ vl vu vs) pl pu ps (by decide) ?_ (by rw [List.size_toArray]; omega)
    rw [PySem.W.krv_pick]
    refine ⟨.ref _, _, I5.laid (t' := s4.toks) (o := .lst xs.reverse) (fun b ob q => Heap.get?_push_of_some _ q) (Nat.le_refl _) ?_, rfl, q _ (I5.hok.fresh (Nat.le_refl _))⟩
    exact ⟨by rw [List.length_reverse]; exact hz, _, 0, r.reverse, Heap.get?_push_size _ rfl⟩
  · obtain ⟨t, rfl⟩ := r1
    obtain ⟨l, rfl, hl⟩ := IsPart.raw pl
    obtain ⟨u, rfl, hu⟩ := IsPart.raw pu
    obtain ⟨st, rfl, hst'⟩ := IsPart.raw ps
    refine tail_any (ops := [.str z t, .ref s4.heap.objs.size]) (typeIs_str _ _ _) (PySem.F.slot_str_getitem.lookup) ?_ (by with_unfolding_all rfl)
    refine wpAny_getItem_str_slice (l := l) (u := u) (st := st) ⟨_, Heap.get?_push_size _ rfl, rfl, rfl⟩ (by rw [hst']; rfl) ?_
    unfold sliceMade slicePicked
    rw [hl, hu, hst']
    show Made.post (if ((-1 : Int) == 1 && _) = true then _ else Made.str ⟨((Builtin.Str.strSliceIndices none none (-1) z.length).filterMap (z.cps[·]?)).toArray⟩) (EP X pins σ Q) _
    rw [if_neg (by simp), rev_ix]
    refine ⟨?_, .str _, H4, I5.tok _, ⟨_, rfl⟩, q⟩
    show (z.cps.toList.reverse.toArray).size ≤ _
    rw [List.size_toArray, List.length_reverse, Array.length_toList]; exact hz
def revD : P1f := fun x Q => match x with
  | .lst ds => Q (.own ds.reverse)
  | .str s => szOk s.length ∧ Q (.val (.str (revS s)))
  | _ => False
theorem IsL.rev {F : Hp} : ∀ {vs : List V} {ds : List D}, IsL T F vs ds → IsL T F vs.reverse ds.reverse
  | vs, [], h => by rw [h.nilE]; exact IsL.nil T
  | vs, d :: ds, h => by
    unfold IsL at h
    obtain ⟨v, r, rfl, h1, h2⟩ := h
    rw [List.reverse_cons, List.reverse_cons]
    exact IsL.app T (IsL.rev h2) (IsL.one T h1)
theorem d_rev (ha : PE X a (lift T wa)) : PE X (.Subscript a (.Slice none none (some (.UnaryOp .USub (.Constant (.int 1) k p1) p2)) p3) pos) (lift T (wUn revD wa)) := by
  refine PE.weak (pe_rev2 ha) fun σ H Q ⟨e, F, δ, Qd, S, w, kk⟩ => ?_
  refine use (te := lift T wa) S w fun x H1 F1 d S1 l1 i1 w1 => ?_
  have k2 : Kont T e F1 δ σ Qd Q := fun v H' F' sv S' l' r' q' => kk v H' F' sv S' (l1.trans l') r' q'
  unfold revD at w1
  split at w1
  · obtain ⟨p, vs, rfl, h1, j1⟩ := i1.lstE
    exact .inl ⟨p, vs, rfl, SqL.of (S1.sub _ _ h1), fun q hq => klst S1 k2 hq (IsL.rev j1) w1⟩
  · cases i1.strE
    exact .inr ⟨_, rfl, w1.1, kstr S1 k2 w1.2⟩
  · exact w1.elim
end
end DD
namespace DD
open PySem L2
/-! ### what stands behind the top, by what it promises -/
section
variable (P : Program) (w : World) (K : PySem.W.Frag) (mg : Str → Option Value) (base : Heap) (T : Tb) (k : Nat)
structure CalD (x : Str) (sp : FS) : Prop where
  ex : ∃ (g : Addr) (fd : FuncData) (ps : List Str), FnG P w K mg base CX0 k g fd ps (liftSp T sp) ∧ mg x = some (.ref g) ∧ PySem.W.keepIn K (.ref g) = true ∧ Binds K fd ps []
structure CalO (x : Str) (sp : FO) : Prop where
  ex : ∃ (g : Addr) (fd : FuncData) (ps : List Str), FnG P w K mg base CX0 k g fd ps (liftSpO T sp) ∧ mg x = some (.ref g) ∧ PySem.W.keepIn K (.ref g) = true ∧ Binds K fd ps []
structure CalK (x : Str) (n : Nat) (ks : List Str) (is : List Nat) (dds : List D) (sp : FS) : Prop where
  ex : ∃ (g : Addr) (fd : FuncData) (ps : List Str) (dvs : List V) (ds : List Value), FnG P w K mg base CX0 k g fd ps (liftSp T sp) ∧ mg x = some (.ref g) ∧ PySem.W.keepIn K (.ref g) = true ∧ KB K fd ps n ks is ds ∧ Vals dvs ds ∧ ∀ F, IsL T F dvs dds
structure NewD (c : Nat) (x : Str) (f : FI) : Prop where
  ex : ∃ (g : Addr) (fd : FuncData) (ps : List Str), Mk K (T.ca c) g ∧ FnG P w K mg base CX0 k g fd ps (liftIn T c f) ∧ mg x = some (.ref (T.ca c)) ∧ Binds K fd ps []
structure NewK (c : Nat) (x : Str) (n : Nat) (ks : List Str) (is : List Nat) (dds : List D) (f : FI) : Prop where
  ex : ∃ (g : Addr) (fd : FuncData) (ps : List Str) (dvs : List V) (ds : List Value), Mk K (T.ca c) g ∧ FnG P w K mg base CX0 k g fd ps (liftIn T c f) ∧ mg x = some (.ref (T.ca c)) ∧ KB K fd ps (n + 1) ks (0 :: is.map (· + 1)) ds ∧ Vals dvs ds ∧ ∀ F, IsL T F dvs dds
structure MetD (c : Nat) (m : Str) (sp : FS) : Prop where
  ex : ∃ (g : Addr) (fd : FuncData) (ps : List Str), Meth K (T.ca c) m g ∧ FnG P w K mg base CX0 k g fd ps (liftSp T sp) ∧ Binds K fd ps []
structure MetK (c : Nat) (m : Str) (n : Nat) (ks : List Str) (is : List Nat) (dds : List D) (sp : FS) : Prop where
  ex : ∃ (g : Addr) (fd : FuncData) (ps : List Str) (dvs : List V) (ds : List Value), Meth K (T.ca c) m g ∧ FnG P w K mg base CX0 k g fd ps (liftSp T sp) ∧ KB K fd ps n ks is ds ∧ Vals dvs ds ∧ ∀ F, IsL T F dvs dds
end
section
variable {X : Cx} {T : Tb} {pos p p1 p2 apos : Pos} {a o : Expr} {es : List Expr} {kws : List Keyword} {wa wo : W} {ws wk : WA} {k c n : Nat} {x m : Str} {ks : List Str} {is : List Nat} {dds : List D} {sp : FS} {fi : FI}
theorem pass0X {E : XK} : Passes CX0 X E := pass0
/-- the call of a value of which all is known at each frame -/
theorem d_cal (C : CalD X.prog X.w X.K X.mg X.base T k x sp) (hr : RoomG k X.A) (ha : PA X (a :: es) (liftA T ws)) (hg : Gl X x := by rfl) (hdb : (x == ("__debug__" : Str)) = false := by decide)
    (he : starEach (a :: es) X.env = (false, eval a X.env) :: starEach es X.env := by rfl) (hpl : (backTo pos (starEach es X.env)).any (·.1) = false := by rfl) : PE X (.Call (.Name x p) (a :: es) [] pos) (lift T (wCall sp ws)) := by
  obtain ⟨g, fd, ps, G, hm, hk, hb⟩ := C.ex
  have hc : CallR X (.ref g) (liftC T sp) := by
    have := callD (E := fun _ _ _ => False) (dvs := []) (ds := []) (dds := []) G hr hb .nil pass0 (fun F => IsL.nil T)
    intro pins s σ H xs us Q I rv h
    refine this pins s σ H xs us Q I rv ?_
    obtain ⟨F, svs, Qd, h1, h2, h3, h4, h5⟩ := h
    exact ⟨F, svs, Qd, h1, h2, h3, by simpa [dflt] using h4, h5⟩
  exact d_call hc hm hk ha hg hdb he hpl
theorem d_cal0 (C : CalD X.prog X.w X.K X.mg X.base T k x sp) (hr : RoomG k X.A) (hg : Gl X x := by rfl) (hdb : (x == ("__debug__" : Str)) = false := by decide) : PE X (.Call (.Name x p) [] [] pos) (lift T (wCall sp wNil)) := by
  obtain ⟨g, fd, ps, G, hm, hk, hb⟩ := C.ex
  have hc : CallR X (.ref g) (liftC T sp) := by
    have := callD (E := fun _ _ _ => False) (dvs := []) (ds := []) (dds := []) G hr hb .nil pass0 (fun F => IsL.nil T)
    intro pins s σ H xs us Q I rv h
    refine this pins s σ H xs us Q I rv ?_
    obtain ⟨F, svs, Qd, h1, h2, h3, h4, h5⟩ := h
    exact ⟨F, svs, Qd, h1, h2, h3, by simpa [dflt] using h4, h5⟩
  exact d_call0 hc hm hk hg hdb
theorem new_call (C : NewD X.prog X.w X.K X.mg X.base T k c x fi) (hr : RoomG (k + 1) X.A) : CallR X (.ref (T.ca c)) (liftC T (mkF c fi)) ∧ X.mg x = some (.ref (T.ca c)) ∧ PySem.W.keepIn X.K (.ref (T.ca c)) = true := by
  obtain ⟨g, fd, ps, M, G, hm, hb⟩ := C.ex
  refine ⟨?_, hm, M.kp⟩
  have := makeD (E := fun _ _ _ => False) (dvs := []) (ds := []) (dds := []) M G hr hb .nil pass0 (fun F => IsL.nil T)
  intro pins s σ H xs us Q I rv h
  refine this pins s σ H xs us Q I rv ?_
  obtain ⟨F, svs, Qd, h1, h2, h3, h4, h5⟩ := h
  exact ⟨F, svs, Qd, h1, h2, h3, by simpa [dflt] using h4, h5⟩
theorem d_new (C : NewD X.prog X.w X.K X.mg X.base T k c x fi) (hr : RoomG (k + 1) X.A) (ha : PA X (a :: es) (liftA T ws)) (hg : Gl X x := by rfl) (hdb : (x == ("__debug__" : Str)) = false := by decide)
    (he : starEach (a :: es) X.env = (false, eval a X.env) :: starEach es X.env := by rfl) (hpl : (backTo pos (starEach es X.env)).any (·.1) = false := by rfl) : PE X (.Call (.Name x p) (a :: es) [] pos) (lift T (wCall (mkF c fi) ws)) := by
  obtain ⟨hc, hm, hk⟩ := new_call C hr
  exact d_call hc hm hk ha hg hdb he hpl
theorem d_new0 (C : NewD X.prog X.w X.K X.mg X.base T k c x fi) (hr : RoomG (k + 1) X.A) (hg : Gl X x := by rfl) (hdb : (x == ("__debug__" : Str)) = false := by decide) : PE X (.Call (.Name x p) [] [] pos) (lift T (wCall (mkF c fi) wNil)) := by
  obtain ⟨hc, hm, hk⟩ := new_call C hr
  exact d_call0 hc hm hk hg hdb
theorem d_calK (C : CalK X.prog X.w X.K X.mg X.base T k x n ks is dds sp) (hr : RoomG k X.A) (ha : PA X (a :: es) (liftA T ws)) (hkw : PK X kws (liftA T wk)) (hg : Gl X x := by rfl)
    (hall : (backToKw pos (keywordEach kws X.env)).all (·.1.isSome) = true := by rfl) (hks : (backToKw pos (keywordEach kws X.env)).filterMap (·.1) = ks := by rfl)
    (hdb : (x == ("__debug__" : Str)) = false := by decide) (he : starEach (a :: es) X.env = (false, eval a X.env) :: starEach es X.env := by rfl)
    (hpl : ((backTo pos (starEach (a :: es) X.env)).any (·.1) || (backToKw pos (keywordEach kws X.env)).any (·.1.isNone)) = false := by rfl) : PE X (.Call (.Name x p) (a :: es) kws pos) (lift T (wCallK n ks.length (permS is dds sp) ws wk)) := by
  obtain ⟨g, fd, ps, dvs, ds, G, hm, hk, hb, hd, hdd⟩ := C.ex
  exact d_callK (callP (E := fun _ _ _ => False) G hr hb hd pass0 hdd) hm hk ha hkw hg hall hks hdb he hpl
theorem d_calK0 (C : CalK X.prog X.w X.K X.mg X.base T k x 0 ks is dds sp) (hr : RoomG k X.A) (hkw : PK X kws (liftA T wk)) (hg : Gl X x := by rfl)
    (hall : (backToKw pos (keywordEach kws X.env)).all (·.1.isSome) = true := by rfl) (hks : (backToKw pos (keywordEach kws X.env)).filterMap (·.1) = ks := by rfl)
    (hdb : (x == ("__debug__" : Str)) = false := by decide)
    (hpl : ((backTo pos (starEach [] X.env)).any (·.1) || (backToKw pos (keywordEach kws X.env)).any (·.1.isNone)) = false := by rfl) : PE X (.Call (.Name x p) [] kws pos) (lift T (wCallK 0 ks.length (permS is dds sp) wNil wk)) := by
  obtain ⟨g, fd, ps, dvs, ds, G, hm, hk, hb, hd, hdd⟩ := C.ex
  exact d_callK0 (callP (E := fun _ _ _ => False) G hr hb hd pass0 hdd) hm hk hkw hg hall hks hdb hpl
theorem d_newK (C : NewK X.prog X.w X.K X.mg X.base T k c x n ks is dds fi) (hr : RoomG (k + 1) X.A) (ha : PA X (a :: es) (liftA T ws)) (hkw : PK X kws (liftA T wk)) (hg : Gl X x := by rfl)
    (hall : (backToKw pos (keywordEach kws X.env)).all (·.1.isSome) = true := by rfl) (hks : (backToKw pos (keywordEach kws X.env)).filterMap (·.1) = ks := by rfl)
    (hdb : (x == ("__debug__" : Str)) = false := by decide) (he : starEach (a :: es) X.env = (false, eval a X.env) :: starEach es X.env := by rfl)
    (hpl : ((backTo pos (starEach (a :: es) X.env)).any (·.1) || (backToKw pos (keywordEach kws X.env)).any (·.1.isNone)) = false := by rfl) : PE X (.Call (.Name x p) (a :: es) kws pos) (lift T (wCallK n ks.length (permS is dds (mkF c fi)) ws wk)) := by
  obtain ⟨g, fd, ps, dvs, ds, M, G, hm, hb, hd, hdd⟩ := C.ex
  exact d_callK (makeP (E := fun _ _ _ => False) M G hr hb hd pass0 hdd) hm M.kp ha hkw hg hall hks hdb he hpl
theorem d_newK0 (C : NewK X.prog X.w X.K X.mg X.base T k c x 0 ks is dds fi) (hr : RoomG (k + 1) X.A) (hkw : PK X kws (liftA T wk)) (hg : Gl X x := by rfl)
    (hall : (backToKw pos (keywordEach kws X.env)).all (·.1.isSome) = true := by rfl) (hks : (backToKw pos (keywordEach kws X.env)).filterMap (·.1) = ks := by rfl)
    (hdb : (x == ("__debug__" : Str)) = false := by decide)
    (hpl : ((backTo pos (starEach [] X.env)).any (·.1) || (backToKw pos (keywordEach kws X.env)).any (·.1.isNone)) = false := by rfl) : PE X (.Call (.Name x p) [] kws pos) (lift T (wCallK 0 ks.length (permS is dds (mkF c fi)) wNil wk)) := by
  obtain ⟨g, fd, ps, dvs, ds, M, G, hm, hb, hd, hdd⟩ := C.ex
  exact d_callK0 (makeP (E := fun _ _ _ => False) M G hr hb hd pass0 hdd) hm M.kp hkw hg hall hks hdb hpl
theorem MetD.mf (C : MetD X.prog X.w X.K X.mg X.base T k c m sp) : MF X T k c m sp := by
  obtain ⟨g, fd, ps, hM, G, hb⟩ := C.ex
  exact ⟨g, fd, ps, CX0, fun _ _ _ => False, ⟨hM.at_, hM.fn⟩, G, hb, pass0⟩
theorem met_call (C : MetD X.prog X.w X.K X.mg X.base T k c m sp) (hr : RoomG k X.A) : ∃ g : Addr, CallR X (.ref g) (liftC T sp) ∧ Meth X.K (T.ca c) m g := by
  obtain ⟨g, fd, ps, hM, G, hb⟩ := C.ex
  refine ⟨g, ?_, hM⟩
  have := callD (E := fun _ _ _ => False) (dvs := []) (ds := []) (dds := []) G hr hb .nil pass0 (fun F => IsL.nil T)
  intro pins s σ H xs us Q I rv h
  refine this pins s σ H xs us Q I rv ?_
  obtain ⟨F, svs, Qd, h1, h2, h3, h4, h5⟩ := h
  exact ⟨F, svs, Qd, h1, h2, h3, by simpa [dflt] using h4, h5⟩
theorem d_met {pl : Sem Bool} (C : MetD X.prog X.w X.K X.mg X.base T k c m sp) (hr : RoomG k X.A) (cl : Cls X.K (T.ca c)) (hf : (T.fl c).contains m = false) (ho : PE X o (lift T wo)) (ha : PA X (a :: es) (liftA T ws))
    (hst : starEach (a :: es) X.env = (false, eval a X.env) :: starEach es X.env := by rfl) (hpl : (backTo pos (starEach es X.env)).any (·.1) = false := by rfl)
    (ht : eval (.Call (.Attribute o m apos) (a :: es) [] pos) X.env = (do
      let v ← eval o X.env
      standAt apos.atName
      let (g, one) ← holding [v] (getMethod v m pl)
      callWith pos g one (backTo pos (starEach (a :: es) X.env)) (backToKw pos (keywordEach [] X.env))) := by rfl) : PE X (.Call (.Attribute o m apos) (a :: es) [] pos) (lift T (wMeth c sp wo ws)) := by
  obtain ⟨g, hc, hm⟩ := met_call C hr
  exact d_meth (pl := pl) hc cl hm hf ho ha hst hpl ht
theorem d_met0 {pl : Sem Bool} (C : MetD X.prog X.w X.K X.mg X.base T k c m sp) (hr : RoomG k X.A) (cl : Cls X.K (T.ca c)) (hf : (T.fl c).contains m = false) (ho : PE X o (lift T wo))
    (ht : eval (.Call (.Attribute o m apos) [] [] pos) X.env = (do
      let v ← eval o X.env
      standAt apos.atName
      let (g, one) ← holding [v] (getMethod v m pl)
      callWith pos g one (backTo pos (starEach [] X.env)) (backToKw pos (keywordEach [] X.env))) := by rfl) : PE X (.Call (.Attribute o m apos) [] [] pos) (lift T (wMeth c sp wo wNil)) := by
  obtain ⟨g, hc, hm⟩ := met_call C hr
  exact d_meth0 (pl := pl) hc cl hm hf ho ht
/-- o.m(.., k = v, ..) -/
def wMethK (c n m : Nat) (f : FS) (wo : W) (ws wk : WA) : W := fun δ Q => wo δ fun x => wd x fun d => match d with
  | .ins c' ds => c' = c ∧ wCallK n m (fun svs Q => cntBag (SV.val (.ins c ds) :: svs) ≤ 1 ∧ f (.val (.ins c ds) :: svs) Q) ws wk δ Q
  | _ => False
def wMethK0 (c m : Nat) (f : FS) (wo : W) (wk : WA) : W := fun δ Q => wo δ fun x => wd x fun d => match d with
  | .ins c' ds => c' = c ∧ wk δ fun zsv => zsv.length = m ∧ cntBag zsv ≤ 1 ∧ f (.val (.ins c ds) :: zsv) fun d => Q (.val d)
  | _ => False
theorem d_metK {pl : Sem Bool} (C : MetK X.prog X.w X.K X.mg X.base T k c m (n + 1) ks is dds sp) (hr : RoomG k X.A) (cl : Cls X.K (T.ca c)) (hf : (T.fl c).contains m = false) (ho : PE X o (lift T wo)) (ha : PA X (a :: es) (liftA T ws)) (hkw : PK X kws (liftA T wk))
    (hall : (backToKw pos (keywordEach kws X.env)).all (·.1.isSome) = true := by rfl) (hks : (backToKw pos (keywordEach kws X.env)).filterMap (·.1) = ks := by rfl)
    (he : starEach (a :: es) X.env = (false, eval a X.env) :: starEach es X.env := by rfl)
    (hpl : ((backTo pos (starEach (a :: es) X.env)).any (·.1) || (backToKw pos (keywordEach kws X.env)).any (·.1.isNone)) = false := by rfl)
    (ht : eval (.Call (.Attribute o m apos) (a :: es) kws pos) X.env = (do
      let v ← eval o X.env
      standAt apos.atName
      let (g, one) ← holding [v] (getMethod v m pl)
      callWith pos g one (backTo pos (starEach (a :: es) X.env)) (backToKw pos (keywordEach kws X.env))) := by rfl) :
    PE X (.Call (.Attribute o m apos) (a :: es) kws pos) (lift T (wMethK c n ks.length (permS is dds sp) wo ws wk)) := by
  obtain ⟨g, fd, ps, dvs, ds, hM, G, hb, hd, hdd⟩ := C.ex
  exact d_methK (pl := pl) (callP (E := fun _ _ _ => False) G hr hb hd pass0 hdd) cl hM hf ho ha hkw hall hks he hpl ht
theorem d_metK0 {pl : Sem Bool} (C : MetK X.prog X.w X.K X.mg X.base T k c m 1 ks is dds sp) (hr : RoomG k X.A) (cl : Cls X.K (T.ca c)) (hf : (T.fl c).contains m = false) (ho : PE X o (lift T wo)) (hkw : PK X kws (liftA T wk))
    (hall : (backToKw pos (keywordEach kws X.env)).all (·.1.isSome) = true := by rfl) (hks : (backToKw pos (keywordEach kws X.env)).filterMap (·.1) = ks := by rfl)
    (hpl : ((backTo pos (starEach [] X.env)).any (·.1) || (backToKw pos (keywordEach kws X.env)).any (·.1.isNone)) = false := by rfl)
    (ht : eval (.Call (.Attribute o m apos) [] kws pos) X.env = (do
      let v ← eval o X.env
      standAt apos.atName
      let (g, one) ← holding [v] (getMethod v m pl)
      callWith pos g one (backTo pos (starEach [] X.env)) (backToKw pos (keywordEach kws X.env))) := by rfl) :
    PE X (.Call (.Attribute o m apos) [] kws pos) (lift T (wMethK0 c ks.length (permS is dds sp) wo wk)) := by
  obtain ⟨g, fd, ps, dvs, ds, hM, G, hb, hd, hdd⟩ := C.ex
  exact d_methK0 (pl := pl) (callP (E := fun _ _ _ => False) G hr hb hd pass0 hdd) cl hM hf ho hkw hall hks hpl ht
/-- f(g(e, ..)), the bag's maker within -/
theorem d_calB {fo : FO} {y : Str} {j : Nat} (C : CalD X.prog X.w X.K X.mg X.base T k x sp) (CO : CalO X.prog X.w X.K X.mg X.base T j y fo) (hr : RoomG k X.A) (hro : RoomG j X.A)
    (ha : PA X (a :: es) (liftA T ws)) (hg : Gl X x := by rfl) (hgo : Gl X y := by rfl) (hdb : (x == ("__debug__" : Str)) = false := by decide) (hdo : (y == ("__debug__" : Str)) = false := by decide)
    (he : starEach (a :: es) X.env = (false, eval a X.env) :: starEach es X.env := by rfl) (hpl : (backTo p2 (starEach es X.env)).any (·.1) = false := by rfl)
    (heo : starEach [.Call (.Name y p1) (a :: es) [] p2] X.env = (false, eval (.Call (.Name y p1) (a :: es) [] p2) X.env) :: starEach [] X.env := by rfl) (hpo : (backTo pos (starEach [] X.env)).any (·.1) = false := by rfl) :
    PE X (.Call (.Name x p) [.Call (.Name y p1) (a :: es) [] p2] [] pos) (lift T (wBagCall fo sp ws)) := by
  obtain ⟨g, fd, ps, G, hm, hk, hb⟩ := C.ex
  obtain ⟨g', fd', ps', G', hm', hk', hb'⟩ := CO.ex
  have hc : CallR X (.ref g) (liftC T sp) := by
    have := callD (E := fun _ _ _ => False) (dvs := []) (ds := []) (dds := []) G hr hb .nil pass0 (fun F => IsL.nil T)
    intro pins s σ H xs us Q I rv h
    refine this pins s σ H xs us Q I rv ?_
    obtain ⟨F, svs, Qd, h1, h2, h3, h4, h5⟩ := h
    exact ⟨F, svs, Qd, h1, h2, h3, by simpa [dflt] using h4, h5⟩
  have hco : CallR X (.ref g') (liftCO T fo) := by
    have := callG (E := fun _ _ _ => False) (dvs := []) (ds := []) G' hro hb' .nil pass0
    intro pins s σ H xs us Q I rv h
    refine this pins s σ H xs us Q I rv ?_
    show liftSpO T fo (xs ++ []) H Q _
    rw [List.append_nil]; exact h
  exact d_bagCall hc hco hm hk hm' hk' ha hg hgo hdb hdo he hpl heo hpo
end
/-! ### lists of the frame's own, looked at -/
theorem frz1_bag {δ : DEnv} {i j : Nat} : (frz1 δ i)[j]? = some (some .bag) ↔ δ[j]? = some (some .bag) := by
  unfold frz1
  split
  · rename_i ds hi
    by_cases h : i = j
    · subst h
      rw [List.getElem?_set_self (List.getElem?_eq_some_iff.mp hi).1, hi]
      constructor <;> (intro z; cases z)
    · rw [List.getElem?_set_ne h]
  · rfl
theorem frzD_bag {j : Nat} : ∀ (is : List Nat) {δ : DEnv}, (frzD is δ)[j]? = some (some .bag) ↔ δ[j]? = some (some .bag)
  | [], δ => Iff.rfl
  | i :: is, δ => (frzD_bag is (δ := frz1 δ i)).trans frz1_bag
def prim : D → Prop
  | .non => True
  | .bl _ => True
  | .int _ => True
  | .str _ => True
  | _ => False
section
variable {X : Cx} {T : Tb} {a : Expr} {wa : W} {ta : WT} {e : En} {F F1 F' H H' : Hp} {δ δ' : DEnv} {σ σ' : L2.St}
theorem prim_is {v : V} {d : D} (hp : prim d) (i : Is T F v d) : Is T F' v d := by
  cases d with
  | non => cases i.nonE; exact Is.non
  | bl b => cases i.blE; exact Is.bl
  | int b => cases i.intE; exact Is.int
  | str b => cases i.strE; exact Is.str
  | _ => exact hp.elim
theorem Sim.unlook {is : List Nat} (S : Sim T e F δ σ H) (S' : Sim T (enB T F1 H (DD.frzD is δ) σ) F' δ' σ' H') : Sim T e F δ σ H' := by
  have kp : ∀ b o, H b = some o → ¬ (∃ i : Nat, δ[i]? = some (some .bag) ∧ σ[i]? = some (some (.ref b))) → ¬ T.tb b → H' b = some o := fun b o h hb ht =>
    S'.keep b o h (fun ⟨i, z1, z2⟩ => hb ⟨i, (frzD_bag is).mp z1, z2⟩) ht
  refine S.grow (fun b => ∃ i : Nat, δ[i]? = some (some .bag) ∧ σ[i]? = some (some (.ref b))) (fun b h => h) (Le.refl F) (fun b o q => kp b o (S.sub b o q) ?_ fun z => by rw [S.fnTab z] at q; cases q) (fun b o q => .inl q) kp (fun b ⟨i, z1, z2⟩ => S'.bags b ⟨i, (frzD_bag is).mpr z1, z2⟩) S'.tabs.1
  rintro ⟨i, z1, z2⟩
  obtain ⟨v, e1, ⟨p, e2, _, e3⟩, _⟩ := S.slot i _ z1
  rw [z2] at e1; cases e1; cases e2
  rw [q] at e3; cases e3
def wLook (is : List Nat) (w : W) : W := fun δ Q => w (blkD (frzD is δ) []) fun x => wd x fun d => prim d ∧ Q (.val d)
def wLookT (is : List Nat) (w : WT) : WT := fun δ Q => w (blkD (frzD is δ) []) Q
theorem d_look (is : List Nat) (ha : PE X a (lift T wa)) : PE X a (lift T (wLook is wa)) := PE.weak ha fun σ H Q ⟨e, F, δ, Qd, S, w, k⟩ => by
  obtain ⟨F1, l1, S1⟩ := S.frzD is
  refine use (te := lift T wa) (S1.blk []) w fun v H' F' d S' l' i' ⟨hp, q'⟩ => ?_
  exact k v H' F (.val d) (S.unlook S') (Le.refl F) (prim_is hp i') q'
theorem t_look (is : List Nat) (ha : PT X a (liftT T ta)) : PT X a (liftT T (wLookT is ta)) := PT.weak ha fun σ H Q ⟨e, F, δ, Qd, S, w, k⟩ => by
  obtain ⟨F1, l1, S1⟩ := S.frzD is
  exact ⟨_, F1, _, Qd, S1.blk [], w, fun b H' F' S' l' q' => k b H' F (S.unlook S') (Le.refl F) q'⟩
end
end DD
namespace DD
open PySem L2 PyProof.Rows
/-! ### s * n -/
def repS (x : Str) (n : Nat) : Str := ⟨((List.replicate n x.cps.toList).flatten).toArray⟩
theorem fold_rep (a : Array Nat) : ∀ (n : Nat) (acc : Array Nat), ((List.replicate n a).foldl (· ++ ·) acc).toList = acc.toList ++ (List.replicate n a.toList).flatten
  | 0, acc => by simp
  | n + 1, acc => by
    rw [List.replicate_succ, List.foldl_cons, fold_rep a n, List.replicate_succ, List.flatten_cons, Array.toList_append, List.append_assoc]
theorem mul_rep (x : Str) (n : Int) : Txt.mul x n = repS x n.toNat := by
  unfold Txt.mul repS
  split
  · rename_i h
    have : n.toNat = 0 := by omega
    rw [this]; rfl
  · rename_i h
    split
    · rename_i h2
      rcases Bool.or_eq_true_iff.mp h2 with z | z
      · have : n.toNat = 1 := by rw [beq_iff_eq.mp z]; rfl
        rw [this]
        simp
      · have h3 : x.cps.toList = [] := List.eq_nil_of_length_eq_zero (by rw [Array.length_toList]; exact beq_iff_eq.mp z)
        obtain ⟨⟨l⟩⟩ := x
        simp only at h3
        subst h3
        simp
    · have := fold_rep x.cps n.toNat #[]
      rw [show (#[] : Array Nat).toList = [] from rfl, List.nil_append] at this
      rw [← this]
def rRepS : R2 := fun x y H Q => ∃ (s : Str) (j : Int), x = .str s ∧ y = .int j ∧ (-(2 ^ 63) ≤ j ∧ j < 2 ^ 63) ∧ s.length * j.toNat ≤ sizeLine ∧ Q (.str (repS s j.toNat)) H
section
variable {X : Cx} {T : Tb}
theorem op_repS : OpR X (binaryOp .Mult) rRepS := by
  intro pins s σ H x y v u Q I rx ry ⟨z, j, e1, e2, ⟨j1, j2⟩, hz, q⟩
  subst e1; subst e2
  obtain ⟨t, rfl⟩ := rx
  obtain ⟨t', rfl⟩ := ry
  have hsl : sizeLine < 2 ^ 62 := by decide
  refine SB.mul ⟨?_, fun h1 h2 h3 => ?_, fun h1 h2 => ?_⟩ fun t2 k => ?_
  · simp only [Bool.or_eq_false_iff, decide_eq_false_iff_not]; omega
  · have hp : 0 < j := by omega
    have h4 : (z.length : Int) * j ≤ 2 ^ 63 - 1 := by
      have : ((z.length * j.toNat : Nat) : Int) = (z.length : Int) * j := by rw [Int.natCast_mul, Int.toNat_of_nonneg (by omega)]
      omega
    have h5 := (Int.le_ediv_iff_mul_le hp).mpr h4
    omega
  · exact PySem.W.KBy.tooLong_not (Nat.le_of_lt_succ (Nat.lt_succ_of_le hz))
  · rw [mul_rep]
    exact ⟨.str _, H, I.tok _, ⟨_, rfl⟩, q⟩
def mulT : P2f := fun x y Q => match x, y with
  | .str s, .int j => (-(2 ^ 63) ≤ j ∧ j < 2 ^ 63) ∧ szOk (s.length * j.toNat) ∧ Q (.val (.str (repS s j.toNat)))
  | _, _ => mulD x y Q
abbrev rMul3 : R2 := fun x y H Q => rMul2 x y H Q ∨ rRepS x y H Q
theorem o_mulT : OpR X (binaryOp .Mult) rMul3 := OpR.or o_mul op_repS
theorem p_mulT : P2 T rMul3 mulT := by
  intro e F H δ σ x y dx dy Qd Q S ix iy h k
  unfold mulT at h
  split at h
  · cases ix.strE; cases iy.intE
    exact .inr ⟨_, _, rfl, rfl, h.1, h.2.1, kstr S k h.2.2⟩
  · exact .inl (p_mul e F H δ σ x y dx dy Qd Q S ix iy h k)
/-! ### in -/
def memD (d : D) : List D → Bool
  | [] => false
  | e :: es => eqD e d || memD d es
/-- x in y: a text in a text, data in a list or tuple -/
def inT (neg : Bool) : P2f := fun x y Q => match x, y with
  | .str _, .str _ => inSD neg x y Q
  | _, _ => False
abbrev rIn1 : R2 := fun x y H Q => ∃ i j, x = .str i ∧ y = .str j ∧ Q (.bl (!(Builtin.Str.occurrences j i 0 j.length 1).isEmpty)) H
abbrev rNi1 : R2 := fun x y H Q => ∃ i j, x = .str i ∧ y = .str j ∧ Q (.bl (!(!(Builtin.Str.occurrences j i 0 j.length 1).isEmpty))) H
theorem o_in : OpR X (compareOp .In) rIn1 := op_in_str
theorem o_ni : OpR X (compareOp .NotIn) rNi1 := op_notin_str
end
end DD
namespace DD
open PySem L2
section
variable {X : Cx} {T : Tb} {pos p : Pos} {a b : Expr} {es : List Expr} {wa : W} {ws : WA} {tab : Tab} {k : Nat}
theorem d_globI {x : Str} {n : Int} (hm : ∃ t, X.mg x = some (.int n t)) (hg : Gl X x := by rfl) (hdb : (x == ("__debug__" : Str)) = false := by decide) : PE X (.Name x pos) (lift T (wC (.int n))) := by
  obtain ⟨t, hm⟩ := hm
  exact d_glob (v := .int n) hm ⟨t, rfl⟩ (fun F => Is.int) hg hdb
theorem d_globS {x n : Str} (hm : ∃ t, X.mg x = some (.str n t)) (hg : Gl X x := by rfl) (hdb : (x == ("__debug__" : Str)) = false := by decide) : PE X (.Name x pos) (lift T (wC (.str n))) := by
  obtain ⟨t, hm⟩ := hm
  exact d_glob (v := .str n) hm ⟨t, rfl⟩ (fun F => Is.str) hg hdb
theorem pe_bty {x : Str} {n : String} (hm : X.mg x = none) (hv : bootBuiltins x = some (.type n)) (hg : Gl X x := by rfl) (hn : x ≠ "__name__" := by decide) (hdb : (x == ("__debug__" : Str)) = false := by decide) : PE X (.Name x pos) (tC (.ty n)) :=
  ⟨fun pins s σ H Q I h => ld_blt I hg hm hv ⟨.ty n, H, I, rfl, h⟩ hn hdb⟩
theorem boot_isi : bootBuiltins "isinstance" = some (.builtin "isinstance") := by kernel_rfl
theorem boot_int : bootBuiltins "int" = some (.type "int") := by kernel_rfl
theorem boot_str : bootBuiltins "str" = some (.type "str") := by kernel_rfl
theorem boot_bool : bootBuiltins "bool" = some (.type "bool") := by kernel_rfl
theorem boot_list : bootBuiltins "list" = some (.type "list") := by kernel_rfl
theorem boot_tuple : bootBuiltins "tuple" = some (.type "tuple") := by kernel_rfl
theorem boot_abs : bootBuiltins "abs" = some (.builtin "abs") := by kernel_rfl
theorem boot_max : bootBuiltins "max" = some (.builtin "max") := by kernel_rfl
theorem boot_min : bootBuiltins "min" = some (.builtin "min") := by kernel_rfl
theorem boot_all : bootBuiltins "all" = some (.builtin "all") := by kernel_rfl
theorem boot_any : bootBuiltins "any" = some (.builtin "any") := by kernel_rfl
theorem boot_repr : bootBuiltins "repr" = some (.builtin "repr") := by kernel_rfl
/-- isinstance of a built-in type -/
theorem d_isiB {x : Str} {n : String} {fB : List (String × Bool)} {fC : List (Nat × Bool)} (hk : IsiOk T X.K (.type n) fB fC) (hm2 : X.mg x = none) (hv2 : bootBuiltins x = some (.type n)) (hm : X.mg "isinstance" = none) (ha : PE X a (lift T wa))
    (hg2 : Gl X x := by rfl) (hn2 : x ≠ "__name__" := by decide) (hd2 : (x == ("__debug__" : Str)) = false := by decide) (hg : Gl X "isinstance" := by rfl)
    (h1 : starEach (a :: [.Name x pos]) X.env = (false, eval a X.env) :: starEach [.Name x pos] X.env := by rfl) (h2 : starEach (.Name x pos :: []) X.env = (false, eval (.Name x pos) X.env) :: starEach [] X.env := by rfl) {p3 : Pos} (hpl : (backTo p3 (starEach [.Name x pos] X.env)).any (·.1) = false := by rfl) (hK : T.K = X.K := by rfl) :
    PE X (.Call (.Name "isinstance" p) [a, .Name x pos] [] p3) (lift T (wIsi fB fC wa)) :=
  d_isi hk (.ty n) (pe_bty hm2 hv2 hg2 hn2 hd2) ha hm boot_isi hg h1 h2 hpl hK
/-- isinstance of an own class -/
theorem d_isiC {x : Str} {C : Addr} {fB : List (String × Bool)} {fC : List (Nat × Bool)} (hk : IsiOk T X.K (.ref C) fB fC) (hm2 : X.mg x = some (.ref C)) (hm : X.mg "isinstance" = none) (ha : PE X a (lift T wa))
    (hg2 : Gl X x := by rfl) (hd2 : (x == ("__debug__" : Str)) = false := by decide) (hg : Gl X "isinstance" := by rfl)
    (h1 : starEach (a :: [.Name x pos]) X.env = (false, eval a X.env) :: starEach [.Name x pos] X.env := by rfl) (h2 : starEach (.Name x pos :: []) X.env = (false, eval (.Name x pos) X.env) :: starEach [] X.env := by rfl) {p3 : Pos} (hpl : (backTo p3 (starEach [.Name x pos] X.env)).any (·.1) = false := by rfl) (hK : T.K = X.K := by rfl) :
    PE X (.Call (.Name "isinstance" p) [a, .Name x pos] [] p3) (lift T (wIsi fB fC wa)) :=
  d_isi hk (.own C) (pe_glob hg2 hm2 rfl hd2) ha hm boot_isi hg h1 h2 hpl hK
theorem IsiOk.mk2 {K : PySem.W.Frag} {u : Value} {fB : List (String × Bool)} {fC : List (Nat × Bool)} (hb : ∀ q ∈ fB, PySem.W.kitOne K (.type q.1) u = some q.2) (hc : ∀ q ∈ fC, ClsTy K (T.ca q.1) ∧ PySem.W.kitOne K (.ref (T.ca q.1)) u = some q.2) : IsiOk T K u fB fC := by
  have look : ∀ {α : Type} [BEq α] [LawfulBEq α] {l : List (α × Bool)} {n : α} {r : Bool}, l.lookup n = some r → (n, r) ∈ l := by
    intro α _ _ l
    induction l with
    | nil => intro n r h; cases h
    | cons q l ih =>
      intro n r h
      obtain ⟨q1, q2⟩ := q
      rw [List.lookup_cons] at h
      split at h
      · rename_i e; cases eq_of_beq e; cases h; exact List.mem_cons_self
      · exact List.mem_cons_of_mem _ (ih h)
  exact ⟨fun n r h => hb (n, r) (look h), fun n r h => hc (n, r) (look h)⟩
theorem FnG.weak {P : Program} {w : World} {K : PySem.W.Frag} {mg : Str → Option Value} {base : Heap} {CX : CXT} {f : Addr} {fd : FuncData} {ps : List Str} {sp sp' : Sp} (G : FnG P w K mg base CX k f fd ps sp) (h : ∀ vs H Q E, sp' vs H Q E → sp vs H Q E) : FnG P w K mg base CX k f fd ps sp' :=
  ⟨fun vs H Q E q => G.len vs H Q E (h vs H Q E q), fun A o s H a us vs Q E r e b v q => G.run A o s H a us vs Q E r e b v (h vs H Q E q)⟩
/-- what the law promises: a script of n numbers at most, and True -/
def spLaw (n : Nat) (K : PySem.W.Frag) : Sp := fun vs H Q _ => ∃ (a : Addr) (ns : List Int), vs = [.ref a] ∧ SqL K H a (ns.map V.int) ∧ ns.length ≤ n ∧ ∀ H', Q (.bl true) H'
def lawS (n : Nat) : FS := fun svs Q => ∃ ns : List Int, svs = [.val (.scr ns)] ∧ ns.length ≤ n ∧ Q (.bl true)
theorem spLaw_ofT {n : Nat} (vs : List V) (H : Hp) (Q : VK) (E : XK) (ht : LamX.Tabs T.tz H) (h : spLaw n T.K vs H Q E) : liftSp T (lawS n) vs H Q E := by
  obtain ⟨a, ns, rfl, hS, hn, hq⟩ := h
  let F : Hp := fun b => @ite _ (T.tb b) (Classical.propDecidable _) none (H b)
  have f0 : ∀ b, T.tb b → F b = none := fun b h => if_pos h
  have f1 : ∀ b, ¬ T.tb b → F b = H b := fun b h => if_neg h
  have le : Le F H := fun b o q => by
    by_cases h : T.tb b
    · rw [f0 b h] at q; cases q
    · rw [f1 b h] at q; exact q
  have hS' : SqL T.K F a (ns.map V.int) := hS.elim (fun q => .inl (q.elim (fun q => .inl (by rw [f1 a (noTab ht q fun _ z => by cases z)]; exact q)) fun ⟨o, q⟩ => .inr ⟨o, by rw [f1 a (noTab ht q fun _ z => by cases z)]; exact q⟩)) .inr
  refine ⟨F, [.val (.scr ns)], fun d => d = .bl true, ⟨le, ht, f0⟩, ⟨by unfold Is; exact ⟨a, rfl, hS'⟩, trivial⟩, Nat.zero_le 1, ⟨ns, rfl, hn, rfl⟩, fun v H' F' d _ i q => ?_⟩
  subst q
  cases i.blE
  exact hq H'
theorem spLaw_of {n : Nat} (vs : List V) (H : Hp) (Q : VK) (E : XK) (h : spLaw n T.K vs H Q E) (hz : T.tz = [] := by rfl) : liftSp T (lawS n) vs H Q E := spLaw_ofT vs H Q E (by rw [hz]; intro p hp; cases hp) h
end
/-! ### list(range(..)), tuple(range(..)) -/
abbrev WR := DEnv → (Int → Int → Prop) → Prop
def liftR (T : Tb) (w : WR) : L2.St → Hp → (Int → Int → Hp → Prop) → Prop := fun σ H Q => ∃ e F δ Qd, Sim T e F δ σ H ∧ w δ Qd ∧ ∀ a b H' F', Sim T e F' δ σ H' → Le F F' → Qd a b → Q a b H'
def wR1 (w : W) : WR := fun δ Q => w δ fun x => wd x fun d => match d with
  | .int n => Q 0 n
  | _ => False
def wR2 (wa wb : W) : WR := fun δ Q => wa δ fun x => wd x fun d => wb δ fun y => wd y fun d' => match d, d' with
  | .int i, .int j => Q i j
  | _, _ => False
section
variable {X : Cx} {T : Tb} {pos p : Pos} {a b : Expr} {wa wb : W} {w : WR} {t t' : L2.St → Hp → (Int → Int → Hp → Prop) → Prop}
theorem PRg.weak (h : PRg X a t) (k : ∀ σ H Q, t' σ H Q → t σ H Q) : PRg X a t' := fun pins s σ H Q I q => h pins s σ H Q I (k _ _ _ q)
theorem r_1 (hm : X.mg "range" = none) (ha : PE X a (lift T wa)) (hg : Gl X "range" := by rfl) (na : starEach [a] X.env = (false, eval a X.env) :: starEach [] X.env := by rfl) : PRg X (.Call (.Name "range" p) [a] [] pos) (liftR T (wR1 wa)) :=
  PRg.weak (prg_1 hg hm ha na) fun σ H Q ⟨e, F, δ, Qd, S, w, k⟩ => by
    refine use (te := lift T wa) S w fun v H1 F1 d S1 l1 i1 w1 => ?_
    split at w1
    · cases i1.intE; exact ⟨_, rfl, k _ _ H1 F1 S1 l1 w1⟩
    · exact w1.elim
theorem r_2 (hm : X.mg "range" = none) (ha : PE X a (lift T wa)) (hb : PE X b (lift T wb)) (hg : Gl X "range" := by rfl) (na : starEach [a, b] X.env = (false, eval a X.env) :: starEach [b] X.env := by rfl)
    (nb : starEach [b] X.env = (false, eval b X.env) :: starEach [] X.env := by rfl) (hp : (backTo pos (starEach [b] X.env)).any (·.1) = false := by rfl) : PRg X (.Call (.Name "range" p) [a, b] [] pos) (liftR T (wR2 wa wb)) :=
  PRg.weak (prg_2 hg hm ha hb na nb hp) fun σ H Q ⟨e, F, δ, Qd, S, w, k⟩ => by
    refine use (te := lift T wa) S w fun v H1 F1 d S1 l1 i1 w1 => ?_
    refine use (te := lift T wb) S1 w1 fun v2 H2 F2 d2 S2 l2 i2 w2 => ?_
    split at w2
    · cases i1.intE; cases i2.intE; exact ⟨_, _, rfl, rfl, k _ _ H2 F2 S2 (l1.trans l2) w2⟩
    · exact w2.elim
def rgD (a b : Int) : List D := intsD a (b - a).toNat
theorem isL_rg {F : Hp} (a b : Int) : IsL T F (rgV a b) (rgD a b) := by
  unfold rgV rgD intsD
  generalize (b - a).toNat = n
  have : ∀ l : List Nat, IsL T F (l.map fun i => V.int (a + (i : Nat))) (l.map fun i => D.int (a + (i : Nat))) := by
    intro l
    induction l with
    | nil => exact IsL.nil T
    | cons x l ih => exact IsL.cons T Is.int ih
  exact this _
def wListR (w : WR) : W := fun δ Q => w δ fun a b => RgOk a b ∧ Q (.own (rgD a b))
def wTupR (w : WR) : W := fun δ Q => w δ fun a b => RgOk a b ∧ Q (.val (.tup (rgD a b)))
theorem d_listR (hm : X.mg "list" = none) (hr : PRg X a (liftR T w)) (hc : X.calm = true := by rfl) (hg : Gl X "list" := by rfl) (na : starEach [a] X.env = (false, eval a X.env) :: starEach [] X.env := by rfl) : PE X (.Call (.Name "list" p) [a] [] pos) (lift T (wListR w)) :=
  PE.weak (pe_listRg hc hg hm hr na) fun σ H Q ⟨e, F, δ, Qd, S, w, k⟩ => ⟨e, F, δ, _, S, w, fun x y H1 F1 S1 l1 ⟨q1, q2⟩ => ⟨q1, fun q hq => klst S1 (fun v H' F' sv S' l' r' q' => k v H' F' sv S' (l1.trans l') r' q') hq (isL_rg x y) q2⟩⟩
theorem d_tupR (hm : X.mg "tuple" = none) (hr : PRg X a (liftR T w)) (hc : X.calm = true := by rfl) (hg : Gl X "tuple" := by rfl) (na : starEach [a] X.env = (false, eval a X.env) :: starEach [] X.env := by rfl) : PE X (.Call (.Name "tuple" p) [a] [] pos) (lift T (wTupR w)) :=
  PE.weak (pe_tupRg hc hg hm hr na) fun σ H Q ⟨e, F, δ, Qd, S, w, k⟩ => ⟨e, F, δ, _, S, w, fun x y H1 F1 S1 l1 ⟨q1, q2⟩ => ⟨q1, fun q hq => ktup S1 (fun v H' F' sv S' l' r' q' => k v H' F' sv S' (l1.trans l') r' q') hq (isL_rg x y) q2⟩⟩
end
end DD
namespace DD
open PySem L2
theorem FldOk.nil {T : Tb} {K : PySem.W.Frag} {f : Str} : FldOk T K f [] := ⟨fun c i h => by cases h⟩
theorem FldOk.cons {T : Tb} {K : PySem.W.Frag} {f : Str} {c i : Nat} {cs : List (Nat × Nat)} (h1 : Cls K (T.ca c)) (h2 : NoAttr K (T.ca c) f) (h3 : (T.fl c)[i]? = some f) (h4 : (T.fl c).Nodup) (h : FldOk T K f cs) : FldOk T K f ((c, i) :: cs) := ⟨fun c' i' q => by
  rw [List.lookup_cons] at q
  split at q
  · rename_i e; cases eq_of_beq e; cases q; exact ⟨h1, h2, h3, h4⟩
  · exact h.ok c' i' q⟩
theorem EqTab.nil {T : Tb} {K : PySem.W.Frag} : ∀ c sp, ([] : Tab).lookup c = some sp → EqCls K (T.ca c) := fun _ _ h => by cases h
theorem EqTab.cons {T : Tb} {K : PySem.W.Frag} {c : Nat} {sp : FS} {tab : Tab} (h : EqCls K (T.ca c)) (hs : ∀ c sp, tab.lookup c = some sp → EqCls K (T.ca c)) : ∀ c' sp', ((c, sp) :: tab : Tab).lookup c' = some sp' → EqCls K (T.ca c') := fun c' sp' q => by
  rw [List.lookup_cons] at q
  split at q
  · rename_i e; cases eq_of_beq e; exact h
  · exact hs c' sp' q
theorem IsAll.nil {K : PySem.W.Frag} {u : Value} : ∀ q ∈ ([] : List (String × Bool)), PySem.W.kitOne K (.type q.1) u = some q.2 := fun _ h => by cases h
theorem IsAll.cons {K : PySem.W.Frag} {u : Value} {n : String} {r : Bool} {l : List (String × Bool)} (h : PySem.W.kitOne K (.type n) u = some r) (hs : ∀ q ∈ l, PySem.W.kitOne K (.type q.1) u = some q.2) : ∀ q ∈ (n, r) :: l, PySem.W.kitOne K (.type q.1) u = some q.2 := fun q hq => by
  rcases List.mem_cons.mp hq with e | e
  · rw [e]; exact h
  · exact hs q e
theorem IsAllC.nil {K : PySem.W.Frag} {T : Tb} {u : Value} : ∀ q ∈ ([] : List (Nat × Bool)), ClsTy K (T.ca q.1) ∧ PySem.W.kitOne K (.ref (T.ca q.1)) u = some q.2 := fun _ h => by cases h
theorem IsAllC.cons {K : PySem.W.Frag} {T : Tb} {u : Value} {n : Nat} {r : Bool} {l : List (Nat × Bool)} (h1 : ClsTy K (T.ca n)) (h : PySem.W.kitOne K (.ref (T.ca n)) u = some r) (hs : ∀ q ∈ l, ClsTy K (T.ca q.1) ∧ PySem.W.kitOne K (.ref (T.ca q.1)) u = some q.2) :
    ∀ q ∈ (n, r) :: l, ClsTy K (T.ca q.1) ∧ PySem.W.kitOne K (.ref (T.ca q.1)) u = some q.2 := fun q hq => by
  rcases List.mem_cons.mp hq with e | e
  · rw [e]; exact ⟨h1, h⟩
  · exact hs q e
theorem kit_own {K : PySem.W.Frag} {t : Value} {C : Addr} {v : Bool} (h1 : PySem.W.isClsIn K C = true) (h2 : PySem.W.typeIn K (.ref C) = some (.type "type")) (hne : (t == .ref C) = false) (h : PySem.W.subIn K t (.ref C) = some v) : PySem.W.kitOne K t (.ref C) = some v := by
  unfold PySem.W.kitOne PySem.W.kitCls
  rw [if_neg (by rw [hne]; decide)]
  show (if ((PySem.W.clsIn K C).isSome && PySem.W.typeIn K (.ref C) == some (.type "type")) = true then _ else _) = _
  rw [if_pos (by rw [show (PySem.W.clsIn K C).isSome = true from h1, h2]; decide), h]
theorem kit_self {K : PySem.W.Frag} {C : Addr} : PySem.W.kitOne K (.ref C) (.ref C) = some true := by
  unfold PySem.W.kitOne
  rw [if_pos (beq_self_eq_true _)]
theorem kit_bty {K : PySem.W.Frag} {C : Addr} {n : String} {v : Bool} (h1 : PySem.W.kitMeta n = true) (h : PySem.W.mroIn K C (.type n) = some v) : PySem.W.kitOne K (.ref C) (.type n) = some v := by
  unfold PySem.W.kitOne PySem.W.kitCls
  rw [if_neg (by simp)]
  show (if PySem.W.kitMeta n = true then _ else _) = _
  rw [if_pos h1]; exact h
theorem sub_bty {K : PySem.W.Frag} {C : Addr} (n : String) (h : (PySem.W.subIn K (.type n) (.ref C) == some false) = true) : PySem.W.subIn K (.type n) (.ref C) = some false := beq_iff_eq.mp h
/-- no built-in type is an heir of an own class -/
theorem isi_own {K : PySem.W.Frag} {C : Addr} {l : List (String × Bool)} (h1 : PySem.W.isClsIn K C = true) (h2 : PySem.W.typeIn K (.ref C) = some (.type "type")) (hl : ∀ q ∈ l, PySem.W.subIn K (.type q.1) (.ref C) = some false ∧ q.2 = false) : ∀ q ∈ l, PySem.W.kitOne K (.type q.1) (.ref C) = some q.2 := fun q hq => by
  rw [(hl q hq).2]
  exact kit_own h1 h2 (by simp) (hl q hq).1
theorem IsNo.nil {K : PySem.W.Frag} {C : Addr} : ∀ q ∈ ([] : List (String × Bool)), PySem.W.subIn K (.type q.1) (.ref C) = some false ∧ q.2 = false := fun _ h => by cases h
theorem IsNo.cons {K : PySem.W.Frag} {C : Addr} {n : String} {l : List (String × Bool)} (h : PySem.W.subIn K (.type n) (.ref C) = some false) (hs : ∀ q ∈ l, PySem.W.subIn K (.type q.1) (.ref C) = some false ∧ q.2 = false) : ∀ q ∈ (n, false) :: l, PySem.W.subIn K (.type q.1) (.ref C) = some false ∧ q.2 = false := fun q hq => by
  rcases List.mem_cons.mp hq with e | e
  · rw [e]; exact ⟨h, rfl⟩
  · exact hs q e
/-- the built-in types among themselves -/
theorem isi_all {K : PySem.W.Frag} {b : String} {l : List (String × Bool)} (h : l.all (fun q => kitB q.1 b == some q.2) = true) : ∀ q ∈ l, PySem.W.kitOne K (.type q.1) (.type b) = some q.2 := fun q hq => kit_ty (beq_iff_eq.mp (List.all_eq_true.mp h q hq))
theorem MF.up {X : Cx} {T : Tb} {j k c : Nat} {m : Str} {sp : FS} (M : MF X T j c m sp) (h : j ≤ k) : MF X T k c m sp := by
  obtain ⟨g, fd, ps, CX, E, h1, h2, h3, h4⟩ := M.ex
  exact ⟨g, fd, ps, CX, E, h1, h2.mono h, h3, h4⟩
section
variable {K : PySem.W.Frag} {x qual : Str} {st : Stmt} {dvs : List V} {f : Addr} {fd : FuncData} {ps : List Str}
theorem FunX.binds (F : FunX K x qual st [] f fd)
    (h : ∀ (kV doc pm : Value) (an : Option Addr) (cdv ct : Value) (us : List Value), us.length = ps.length → bindArgs (PySem.W.fnOf x qual (defArgs st) (defBody st) (defScope st) .none kV doc pm an cdv ct) ⟨us, []⟩ = pure (ps.zip us)) : Binds K fd ps [] := by
  obtain ⟨oc, od, dV, kV, doc, pm, an, cdv, ct, osl, rfl, lk, hcd, hD⟩ := F.ex
  rcases hD with ⟨_, rfl⟩ | ⟨e, _⟩
  · exact .all (h kV doc pm an cdv ct)
  · exact absurd rfl e
end
/-! ### own operators, as the generator uses them -/
theorem dund_add : PySem.dunder Operator.Add.info.2 = ("__add__" : Str) := by decide +kernel
theorem dund_sub : PySem.dunder Operator.Sub.info.2 = ("__sub__" : Str) := by decide +kernel
theorem dund_mul : PySem.dunder Operator.Mult.info.2 = ("__mul__" : Str) := by decide +kernel
theorem dundr_add : dunderR Operator.Add.info.2 = ("__radd__" : Str) := by decide +kernel
theorem dundr_sub : dunderR Operator.Sub.info.2 = ("__rsub__" : Str) := by decide +kernel
theorem dundr_mul : dunderR Operator.Mult.info.2 = ("__rmul__" : Str) := by decide +kernel
theorem intTy_add {K : PySem.W.Frag} : IntTy K .Add := ⟨⟨some (.builtin "int.__add__"), by kernel_rfl⟩, ⟨some (.builtin "int.__radd__"), by kernel_rfl⟩⟩
theorem intTy_sub {K : PySem.W.Frag} : IntTy K .Sub := ⟨⟨some (.builtin "int.__sub__"), by kernel_rfl⟩, ⟨some (.builtin "int.__rsub__"), by kernel_rfl⟩⟩
theorem intTy_mul {K : PySem.W.Frag} : IntTy K .Mult := ⟨⟨some (.builtin "int.__mul__"), by kernel_rfl⟩, ⟨some (.builtin "int.__rmul__"), by kernel_rfl⟩⟩
theorem binCls_of {K : PySem.W.Frag} {C f g : Addr} {op : Operator} {m r : Str} (h1 : PySem.dunder op.info.2 = m) (h2 : dunderR op.info.2 = r) (sf : PySem.W.selfFirst K C = true) (a : PySem.W.findIn K (.ref C) m = some (some (.ref f))) (b : PySem.W.findIn K (.ref C) r = some (some (.ref g)))
    (mi : PySem.W.mroIn K C (.type "int") = some false) : BinCls K C op := by
  subst h1; subst h2
  exact ⟨⟨sf, _, b, .inr ⟨_, rfl⟩⟩, mi, _, a⟩
theorem binCls_add {K : PySem.W.Frag} {C f g : Addr} (sf : PySem.W.selfFirst K C = true) (a : PySem.W.findIn K (.ref C) "__add__" = some (some (.ref f))) (b : PySem.W.findIn K (.ref C) "__radd__" = some (some (.ref g))) (mi : PySem.W.mroIn K C (.type "int") = some false) : BinCls K C .Add := binCls_of dund_add dundr_add sf a b mi
theorem binCls_sub {K : PySem.W.Frag} {C f g : Addr} (sf : PySem.W.selfFirst K C = true) (a : PySem.W.findIn K (.ref C) "__sub__" = some (some (.ref f))) (b : PySem.W.findIn K (.ref C) "__rsub__" = some (some (.ref g))) (mi : PySem.W.mroIn K C (.type "int") = some false) : BinCls K C .Sub := binCls_of dund_sub dundr_sub sf a b mi
theorem binCls_mul {K : PySem.W.Frag} {C f g : Addr} (sf : PySem.W.selfFirst K C = true) (a : PySem.W.findIn K (.ref C) "__mul__" = some (some (.ref f))) (b : PySem.W.findIn K (.ref C) "__rmul__" = some (some (.ref g))) (mi : PySem.W.mroIn K C (.type "int") = some false) : BinCls K C .Mult := binCls_of dund_mul dundr_mul sf a b mi
theorem BinTab.nil {T : Tb} {K : PySem.W.Frag} {op : Operator} : ∀ c sp, ([] : Tab).lookup c = some sp → BinCls K (T.ca c) op := fun _ _ h => by cases h
theorem BinTab.cons {T : Tb} {K : PySem.W.Frag} {op : Operator} {c : Nat} {sp : FS} {tab : Tab} (h : BinCls K (T.ca c) op) (hs : ∀ c sp, tab.lookup c = some sp → BinCls K (T.ca c) op) : ∀ c' sp', ((c, sp) :: tab : Tab).lookup c' = some sp' → BinCls K (T.ca c') op := fun c' sp' q => by
  rw [List.lookup_cons] at q
  split at q
  · rename_i e; cases eq_of_beq e; exact h
  · exact hs c' sp' q
section
variable {X : Cx} {T : Tb} {k : Nat} {tab : Tab}
abbrev rNegT (T : Tb) (tab : Tab) : V → Hp → VK → Prop := fun x H Q => (∃ c sp, tab.lookup c = some sp ∧ rMF T sp (okIns c) [x] H Q) ∨ rU (fun i => .int (-i)) x H Q
theorem un_negT (M : MFs X T k "__neg__" tab) (hr : RoomG k X.A) : UnR X (unaryOp .USub) (rNegT T tab) := by
  intro pins s σ H x u Q I rx h
  rcases h with ⟨c, sp, hl, h⟩ | h
  · exact un_negO (M c sp hl) hr pins s σ H x u Q I rx h
  · exact un_neg pins s σ H x u Q I rx h
theorem p_negT : P1 T (rNegT T tab) (negT tab) := by
  intro e F H δ σ x dx Qd Q S ix h k
  unfold negT at h
  split at h
  · split at h
    · rename_i sp hl
      exact .inl ⟨_, sp, hl, rMF_of S (.one T ix) rfl h k⟩
    · exact h.elim
  · exact .inr (p_neg e F H δ σ x dx Qd Q S ix h k)
end
/-! ### not x, x an instance that is always true -/
structure TruCls (K : PySem.W.Frag) (C : Addr) : Prop where
  b : PySem.W.findIn K (.ref C) "__bool__" = some none
  l : PySem.W.findIn K (.ref C) "__len__" = some none
section
variable {X : Cx} {T : Tb}
def rNotI (C : Addr) : V → Hp → VK → Prop := fun x H Q => ∃ a dx fs, x = .ref a ∧ H a = some (.ins C dx fs) ∧ Q (.bl false) H
theorem un_notI {C : Addr} (h : TruCls X.K C) : UnR X (unaryOp .Not) (rNotI C) := by
  intro pins s σ H x u Q I rx ⟨a, dx, fs, e1, ha, q⟩
  subst e1
  cases rx
  obtain ⟨mA, J, _⟩ := ins_get I.hok ha
  obtain ⟨od, J, _⟩ := J.look
  obtain ⟨mm, hF⟩ := I.fr
  unfold unaryOp
  refine wpAny_holding ?_
  refine wpAny_bind (PySem.W.truthy_K0 hF I.ok.mod.kin J h.b h.l (wpAny_pure ⟨.bl false, H, I, rfl, q⟩))
def notID (c : Nat) : P1f := fun x Q => match x with
  | .ins c' _ => c' = c ∧ Q (.val (.bl false))
  | _ => False
theorem p_notI {c : Nat} : P1 T (rNotI (T.ca c)) (notID c) := by
  intro e F H δ σ x dx Qd Q S ix h k
  unfold notID at h
  split at h
  · obtain ⟨rfl, h⟩ := h
    obtain ⟨a, dx, vs, rfl, h1, _⟩ := ix.insE
    exact ⟨a, dx, _, rfl, S.sub _ _ h1, kbl S k h⟩
  · exact h.elim
end
end DD
/-! ### loops and comprehensions, by the trees alone -/
namespace DD
open PySem L2
theorem forL_inv {q : Pat} {wb : WS} {Dd : DE} (P : DEnv → Prop) : ∀ (xs : List D) (δ : DEnv), P δ → (∀ δ, P δ → Dd.nx δ) →
    (∀ x ∈ xs, ∀ (K : DEnv → Prop), (∀ δ, P δ → K δ) → ∀ δ, P δ → q.put x δ fun δ' => wb ⟨K, Dd.rt, Dd.nx, K⟩ δ') → forL q wb Dd xs δ
  | [], δ, h, h2, _ => h2 δ h
  | x :: xs, δ, h, h2, h3 => h3 x List.mem_cons_self (forL q wb Dd xs) (fun δ' h' => forL_inv P xs δ' h' h2 fun y hy => h3 y (List.mem_cons_of_mem _ hy)) δ h
theorem forL_ix {q : Pat} {wb : WS} {Dd : DE} (P : Nat → DEnv → Prop) : ∀ (xs : List D) (n : Nat) (δ : DEnv), P n δ → (∀ δ, P (n + xs.length) δ → Dd.nx δ) →
    (∀ (i : Nat) x, xs[i]? = some x → ∀ (K : DEnv → Prop), (∀ δ, P (n + i + 1) δ → K δ) → ∀ δ, P (n + i) δ → q.put x δ fun δ' => wb ⟨K, Dd.rt, Dd.nx, K⟩ δ') → forL q wb Dd xs δ
  | [], n, δ, h, h2, _ => h2 δ h
  | x :: xs, n, δ, h, h2, h3 => h3 0 x rfl (forL q wb Dd xs) (fun δ' h' => forL_ix P xs (n + 1) δ' h' (fun δ h => h2 δ (by rw [List.length_cons, ← Nat.add_assoc, Nat.add_right_comm]; exact h)) fun i y hy K hK δ hδ =>
      h3 (i + 1) y (by simpa using hy) K (fun δ h => hK δ (by rw [show n + 1 + i + 1 = n + (i + 1) + 1 by omega]; exact h)) δ (by rw [show n + (i + 1) = n + 1 + i by omega]; exact hδ)) δ h
inductive All2 {α β : Type} (R : α → β → Prop) : List α → List β → Prop where
  | nil : All2 R [] []
  | cons {a : α} {b : β} {as : List α} {bs : List β} (h : R a b) (t : All2 R as bs) : All2 R (a :: as) (b :: bs)
theorem compL_rel {q : Pat} {wt : WT} {we : W} {δ : DEnv} (R : D → Option D → Prop) : ∀ (xs acc : List D) (Q : List D → Prop), acc.length + xs.length ≤ sizeLine →
    (∀ x ∈ xs, ∀ (K : Option D → Prop), (∀ o, R x o → K o) → q.put x δ fun δ' => wt δ' fun b => if b = true then we δ' fun y => wd y fun d => K (some d) else K none) →
    (∀ os, All2 R xs os → Q (acc ++ os.filterMap id)) → compL q wt we δ xs acc Q
  | [], acc, Q, _, _, h => by
    have := h [] .nil
    rw [List.filterMap_nil, List.append_nil] at this
    exact this
  | x :: xs, acc, Q, hl, hs, h => by
    rw [List.length_cons] at hl
    refine hs x List.mem_cons_self (fun o => match o with
      | some d => acc.length < sizeLine ∧ compL q wt we δ xs (acc ++ [d]) Q
      | none => compL q wt we δ xs acc Q) fun o ho => ?_
    cases o with
    | some d =>
      refine ⟨by omega, compL_rel R xs (acc ++ [d]) Q (by rw [List.length_append, List.length_singleton]; omega) (fun y hy => hs y (List.mem_cons_of_mem _ hy)) fun os ha => ?_⟩
      have := h (some d :: os) (.cons ho ha)
      rwa [List.append_assoc]
    | none =>
      exact compL_rel R xs acc Q (by omega) (fun y hy => hs y (List.mem_cons_of_mem _ hy)) fun os ha => h (none :: os) (.cons ho ha)
theorem compL_fm {q : Pat} {wt : WT} {we : W} {δ : DEnv} (f : D → Option D) (xs : List D) (Q : List D → Prop) (hl : xs.length ≤ sizeLine)
    (hs : ∀ x ∈ xs, ∀ (K : Option D → Prop), K (f x) → q.put x δ fun δ' => wt δ' fun b => if b = true then we δ' fun y => wd y fun d => K (some d) else K none)
    (h : Q (xs.filterMap f)) : compL q wt we δ xs [] Q := by
  refine compL_rel (fun x o => f x = o) xs [] Q (by simpa using hl) (fun x hx K hK => hs x hx K (hK _ rfl)) fun os ha => ?_
  have : os = xs.map f := by
    clear h hs hl
    induction ha with
    | nil => rfl
    | cons h t ih => rw [List.map_cons, ← ih, h]
  rw [this, List.nil_append, List.filterMap_map]
  exact h
theorem compL_map {q : Pat} {we : W} {δ : DEnv} (f : D → D) (xs : List D) (Q : List D → Prop) (hl : xs.length ≤ sizeLine)
    (hs : ∀ x ∈ xs, ∀ (K : D → Prop), K (f x) → q.put x δ fun δ' => we δ' fun y => wd y K) (h : Q (xs.map f)) : compL q wYes we δ xs [] Q := by
  refine compL_fm (fun x => some (f x)) xs Q hl (fun x hx K hK => hs x hx (fun d => K (some d)) hK) ?_
  have : xs.filterMap (fun x => some (f x)) = xs.map f := by
    clear h hs hl
    induction xs with
    | nil => rfl
    | cons x xs ih => rw [List.filterMap_cons, ih, List.map_cons]
  rw [this]; exact h
theorem compL_all {q : Pat} {we : W} {δ : DEnv} (P : D → Prop) (xs : List D) (Q : List D → Prop) (hl : xs.length ≤ sizeLine)
    (hs : ∀ x ∈ xs, ∀ (K : D → Prop), (∀ d, P d → K d) → q.put x δ fun δ' => we δ' fun y => wd y K) (h : ∀ ds, ds.length = xs.length → (∀ d ∈ ds, P d) → Q ds) : compL q wYes we δ xs [] Q := by
  refine compL_rel (fun x o => ∃ d, o = some d ∧ P d) xs [] Q (by simpa using hl) (fun x hx K hK => hs x hx (fun d => K (some d)) fun d hd => hK _ ⟨d, rfl, hd⟩) fun os ha => ?_
  have : (os.filterMap id).length = xs.length ∧ ∀ d ∈ os.filterMap id, P d := by
    clear h hs hl
    induction ha with
    | nil => exact ⟨rfl, fun d hd => by cases hd⟩
    | cons h t ih =>
      obtain ⟨d, rfl, hd⟩ := h
      rw [List.filterMap_cons]
      refine ⟨by simp [ih.1], fun e he => ?_⟩
      rcases List.mem_cons.mp he with z | z
      · rw [z]; exact hd
      · exact ih.2 e z
  exact h _ this.1 this.2
theorem bools_map : ∀ bs : List Bool, bools (bs.map D.bl) = some bs
  | [] => rfl
  | b :: bs => by rw [List.map_cons]; unfold bools; rw [bools_map bs]; rfl
theorem strs_map : ∀ bs : List Str, strs_ (bs.map D.str) = some bs
  | [] => rfl
  | b :: bs => by rw [List.map_cons]; unfold strs_; rw [strs_map bs]; rfl
theorem intsD_len (lo : Int) (n : Nat) : (intsD lo n).length = n := by unfold intsD; rw [List.length_map, List.length_range]
theorem intsD_mem {lo : Int} {n : Nat} {d : D} (h : d ∈ intsD lo n) : ∃ i : Nat, i < n ∧ d = .int (lo + i) := by
  unfold intsD at h
  obtain ⟨i, hi, e⟩ := List.mem_map.mp h
  exact ⟨i, List.mem_range.mp hi, e.symm⟩
theorem signs_len (s : Str) : (signs s).length = s.length := by unfold signs; rw [List.length_map, Array.length_toList]; rfl
theorem signs_mem {s : Str} {d : D} (h : d ∈ signs s) : ∃ c ∈ s.cps.toList, d = .str ⟨#[c]⟩ := by
  unfold signs at h
  obtain ⟨c, hc, e⟩ := List.mem_map.mp h
  exact ⟨c, hc, e.symm⟩
theorem occ_one (c : Nat) (z : Str) : occ ⟨#[c]⟩ z = decide (c ∈ z.cps.toList) := PySem.StrLaws.found_one z c
theorem seq_op {a b : WS} {D : DE} {δ : DEnv} (h : ∀ K : DEnv → Prop, (∀ δ', b D δ' → K δ') → a { D with nx := K } δ) : wSeq a b D δ := h (b D) fun _ h => h
theorem ite_tt {α : Type} (a b : α) : (if true = true then a else b) = a := rfl
theorem ite_ft {α : Type} (a b : α) : (if false = true then a else b) = b := rfl
theorem itp_tt (a b : Prop) : (if true = true then a else b) = a := rfl
theorem itp_ft (a b : Prop) : (if false = true then a else b) = b := rfl
theorem ixK_of {ds : List D} {i : Int} {d : D} {Q : D → Prop} (h : L2.atI ds i = some d) (q : Q d) : ixK ds i Q := ixK_iff.mpr ⟨d, h, q⟩
theorem ixK_nat {ds : List D} {n : Nat} {d : D} {Q : D → Prop} (h : ds[n]? = some d) (q : Q d) : ixK ds (n : Int) Q := (ixM_iff.mpr ⟨d, h, q⟩ : ixM ds n Q)
theorem ixK_0 (x0 : D) (l : List D) (Q : D → Prop) : ixK (x0 :: l) 0 Q = Q x0 := rfl
theorem ixK_1 (x0 x1 : D) (l : List D) (Q : D → Prop) : ixK (x0 :: x1 :: l) 1 Q = Q x1 := rfl
theorem ixK_2 (x0 x1 x2 : D) (l : List D) (Q : D → Prop) : ixK (x0 :: x1 :: x2 :: l) 2 Q = Q x2 := rfl
theorem ixK_3 (x0 x1 x2 x3 : D) (l : List D) (Q : D → Prop) : ixK (x0 :: x1 :: x2 :: x3 :: l) 3 Q = Q x3 := rfl
theorem ixK_4 (x0 x1 x2 x3 x4 : D) (l : List D) (Q : D → Prop) : ixK (x0 :: x1 :: x2 :: x3 :: x4 :: l) 4 Q = Q x4 := rfl
theorem ixK_5 (x0 x1 x2 x3 x4 x5 : D) (l : List D) (Q : D → Prop) : ixK (x0 :: x1 :: x2 :: x3 :: x4 :: x5 :: l) 5 Q = Q x5 := rfl
theorem ixK_6 (x0 x1 x2 x3 x4 x5 x6 : D) (l : List D) (Q : D → Prop) : ixK (x0 :: x1 :: x2 :: x3 :: x4 :: x5 :: x6 :: l) 6 Q = Q x6 := rfl
theorem ixK_7 (x0 x1 x2 x3 x4 x5 x6 x7 : D) (l : List D) (Q : D → Prop) : ixK (x0 :: x1 :: x2 :: x3 :: x4 :: x5 :: x6 :: x7 :: l) 7 Q = Q x7 := rfl
theorem ixK_8 (x0 x1 x2 x3 x4 x5 x6 x7 x8 : D) (l : List D) (Q : D → Prop) : ixK (x0 :: x1 :: x2 :: x3 :: x4 :: x5 :: x6 :: x7 :: x8 :: l) 8 Q = Q x8 := rfl
theorem ixK_9 (x0 x1 x2 x3 x4 x5 x6 x7 x8 x9 : D) (l : List D) (Q : D → Prop) : ixK (x0 :: x1 :: x2 :: x3 :: x4 :: x5 :: x6 :: x7 :: x8 :: x9 :: l) 9 Q = Q x9 := rfl
theorem ixK_10 (x0 x1 x2 x3 x4 x5 x6 x7 x8 x9 x10 : D) (l : List D) (Q : D → Prop) : ixK (x0 :: x1 :: x2 :: x3 :: x4 :: x5 :: x6 :: x7 :: x8 :: x9 :: x10 :: l) 10 Q = Q x10 := rfl
theorem ixK_11 (x0 x1 x2 x3 x4 x5 x6 x7 x8 x9 x10 x11 : D) (l : List D) (Q : D → Prop) : ixK (x0 :: x1 :: x2 :: x3 :: x4 :: x5 :: x6 :: x7 :: x8 :: x9 :: x10 :: x11 :: l) 11 Q = Q x11 := rfl
theorem ixK_12 (x0 x1 x2 x3 x4 x5 x6 x7 x8 x9 x10 x11 x12 : D) (l : List D) (Q : D → Prop) : ixK (x0 :: x1 :: x2 :: x3 :: x4 :: x5 :: x6 :: x7 :: x8 :: x9 :: x10 :: x11 :: x12 :: l) 12 Q = Q x12 := rfl
theorem ixK_13 (x0 x1 x2 x3 x4 x5 x6 x7 x8 x9 x10 x11 x12 x13 : D) (l : List D) (Q : D → Prop) : ixK (x0 :: x1 :: x2 :: x3 :: x4 :: x5 :: x6 :: x7 :: x8 :: x9 :: x10 :: x11 :: x12 :: x13 :: l) 13 Q = Q x13 := rfl
end DD
/-! ### how long a shown value is -/
namespace DD
open PySem L2
theorem textFrom_le : ∀ (ts : List Str) (k : Nat) (acc : Str), (textFrom k acc ts).length ≤ acc.length + piled ts
  | [], k, acc => by rw [piled_nil]; exact Nat.le_refl _
  | t :: r, k, acc => by
    have ih := textFrom_le r (k + 1) (acc ++ (if k > 0 then ", " else "" : String) ++ t)
    have e : (acc ++ (if k > 0 then ", " else "" : String) ++ t).length ≤ acc.length + 2 + t.length := by
      rw [strLen_append, strLen_append]
      split
      · exact Nat.le_refl _
      · show acc.length + 0 + t.length ≤ _; omega
    rw [piled_cons]
    show (textFrom (k + 1) _ r).length ≤ _
    omega
theorem listText_le (ts : List Str) : (listText ts).length ≤ 2 + piled ts := by
  unfold listText
  rw [strLen_append]
  have := textFrom_le ts 0 "["
  have e1 : (Str.ofString "[").length = 1 := by decide +kernel
  have e2 : (Str.ofString "]").length = 1 := by decide +kernel
  omega
theorem tupleText_le (ts : List Str) : (tupleText ts).length ≤ 3 + piled ts := by
  unfold tupleText
  rw [strLen_append, strLen_append]
  have e1 : (Str.ofString "(").length = 1 := by decide +kernel
  have e2 : (Str.ofString ",)").length = 2 := by decide +kernel
  have e3 : (Str.ofString ")").length = 1 := by decide +kernel
  have h : (Str.join ", " ts).length ≤ piled ts := by
    by_cases hn : ts = []
    · subst hn; exact Nat.le_of_eq (by decide +kernel)
    · have := join_length_add ts hn; omega
  split <;> omega
mutual
def szD : D → Nat
  | .non => 4
  | .bl _ => 5
  | .int i => i.natAbs.log2 + 2
  | .str s => 10 * s.length + 2
  | .lst ds => 2 + szDs ds
  | .tup ds => 3 + szDs ds
  | _ => 4
def szDs : List D → Nat
  | [] => 0
  | d :: ds => (szD d + 2) + szDs ds
end
mutual
def okC : D → Bool
  | .str s => s.cps.toList.all fun c => decide (c < 16 ^ 8)
  | .lst ds => okCs ds
  | .tup ds => okCs ds
  | _ => true
def okCs : List D → Bool
  | [] => true
  | d :: ds => okC d && okCs ds
end
mutual
theorem shown_le : ∀ d : D, okC d = true → (shownD d).length ≤ szD d
  | .non, _ => by unfold shownD toP PyData.shown szD; decide +kernel
  | .bl b, _ => by unfold shownD toP PyData.shown szD; cases b <;> decide +kernel
  | .int i, _ => by
    unfold shownD toP PyData.shown szD
    rw [ofString_length]
    exact int_text_length_le (k := i.natAbs.log2 + 1) (Nat.succ_pos _) (Nat.lt_succ_self _)
  | .str s, h => by
    unfold shownD toP PyData.shown szD
    unfold okC at h
    exact StrLaws.reprText_len s fun c hc => of_decide_eq_true (List.all_eq_true.mp h c hc)
  | .lst ds, h => by
    unfold okC at h
    unfold shownD toP PyData.shown szD
    exact Nat.le_trans (listText_le _) (Nat.add_le_add_left (shownAll_le ds h) 2)
  | .tup ds, h => by
    unfold okC at h
    unfold shownD toP PyData.shown szD
    exact Nat.le_trans (tupleText_le _) (Nat.add_le_add_left (shownAll_le ds h) 3)
  | .ins _ _, _ => by unfold shownD toP PyData.shown szD; decide +kernel
  | .scr _, _ => by unfold shownD toP PyData.shown szD; decide +kernel
  | .dct, _ => by unfold shownD toP PyData.shown szD; decide +kernel
  | .fn _, _ => by unfold shownD toP PyData.shown szD; decide +kernel
theorem shownAll_le : ∀ ds : List D, okCs ds = true → piled (PyData.shownAll (toPs ds)) ≤ szDs ds
  | [], _ => by unfold toPs PyData.shownAll szDs; exact Nat.le_refl _
  | d :: ds, h => by
    unfold okCs at h
    rw [Bool.and_eq_true] at h
    unfold toPs PyData.shownAll szDs
    rw [piled_cons]
    exact Nat.add_le_add (Nat.add_le_add_right (shown_le d h.1) 2) (shownAll_le ds h.2)
end
end DD
/-! ### methods of texts and lists, sum, sorted, range by threes, in -/
namespace DD
open PySem L2 PyProof
section
variable {X : Cx} {T : Tb} {pos p apos : Pos} {a o : Expr} {es : List Expr} {wa wo : W} {ws : WA} {name : Str} {id : String} {r : V → List V → Hp → VK → Prop}
/-- s.m(..), s a text -/
def wBmS (f : Str → PNf) (wo : W) (ws : WA) : W := fun δ Q => wo δ fun x => wd x fun d => match d with
  | .str s => ws δ fun svs => allV svs fun ds => f s ds Q
  | _ => False
/-- what a text's method gives, by values -/
def PS1 (T : Tb) (r : V → List V → Hp → VK → Prop) (f : Str → PNf) : Prop := ∀ (e : En) (F H : Hp) (δ : DEnv) (σ : L2.St) (s : Str) (xs : List V) (ds : List D) (Qd : SV → Prop) (Q : VK), Sim T e F δ σ H → IsL T F xs ds → f s ds Qd → Kont T e F δ σ Qd Q → r (.str s) xs H Q
theorem d_bmS {f : Str → PNf} (slot : Slot "str" name id) (hty : typeOf (.builtin id) = pure (.type "method_descriptor")) (hm : MtR X id r) (hp : PS1 T r f) (ho : PE X o (lift T wo)) (ha : PA X (a :: es) (liftA T ws))
    (hbase : attributeBase o name X.env (eval o X.env) = eval o X.env := by rfl)
    (hfew : ((backTo pos (starEach (a :: es) X.env)).all (fun x => !x.1) && (backToKw pos (keywordEach [] X.env)).all (fun x => x.1.isSome)
      && decide ((a :: es).length + ([] : List Keyword).length + (if ([] : List Keyword).isEmpty then 0 else 1) < 30)) = true := by rfl)
    (hline : (apos.endLine == pos.line) = true := by rfl) (hs : starEach (a :: es) X.env = (false, eval a X.env) :: starEach es X.env := by rfl) (hplain : (backTo pos (starEach es X.env)).any (·.1) = false := by rfl) :
    PE X (.Call (.Attribute o name apos) (a :: es) [] pos) (lift T (wBmS f wo ws)) := by
  refine PE.weak (pe_bm F.plainAttrs_str slot hty hm ho ha hbase hfew hline hs hplain) fun σ H Q ⟨e, F, δ, Qd, S, w, k⟩ => ?_
  refine use (te := lift T wo) S w fun v H1 F1 d S1 l1 i1 w1 => ?_
  split at w1
  · rename_i s
    cases i1.strE
    refine ⟨rfl, useA S1 w1 fun vs H2 F2 ds S2 l2 i2 w2 => ?_⟩
    exact hp e F2 H2 δ σ s vs ds Qd Q S2 i2 w2 fun v H' F' sv S' l' r' q' => k v H' F' sv S' ((l1.trans l2).trans l') r' q'
  · exact w1.elim
/-- xs.m(..), xs a list -/
def wBmL (f : List D → PNf) (wo : W) (ws : WA) : W := fun δ Q => wo δ fun x => wd x fun d => match d with
  | .lst xs => ws δ fun svs => allV svs fun ds => f xs ds Q
  | _ => False
def PL1 (T : Tb) (r : V → List V → Hp → VK → Prop) (f : List D → PNf) : Prop := ∀ (e : En) (F H : Hp) (δ : DEnv) (σ : L2.St) (p : Addr) (vs : List V) (ys : List D) (xs : List V) (ds : List D) (Qd : SV → Prop) (Q : VK), Sim T e F δ σ H → F p = some (.lst vs) → IsL T F vs ys → IsL T F xs ds → f ys ds Qd → Kont T e F δ σ Qd Q → r (.ref p) xs H Q
theorem d_bmL {f : List D → PNf} (slot : Slot "list" name id) (hty : typeOf (.builtin id) = pure (.type "method_descriptor")) (hm : MtR X id r) (hp : PL1 T r f) (ho : PE X o (lift T wo)) (ha : PA X (a :: es) (liftA T ws))
    (hbase : attributeBase o name X.env (eval o X.env) = eval o X.env := by rfl)
    (hfew : ((backTo pos (starEach (a :: es) X.env)).all (fun x => !x.1) && (backToKw pos (keywordEach [] X.env)).all (fun x => x.1.isSome)
      && decide ((a :: es).length + ([] : List Keyword).length + (if ([] : List Keyword).isEmpty then 0 else 1) < 30)) = true := by rfl)
    (hline : (apos.endLine == pos.line) = true := by rfl) (hs : starEach (a :: es) X.env = (false, eval a X.env) :: starEach es X.env := by rfl) (hplain : (backTo pos (starEach es X.env)).any (·.1) = false := by rfl) :
    PE X (.Call (.Attribute o name apos) (a :: es) [] pos) (lift T (wBmL f wo ws)) := by
  refine PE.weak (pe_bm F.plainAttrs_list slot hty hm ho ha hbase hfew hline hs hplain) fun σ H Q ⟨e, F, δ, Qd, S, w, k⟩ => ?_
  refine use (te := lift T wo) S w fun v H1 F1 d S1 l1 i1 w1 => ?_
  split at w1
  · rename_i ys
    obtain ⟨q, vs, rfl, h1, h2⟩ := i1.lstE
    refine ⟨.inl ⟨rfl, vs, SqL.of (S1.sub _ _ h1)⟩, useA S1 w1 fun us H2 F2 ds S2 l2 i2 w2 => ?_⟩
    exact hp e F2 H2 δ σ q vs ys us ds Qd Q S2 (l2 _ _ h1) (IsL.mono T l2 ys h2) i2 w2 fun v H' F' sv S' l' r' q' => k v H' F' sv S' ((l1.trans l2).trans l') r' q'
  · exact w1.elim
/-! #### texts -/
theorem IsL.strs {F : Hp} : ∀ (ys : List Str), IsL T F (ys.map V.str) (ys.map D.str)
  | [] => IsL.nil T
  | y :: ys => IsL.cons T Is.str (IsL.strs ys)
def splitD : Str → PNf := fun s ds Q => match ds with
  | [.str b] => (0 < b.length ∧ s.length + 2 ≤ sizeLine) ∧ Q (.own ((Txt.split s b).map D.str))
  | _ => False
theorem p_split : PS1 T (fun x xs H Q => ∃ a b, x = .str a ∧ xs = [.str b] ∧ (b.length == 0) = false ∧ a.length + 2 ≤ sizeLine ∧ rNewStrs (Txt.split a b) H Q) splitD := by
  intro e F H δ σ s xs ds Qd Q S i h k
  unfold splitD at h
  split at h
  · obtain ⟨v, rfl, h1⟩ := i.oneE
    cases h1.strE
    exact ⟨_, _, rfl, rfl, by have := h.1.1; simp; omega, h.1.2, fun q hq => klst S k hq (IsL.strs _) h.2⟩
  · exact h.elim
def partD : Str → PNf := fun s ds Q => match ds with
  | [.str b] => (0 < b.length ∧ s.length ≤ sizeLine) ∧ Q (.val (.tup [.str (Txt.partition s b).1, .str (Txt.partition s b).2.1, .str (Txt.partition s b).2.2]))
  | _ => False
theorem p_part : PS1 T (fun x xs H Q => ∃ a b, x = .str a ∧ xs = [.str b] ∧ (b.length == 0) = false ∧ a.length ≤ sizeLine ∧ ∀ p, H p = none → Q (.ref p) (upd H p (.tup [.str (Txt.partition a b).1, .str (Txt.partition a b).2.1, .str (Txt.partition a b).2.2]))) partD := by
  intro e F H δ σ s xs ds Qd Q S i h k
  unfold partD at h
  split at h
  · obtain ⟨v, rfl, h1⟩ := i.oneE
    cases h1.strE
    refine ⟨_, _, rfl, rfl, by have := h.1.1; simp; omega, h.1.2, fun q hq => ?_⟩
    obtain ⟨S2, l2, i2⟩ := res_tup S hq (IsL.cons T Is.str (IsL.cons T Is.str (IsL.one T Is.str)))
    exact k _ _ _ (.val (.tup [.str (Txt.partition s _).1, .str (Txt.partition s _).2.1, .str (Txt.partition s _).2.2])) S2 l2 i2 h.2
  · exact h.elim
def sindexD : Str → PNf := fun s ds Q => match ds with
  | [.str b] => (match Builtin.Str.occurrences s b 0 s.length 1 with
    | i :: _ => Q (.val (.int (i : Nat)))
    | [] => False)
  | _ => False
theorem p_sindex : PS1 T (fun x xs H Q => ∃ a b i rest, x = .str a ∧ xs = [.str b] ∧ Builtin.Str.occurrences a b 0 a.length 1 = i :: rest ∧ Q (.int (i : Nat)) H) sindexD := by
  intro e F H δ σ s xs ds Qd Q S i h k
  unfold sindexD at h
  split at h
  · obtain ⟨v, rfl, h1⟩ := i.oneE
    cases h1.strE
    split at h
    · rename_i j r hr
      exact ⟨_, _, j, r, rfl, rfl, hr, kint S k h⟩
    · exact h.elim
  · exact h.elim
def findD : Str → PNf := fun s ds Q => match ds with
  | [.str b] => Q (.val (.int (Txt.find s b)))
  | _ => False
theorem p_find : PS1 T (fun x xs H Q => ∃ a b, x = .str a ∧ xs = [.str b] ∧ Q (.int (Txt.find a b)) H) findD := by
  intro e F H δ σ s xs ds Qd Q S i h k
  unfold findD at h
  split at h
  · obtain ⟨v, rfl, h1⟩ := i.oneE
    cases h1.strE
    exact ⟨_, _, rfl, rfl, kint S k h⟩
  · exact h.elim
/-! #### flat values -/
def flatD : D → Bool
  | .non => true
  | .bl _ => true
  | .int _ => true
  | .str _ => true
  | _ => false
theorem is_flat {F : Hp} {v : V} {d : D} (i : Is T F v d) (h : flatD d = true) : flatV v = true ∧ ∀ {w : V} {e : D}, Is T F w e → flatD e = true → eqV w v = eqD e d := by
  have key : ∀ {v : V} {d : D}, Is T F v d → flatD d = true → (d = .non ∧ v = .non) ∨ (∃ b, d = .bl b ∧ v = .bl b) ∨ (∃ b, d = .int b ∧ v = .int b) ∨ (∃ b, d = .str b ∧ v = .str b) := by
    intro v d i h
    cases d with
    | non => exact .inl ⟨rfl, i.nonE⟩
    | bl b => exact .inr (.inl ⟨b, rfl, i.blE⟩)
    | int b => exact .inr (.inr (.inl ⟨b, rfl, i.intE⟩))
    | str b => exact .inr (.inr (.inr ⟨b, rfl, i.strE⟩))
    | _ => cases h
  refine ⟨?_, fun {w e} j g => ?_⟩
  · rcases key i h with ⟨rfl, rfl⟩ | ⟨b, rfl, rfl⟩ | ⟨b, rfl, rfl⟩ | ⟨b, rfl, rfl⟩ <;> rfl
  · rcases key i h with ⟨rfl, rfl⟩ | ⟨b, rfl, rfl⟩ | ⟨b, rfl, rfl⟩ | ⟨b, rfl, rfl⟩ <;> rcases key j g with ⟨rfl, rfl⟩ | ⟨c, rfl, rfl⟩ | ⟨c, rfl, rfl⟩ | ⟨c, rfl, rfl⟩ <;> first | rfl | (unfold eqV eqD; rfl)
theorem flat_all {F : Hp} : ∀ {vs : List V} {ds : List D}, IsL T F vs ds → ds.all flatD = true → vs.all flatV = true
  | vs, [], i, h => by unfold IsL at i; rw [i]; rfl
  | vs, d :: ds, i, h => by
    unfold IsL at i
    obtain ⟨v, r, rfl, i1, i2⟩ := i
    rw [List.all_cons, Bool.and_eq_true] at h ⊢
    exact ⟨(is_flat i1 h.1).1, flat_all i2 h.2⟩
/-- the first place of what equals d -/
def idxD (d : D) : List D → Option Nat
  | [] => none
  | e :: es => if eqD e d = true then some 0 else (idxD d es).map (· + 1)
theorem idxD_some {d : D} : ∀ {es : List D} {j : Nat}, idxD d es = some j → (∃ e, es[j]? = some e ∧ eqD e d = true) ∧ ∀ (m : Nat) (e : D), m < j → es[m]? = some e → eqD e d = false
  | [], j, h => by cases h
  | e :: es, j, h => by
    unfold idxD at h
    split at h
    · rename_i he
      cases h
      exact ⟨⟨e, rfl, he⟩, fun m _ hm => absurd hm (Nat.not_lt_zero m)⟩
    · rename_i he
      cases q : idxD d es with
      | none => rw [q] at h; cases h
      | some i =>
        rw [q] at h
        cases h
        obtain ⟨⟨e', h1, h2⟩, h3⟩ := idxD_some q
        refine ⟨⟨e', by simpa using h1, h2⟩, fun m e2 hm h4 => ?_⟩
        cases m with
        | zero =>
          cases h4
          exact Bool.eq_false_iff.mpr he
        | succ m => exact h3 m e2 (Nat.lt_of_succ_lt_succ hm) (by simpa using h4)
theorem flat_idx {F : Hp} {vs : List V} {ds : List D} {v : V} {d : D} {j : Nat} (i : IsL T F vs ds) (hf : ds.all flatD = true) (iv : Is T F v d) (hd : flatD d = true) (h : idxD d ds = some j) :
    ∃ z, vs[j]? = some z ∧ eqV z v = true ∧ ∀ (m : Nat) (z' : V), m < j → vs[m]? = some z' → eqV z' v = false := by
  obtain ⟨⟨e, h1, h2⟩, h3⟩ := idxD_some h
  obtain ⟨z, hz, iz⟩ := i.get T h1
  have fl : ∀ {m : Nat} {e : D}, ds[m]? = some e → flatD e = true := fun hm => List.all_eq_true.mp hf _ (List.mem_of_getElem? hm)
  refine ⟨z, hz, by rw [(is_flat iv hd).2 iz (fl h1)]; exact h2, fun m z' hm hz' => ?_⟩
  obtain ⟨e', h4, i4⟩ := i.getV T hz'
  rw [(is_flat iv hd).2 i4 (fl h4)]
  exact h3 m e' hm h4
def lindexD : List D → PNf := fun ys ds Q => match ds with
  | [d] => (ys.all flatD = true ∧ flatD d = true) ∧ (match idxD d ys with
    | some j => Q (.val (.int (j : Nat)))
    | none => False)
  | _ => False
theorem p_lindex {K : PySem.W.Frag} : PL1 T (rIndex K) lindexD := by
  intro e F H δ σ p vs ys xs ds Qd Q S hp iy i h k
  unfold lindexD at h
  split at h
  · rename_i d
    obtain ⟨v, rfl, h1⟩ := i.oneE
    obtain ⟨⟨hf, hd⟩, h⟩ := h
    split at h
    · rename_i j hj
      obtain ⟨z, g1, g2, g3⟩ := flat_idx iy hf h1 hd hj
      exact ⟨p, vs, v, j, z, rfl, rfl, SqL.of (S.sub _ _ hp), (is_flat h1 hd).1, flat_all iy hf, g1, g2, g3, kint S k h⟩
    · exact h.elim
  · exact h.elim
/-- t.index(x), flat items -/
def rIndexTF (K : PySem.W.Frag) : V → List V → Hp → VK → Prop := fun x xs H Q => ∃ (a : Addr) (ys : List V) (y : V) (j : Nat) (z : V), x = V.ref a ∧ xs = [y] ∧ SqT K H a ys ∧ flatV y = true ∧ ys.all flatV = true ∧ ys[j]? = some z ∧ eqV z y = true ∧
  (∀ (m : Nat) (z' : V), m < j → ys[m]? = some z' → eqV z' y = false) ∧ Q (.int (j : Nat)) H
theorem mt_tup_indexF : MtR X "tuple.index" (rIndexTF X.K) := by
  intro pins s σ H x xs v us Q I rx rxs h
  obtain ⟨a, ys, y, j, z, rfl, rfl, hs, fy, fys, hz, hzj, hno, q⟩ := h
  cases rx
  cases rxs with
  | cons ry rt =>
    rename_i uy ut
    cases rt
    obtain ⟨its, rv, ⟨⟨cls, dd, data, sl⟩, ho, hc, n, hd⟩, hlen⟩ := I.tuple hs
    simp only at hc hd
    subst hc hd
    obtain ⟨u, hu, ru⟩ := rv.get hz
    obtain ⟨hjl, hje⟩ := List.getElem?_eq_some_iff.mp hu
    have hvl := rv.length
    have hj : j < its.toArray.size := by simpa using hjl
    refine call_meets PySem.F.slot_tuple_index ⟨_, ho, rfl⟩ PySem.F.entry_tuple_index (PySem.F.args_tuple_index_2 _ _)
      (TI.tuple_indexAt a its.toArray n dd sl uy (eqU y) j hj ?_ ?_) ⟨ho, fun u' hu' => mem_eqAt ry fy rv fys u' (by simpa using hu'), ?_⟩
    · have e1 : its.toArray[j] = u := by simpa using hje
      rw [e1, eqU_of ru (flat_at fys hz)]
      exact hzj
    · intro m hm hmj
      have hml : m < its.length := by simpa using hm
      have hmy : m < ys.length := by omega
      have hy' : ys[m]? = some ys[m] := List.getElem?_eq_getElem hmy
      obtain ⟨u2, hu2, ru2⟩ := rv.get hy'
      obtain ⟨_, hme⟩ := List.getElem?_eq_some_iff.mp hu2
      have e1 : its.toArray[m] = u2 := by simpa using hme
      rw [e1, eqU_of ru2 (flat_at fys hy')]
      exact hno m _ hmj hy'
    · exact ⟨.int (j : Nat), H, I.tok _, ⟨_, rfl⟩, q⟩
/-! #### sum, sorted of ints -/
def intsOf : List D → Option (List Int)
  | [] => some []
  | .int i :: r => (intsOf r).map (i :: ·)
  | _ :: _ => none
theorem intsOf_map : ∀ ns : List Int, intsOf (ns.map D.int) = some ns
  | [] => rfl
  | n :: ns => by rw [List.map_cons]; unfold intsOf; rw [intsOf_map ns]; rfl
theorem intsOf_some : ∀ {ds : List D} {ns : List Int}, intsOf ds = some ns → ds = ns.map D.int
  | [], ns, h => by cases h; rfl
  | d :: ds, ns, h => by
    cases d with
    | int i =>
      unfold intsOf at h
      cases q : intsOf ds with
      | none => rw [q] at h; cases h
      | some r => rw [q] at h; cases h; rw [intsOf_some q]; rfl
    | _ => cases h
theorem IsL.ints {F : Hp} : ∀ {ns : List Int} {vs : List V}, IsL T F vs (ns.map D.int) → vs = ns.map V.int
  | [], vs, i => by unfold IsL at i; exact i
  | n :: ns, vs, i => by
    rw [List.map_cons] at i
    unfold IsL at i
    obtain ⟨v, r, rfl, i1, i2⟩ := i
    cases i1.intE
    rw [IsL.ints i2]; rfl
theorem IsL.ofInts {F : Hp} : ∀ (ns : List Int), IsL T F (ns.map V.int) (ns.map D.int)
  | [] => IsL.nil T
  | n :: ns => IsL.cons T Is.int (IsL.ofInts ns)
def sumD : PNf := fun ds Q => match ds with
  | [.lst xs] => (match intsOf xs with | some ns => Q (.val (.int ns.sum)) | none => False)
  | _ => False
theorem p_sum {K : PySem.W.Frag} : PN T (rSum K) sumD := by
  intro e F H δ σ xs ds Qd Q S i h k
  unfold sumD at h
  split at h
  · obtain ⟨v, rfl, h1⟩ := i.oneE
    obtain ⟨p, vs, rfl, g1, g2⟩ := h1.lstE
    split at h
    · rename_i ns hn
      have := intsOf_some hn
      subst this
      cases g2.ints
      exact ⟨p, ns, rfl, SqL.of (S.sub _ _ g1), kint S k h⟩
    · exact h.elim
  · exact h.elim
theorem boot_sum : bootBuiltins "sum" = some (.builtin "sum") := by kernel_rfl
theorem boot_sorted : bootBuiltins "sorted" = some (.builtin "sorted") := by kernel_rfl
/-- sorted of ints: a list or a tuple -/
def sortID : PNf := fun ds Q => match ds with
  | [.lst xs] => (match intsOf xs with | some ns => ∀ ns' : List Int, ns'.Perm ns → ns'.Pairwise (· ≤ ·) → Q (.own (ns'.map D.int)) | none => False)
  | _ => False
theorem p_sortI {K : PySem.W.Frag} : PN T (rSortedI K) sortID := by
  intro e F H δ σ xs ds Qd Q S i h k
  unfold sortID at h
  split at h
  · obtain ⟨v, rfl, h1⟩ := i.oneE
    obtain ⟨p, vs, rfl, g1, g2⟩ := h1.lstE
    split at h
    · rename_i ns hn
      have := intsOf_some hn
      subst this
      cases g2.ints
      exact ⟨p, ns, rfl, SqL.of (S.sub _ _ g1), fun ns' q hp hs hq => klst S k hq (IsL.ofInts ns') (h ns' hp hs)⟩
    · exact h.elim
  · exact h.elim
/-! #### in -/
theorem idx_any {F : Hp} {v : V} {d : D} (iv : Is T F v d) (hd : flatD d = true) : ∀ {vs : List V} {ds : List D}, IsL T F vs ds → ds.all flatD = true → inV v vs = (idxD d ds).isSome
  | vs, [], i, h => by unfold IsL at i; rw [i]; rfl
  | vs, e :: ds, i, h => by
    unfold IsL at i
    obtain ⟨w, r, rfl, i1, i2⟩ := i
    rw [List.all_cons, Bool.and_eq_true] at h
    have ih := idx_any iv hd i2 h.2
    unfold inV at ih ⊢
    rw [List.any_cons, (is_flat iv hd).2 i1 h.1, ih]
    show _ = (if eqD e d = true then some 0 else (idxD d ds).map (· + 1)).isSome
    cases eqD e d with
    | true => rfl
    | false => simp
/-! #### range(a, b, c), c above 0 -/
def stepsD (lo c : Int) (n : Nat) : List D := (List.range n).map fun i => .int (lo + (i : Nat) * c)
theorem walks_steps {F : Hp} {lo c : Int} {n : Nat} : Walks T (Itc lo c n) F (stepsD lo c n) where
  go := fun e F1 δ σ H j S l hj => (show j < n by simpa [stepsD] using hj)
  stop := fun e F1 δ σ H j S l hj => (show n ≤ j by simpa [stepsD] using hj)
  yld := fun e F1 δ σ H j v H' d S l hd ⟨e1, e2⟩ => by
    subst e1
    refine ⟨F1, S, Le.refl _, ?_⟩
    unfold stepsD at hd
    rw [List.getElem?_map] at hd
    cases q : (List.range n)[j]? with
    | none => rw [q] at hd; cases hd
    | some m =>
      rw [q] at hd
      have := (List.getElem?_eq_some_iff.mp q)
      obtain ⟨h1, h2⟩ := this
      rw [List.getElem_range] at h2
      subst h2
      cases hd
      rw [e2]
      exact Is.int
def wRng3 (ws : WA) : WI := fun δ Q => ws δ fun svs => allV svs fun ds => match ds with
  | [.int i, .int j, .int c] => ∃ n, RgC i j c n ∧ Q (stepsD i c n)
  | _ => False
theorem i_rng3 {tg b c : Expr} (hm : X.mg "range" = none) (ha : PA X [a, b, c] (liftA T ws)) (hg : Gl X "range" := by rfl) (hs : starEach [a, b, c] X.env = (false, eval a X.env) :: starEach [b, c] X.env := by rfl) (hpl : (backTo pos (starEach [b, c] X.env)).any (·.1) = false := by rfl) : PI X tg (.Call (.Name "range" p) [a, b, c] [] pos) (liftI T (wRng3 ws)) := by
  refine PI.weak (pi_range3 hg hm ha hs hpl) fun σ H R ⟨e, F, δ, Qd, S, w, k⟩ => ?_
  refine useA S w fun vs H1 F1 ds S1 l1 i1 q1 => ?_
  split at q1
  · rename_i m n c
    obtain ⟨k', hk, q⟩ := q1
    obtain ⟨v, r, e1, h1, h2⟩ : ∃ v r, vs = v :: r ∧ Is T F1 v (.int m) ∧ IsL T F1 r [.int n, .int c] := by unfold IsL at i1; exact i1
    obtain ⟨v', v'', rfl, h3, h4⟩ := IsL.two h2
    subst e1
    cases h1.intE; cases h3.intE; cases h4.intE
    exact ⟨m, n, c, k', rfl, hk, k _ H1 F1 _ S1 l1 walks_steps q⟩
  · exact q1.elim
end
end DD
/-! ### a module's dict of texts, walked and asked -/
namespace DD
open PySem L2 PyProof PyProof.Rows
/-- entry for entry: the key's text, and what it is told -/
inductive Ents : List DictEntry → List (Str × Str) → Prop where
  | nil : Ents [] []
  | cons {h : Int} {k v : Str} {t u : Tok} {es : List DictEntry} {kvs : List (Str × Str)} (r : Ents es kvs) : Ents (⟨h, .str k t, .str v u⟩ :: es) ((k, v) :: kvs)
theorem Ents.len {es : List DictEntry} {kvs : List (Str × Str)} (e : Ents es kvs) : es.length = kvs.length := by
  induction e with
  | nil => rfl
  | cons r ih => rw [List.length_cons, List.length_cons, ih]
theorem Ents.get {es : List DictEntry} {kvs : List (Str × Str)} (e : Ents es kvs) : ∀ {i : Nat} {kv : Str × Str}, kvs[i]? = some kv → ∃ en t, es[i]? = some en ∧ en.key = .str kv.1 t := by
  induction e with
  | nil => intro i kv h; simp at h
  | @cons hh k v t u es kvs r ih =>
    intro i kv h
    cases i with
    | zero => simp at h; subst h; exact ⟨_, t, rfl, rfl⟩
    | succ i => obtain ⟨en, t', h1, h2⟩ := ih (by simpa using h); exact ⟨en, t', by simpa using h1, h2⟩
structure ConstD (K : PySem.W.Frag) (w : World) (mg : Str → Option Value) (x : Str) (kvs : List (Str × Str)) : Prop where
  ex : ∃ (d : Addr) (es : Array DictEntry) (n : Nat), mg x = some (.ref d) ∧ K.lookup d = some ⟨.type "dict", none, .dict es n, #[]⟩ ∧ (d == sysModules) = false ∧ Ents es.toList kvs ∧ PySem.W.KeysLit w.params es.toList ∧ ∀ k v, kvs.lookup k = some v → ∃ t, PySem.W.nsIn K d k = some (some (.str v t))
/-- the keys, one after the other -/
def Itc0 (ks : List Str) : It := ⟨fun i _ => i < ks.length, fun i H x H' => H' = H ∧ ∃ k, ks[i]? = some k ∧ x = .str k, fun i _ => ks.length ≤ i⟩
section
variable {X : Cx} {T : Tb} {tg : Expr} {P : Program} {w : World} {K : PySem.W.Frag} {pos : Pos} {d : Addr} {es : Array DictEntry} {n : Nat} {kvs : List (Str × Str)}
theorem turn_const (it : Addr) (hk : K.lookup d = some ⟨.type "dict", none, .dict es n, #[]⟩) (he : Ents es.toList kvs) : Turn P w K tg (Itc0 (kvs.map (·.1))) [it] it (fun i h => h.IsKeyIter it d i kvs.length n) where
  mem := by simp
  obj := fun i h st b hb => by
    have e : b = it := by simpa using hb
    subst e
    obtain ⟨oi, e, c, dd⟩ := st
    exact ⟨oi, e, fun v z => by rw [dd] at z; cases z⟩
  keep := fun i h h' st k => st.at fun oi e => k it (by simp) oi e
  item := by
    intro X hP hw hK hc i pins s σ H E I hf st hg
    subst hP hw hK
    have hg : i < (kvs.map (·.1)).length := hg
    rw [List.length_map] at hg
    obtain ⟨f0, f1, f2, f3, f4, f5⟩ := hf it (by simp)
    have hgd := I.kIn d _ hk
    have hkv : kvs[i]? = some kvs[i] := List.getElem?_eq_getElem hg
    obtain ⟨en, t, hen, hkey⟩ := he.get hkv
    have hsz : es.size = kvs.length := by rw [← he.len, Array.length_toList]
    have hen' : es[i]? = some en := by rw [← Array.getElem?_toList]; exact hen
    refine next_key_item st hgd rfl hsz hen' fun h' st' sb => ?_
    have I1 : Inv X pins σ H { s with heap := h' } := I.turned (t' := s.toks) (fun b ob hb e => (sb.2 b hb).trans e) f0 f1 f3 f4 f5
    obtain ⟨oi, e, c, dd⟩ := id st'
    exact ⟨en.key, rfl, go_of (s := { s with heap := h' }) e c dd (by decide) ⟨.str kvs[i].1, H, I1, ⟨t, hkey⟩, ⟨rfl, kvs[i].1, by rw [List.getElem?_map, hkv]; rfl, rfl⟩, st', fun b hb => (hf b hb).1⟩⟩
  done := by
    intro X hP hw hK hc i pins s σ H E I hf st hg
    subst hP hw hK
    have hg : (kvs.map (·.1)).length ≤ i := hg
    rw [List.length_map] at hg
    obtain ⟨f0, f1, f2, f3, f4, f5⟩ := hf it (by simp)
    have hgd := I.kIn d _ hk
    have hsz : es.size = kvs.length := by rw [← he.len, Array.length_toList]
    exact next_key_end (I.ok.hd hc) st hgd rfl hsz hg fun h' eb => ⟨rfl, I.turned (t' := s.toks) (fun b ob hb e => eb b ob hb e) f0 f1 f3 f4 f5⟩
  self := fun A i s Q E st h => by
    refine wpAny_pyIter_slot st.typeIs F.slot_dict_keyiterator_iter (wpAny_call_entry F.slot_dict_keyiterator_iter st.typeIs F.entry_dict_keyiterator_iter ?_ (F.args_dict_keyiterator_iter_1 _))
    show wpAny _ _ (ret (.ref it)) _ _ s
    exact wpAny_pure ⟨_, rfl, "dict_keyiterator", _, st.typeIs, F.slot_dict_keyiterator_next.lookup, h⟩
theorem walks_const {F : Hp} {ks : List Str} : Walks T (Itc0 ks) F (ks.map D.str) where
  go := fun e F1 δ σ H j S l hj => (show j < ks.length by simpa using hj)
  stop := fun e F1 δ σ H j S l hj => (show ks.length ≤ j by simpa using hj)
  yld := fun e F1 δ σ H j v H' d S l hd ⟨e1, k, e2, e3⟩ => by
    subst e1; subst e3
    refine ⟨F1, S, Le.refl _, ?_⟩
    rw [List.getElem?_map, e2] at hd
    cases hd
    exact Is.str
/-- for x in D, D a dict of the module -/
def wCD (ks : List Str) : WI := fun _ Q => Q (ks.map D.str)
theorem i_const {x : Str} (C : ConstD X.K X.w X.mg x kvs) (hg : Gl X x := by rfl) (hdb : (x == ("__debug__" : Str)) = false := by decide) : PI X tg (.Name x pos) (liftI T (wCD (kvs.map (·.1)))) := by
  obtain ⟨d, es, n, hm, hk, hs, he, _, _⟩ := C.ex
  refine ⟨fun pins s σ H R I h => ?_⟩
  obtain ⟨e, F, δ, Qd, S, w, k⟩ := h
  refine ld_glob I hg hm ?_ hdb
  have hgd := I.kIn d _ hk
  have hsz : es.size = kvs.length := by rw [← he.len, Array.length_toList]
  refine iter_keys hs hgd ⟨rfl, rfl, rfl⟩ rfl (pi_one (tk := s.toks) I _ (turn_const _ hk he) ⟨_, Heap.get?_push_size _ rfl, rfl, ?_⟩ (k _ H F _ S (Le.refl F) walks_const w))
  rw [hsz] <;> rfl
/-- D[e], D a dict of the module -/
def wCIx (kvs : List (Str × Str)) (wb : W) : W := fun δ Q => wb δ fun y => wd y fun dy => match dy with
  | .str k => (match kvs.lookup k with | some v => Q (.val (.str v)) | none => False)
  | _ => False
theorem d_ixC {x : Str} {p1 : Pos} {b : Expr} {wb : W} (C : ConstD X.K X.w X.mg x kvs) (hb : PE X b (lift T wb)) (hg : Gl X x := by rfl) (hdb : (x == ("__debug__" : Str)) = false := by decide) (hs : PlainIx b := by intro _ _; rfl) : PE X (.Subscript (.Name x p1) b pos) (lift T (wCIx kvs wb)) := by
  obtain ⟨d, es, n, hm, hk, hs0, he, hl, hv⟩ := C.ex
  refine PE.weak (pe_ix ix_kdict (pe_glob (v := .ref d) hg hm rfl hdb) hb hs) fun σ H Q ⟨e, F, δ, Qd, S, w, k⟩ => ?_
  show lift T wb σ H fun y H2 => rIxD X.K X.w (.ref d) y H2 Q
  refine use (te := lift T wb) S w fun y H1 F1 dy S1 l1 i1 w1 => ?_
  split at w1
  · rename_i z
    cases i1.strE
    split at w1
    · rename_i v hz
      obtain ⟨t, ht⟩ := hv _ _ hz
      exact ⟨d, z, .str v, rfl, rfl, ⟨es, n, _, hk, hl, ht, t, rfl⟩, k _ H1 F1 (.val (.str v)) S1 l1 Res.str w1⟩
    · exact w1.elim
  · exact w1.elim
end
theorem constD_nil {K : PySem.W.Frag} {d : Addr} : ∀ k v : Str, ([] : List (Str × Str)).lookup k = some v → ∃ t, PySem.W.nsIn K d k = some (some (.str v t)) := fun k v h => by cases h
theorem constD_cons {K : PySem.W.Frag} {d : Addr} {k0 v0 : Str} {t0 : Tok} {r : List (Str × Str)} (h0 : PySem.W.nsIn K d k0 = some (some (.str v0 t0))) (h : ∀ k v : Str, r.lookup k = some v → ∃ t, PySem.W.nsIn K d k = some (some (.str v t))) : ∀ k v : Str, ((k0, v0) :: r).lookup k = some v → ∃ t, PySem.W.nsIn K d k = some (some (.str v t)) := fun k v z => by
  rw [List.lookup_cons] at z
  split at z
  · rename_i e
    cases z
    rw [eq_of_beq e]
    exact ⟨t0, h0⟩
  · exact h k v z
section
end
end DD
/-! ### {'a': e, ..}[b], the values none, truths, ints, texts -/
namespace DD
open PySem L2 PyProof PyProof.Rows
section
variable {T : Tb} {e : En} {F F' H H' : Hp} {δ : DEnv} {σ : L2.St}
/-- an object of nobody's is written -/
theorem Sim.poke (S : Sim T e F δ σ H) {p : Addr} {o u : HO} (hp : H p = some u) (u1 : ∀ ps, u ≠ .tbl ps) (u2 : ∀ φ, u ≠ .ext φ) (h0 : e.H0 p = none) (hF : F p = none) (hs : ∀ (i : Nat) (si : SV), δ[i]? = some (some si) → si.isVal = false → σ[i]? ≠ some (some (.ref p))) (hB : ¬ e.Sf p) : Sim T e F δ σ (upd H p o) := by
  refine ⟨S.len, S.sub.updR hF, S.base, S.new, fun b u q n1 n2 => ?_, fun b hb => ?_, fun b hb => ?_, S.bgt, tabs_wr S.tabs hp u1 u2, fun i sv q => ?_, S.sep⟩
  · rw [upd_ne (ne_of_none q h0)]; exact S.keep b u q n1 n2
  · obtain ⟨o', h1⟩ := S.bgt b hb
    obtain ⟨f, s, c, h2, h3⟩ := S.bags b hb
    exact ⟨f, s, c, by rw [upd_ne (ne_of_none h1 h0)]; exact h2, h3⟩
  · obtain ⟨u, h2⟩ := S.self b hb
    by_cases hbp : b = p
    · subst hbp; exact ⟨o, upd_same⟩
    · exact ⟨u, by rw [upd_ne hbp]; exact h2⟩
  · obtain ⟨v, h1, h2, h3⟩ := S.slot i sv q
    refine ⟨v, h1, h2.mono (Le.refl _) (fun a ha hv => ?_) (fun _ _ _ h => h), h3⟩
    refine upd_ne ?_
    rintro rfl
    exact hs i sv q hv (by rw [h1, ha])
def wDispL : List W → DEnv → (List D → Prop) → Prop
  | [], _, Q => Q []
  | w :: r, δ, Q => w (blkD (frzD [] δ) []) fun x => wd x fun d => prim d ∧ wDispL r δ fun ds => Q (d :: ds)
/-- a value evaluated beside what stands at p -/
theorem beside {w : W} {te : TE} {Q : VK} {k : D → Prop} {p : Addr} {o : HO} (S : Sim T e F δ σ H) (hp : H p = some o) (hn : ∀ (i : Nat), δ[i]? = some (some .bag) → σ[i]? ≠ some (some (.ref p))) (h : w (blkD (frzD [] δ) []) fun x => wd x fun d => prim d ∧ k d)
    (hk : ∀ v H' d, Sim T e F δ σ H' → H' p = some o → (∀ F, Is T F v d) → k d → Q v H') (hu : ∀ ps, o ≠ .tbl ps := by intro _ z; cases z) : lift T w σ H Q := by
  obtain ⟨F1, l1, S1⟩ := S.frzD []
  refine use (te := lift T w) (S1.blk []) h fun v H' F' d S' l' i' ⟨hpr, q'⟩ => ?_
  refine hk v H' d (S.unlook S') (S'.keep p o hp (fun ⟨i, z1, z2⟩ => hn i ((frzD_bag []).mp z1) z2) (noTab S.tabs.1 hp hu)) (fun F => prim_is hpr i') q'
theorem disp_run {p : Addr} : ∀ (ks : List Str) (ws : List W), ks.length = ws.length → ∀ {H : Hp} (S : Sim T e F δ σ H), H p = some (.dK []) → (∀ (i : Nat), δ[i]? = some (some .bag) → σ[i]? ≠ some (some (.ref p))) → ∀ (Qd : List D → Prop) (Q : List (V × V) → Hp → Prop), wDispL ws δ Qd →
    (∀ H' vs ds, Sim T e F δ σ H' → H' p = some (.dK []) → vs.length = ks.length → (∀ F, IsL T F vs ds) → Qd ds → Q ((ks.map V.str).zip vs) H') → tPairs ((ks.zip ws).map fun kw => (tC (.str kw.1), lift T kw.2)) σ H Q
  | [], [], _, H, S, hp, hn, Qd, Q, w, k => k H [] [] S hp rfl (fun F => IsL.nil T) w
  | x :: ks, w :: ws, hl, H, S, hp, hn, Qd, Q, q, k => by
    show lift T w σ H fun y H2 => tPairs ((ks.zip ws).map fun kw => (tC (.str kw.1), lift T kw.2)) σ H2 fun ps H3 => Q ((.str x, y) :: ps) H3
    refine beside (te := lift T w) S hp hn q fun v H' d S' hp' iv q' => ?_
    refine disp_run ks ws (by simpa using hl) S' hp' hn (fun ds => Qd (d :: ds)) _ q' fun H2 vs ds S2 hp2 hlv il q2 => ?_
    exact k H2 (v :: vs) (d :: ds) S2 hp2 (by simpa using hlv) (fun F => IsL.cons T (iv F) (il F)) q2
  | [], _ :: _, hl, _, _, _, _, _, _, _, _ => by simp at hl
  | _ :: _, [], hl, _, _, _, _, _, _, _, _ => by simp at hl
def keyS (kv : Str × V) : L2.Key × V := (Sum.inr kv.1, kv.2)
theorem zip_keyS : ∀ (ks : List Str) (vs : List V), (ks.map V.str).zip vs = ((ks.zip vs).map keyS).map fun kv => (kV kv.1, kv.2)
  | [], vs => by simp
  | k :: ks, [] => by simp
  | k :: ks, v :: vs => by
    rw [List.map_cons, List.zip_cons_cons, List.zip_cons_cons, List.map_cons, List.map_cons, zip_keyS ks vs]
    rfl
theorem merge_nodup : ∀ (more acc : List (L2.Key × V)), ((acc ++ more).map (·.1)).Nodup → mergeK acc more = acc ++ more
  | [], acc, _ => by rw [List.append_nil]; rfl
  | kv :: more, acc, h => by
    show mergeK (putK acc kv.1 kv.2) more = _
    have hk : (acc.any fun z => decide (z.1 = kv.1)) = false := by
      rw [List.any_eq_false]
      intro z hz he
      have he := of_decide_eq_true he
      rw [List.map_append, List.nodup_append] at h
      exact h.2.2 z.1 (List.mem_map.mpr ⟨z, hz, rfl⟩) kv.1 (by rw [List.map_cons]; exact List.mem_cons_self) he
    have : putK acc kv.1 kv.2 = acc ++ [kv] := by unfold putK; rw [if_neg (by rw [hk]; decide)]
    rw [this, merge_nodup more (acc ++ [kv]) (by rw [List.append_assoc]; exact h), List.append_assoc]
    rfl
theorem valV_zip : ∀ (ks : List Str) (vs : List V) (ds : List D) (F : Hp), IsL T F vs ds → ∀ {k : Str} {d : D}, (ks.zip ds).lookup k = some d → ∃ v, valV ((ks.zip vs).map keyS) (Sum.inr k : L2.Key) = some v ∧ Is T F v d
  | [], vs, ds, F, i, k, d, h => by simp at h
  | x :: ks, vs, [], F, i, k, d, h => by simp at h
  | x :: ks, vs, d' :: ds, F, i, k, d, h => by
    unfold IsL at i
    obtain ⟨v, r, rfl, i1, i2⟩ := i
    rw [List.zip_cons_cons, List.lookup_cons] at h
    rw [List.zip_cons_cons, List.map_cons]
    split at h
    · rename_i he
      cases h
      exact ⟨v, valV_pos (by unfold keyS; rw [eq_of_beq he]), i1⟩
    · rename_i he
      obtain ⟨v', h1, h2⟩ := valV_zip ks r ds F i2 h
      refine ⟨v', ?_, h2⟩
      rw [valV_neg]
      · exact h1
      · unfold keyS
        intro z
        have : x = k := by injection z
        subst this
        rw [beq_self_eq_true] at he
        cases he
end
section
variable {X : Cx} {T : Tb} {pos dpos : Pos} {b : Expr} {wb : W} {keys : List (Option Expr)} {values : List Expr} {ks : List Str} {ws : List W}
def wDispIx (ks : List Str) (ws : List W) (wb : W) : W := fun δ Q => wDispL ws δ fun ds => wb (blkD (frzD [] δ) []) fun y => wd y fun dy => prim dy ∧ match dy with
  | .str k => (match (ks.zip ds).lookup k with | some d => Q (.val d) | none => False)
  | _ => False
theorem d_dispIx (hk : ks.Nodup) (h15 : ks.length ≤ 15) (hl : ks.length = ws.length) (h0 : keys ≠ []) (hP : PPs X dpos keys values ((ks.zip ws).map fun kw => (tC (.str kw.1), lift T kw.2))) (hb : PE X b (lift T wb)) (hu : X.A.units + 1 < cLine)
    (hall : keys.all (·.isSome) = true := by rfl) (hlen : keys.length = values.length := by rfl) (hk15 : keys.length ≤ 15 := by decide) (hs : NoSl b := by intro _ _; rfl) : PE X (.Subscript (.Dict keys values dpos) b pos) (lift T (wDispIx ks ws wb)) := by
  refine PE.weak (pe_dget hu (pe_disp hP hall hlen h0 hk15) hb hs) fun σ H Q ⟨e, F, δ, Qd, S, w, k⟩ => ?_
  intro p hp
  have h0p := S.h0none hp
  have apart := S.apart hp
  have hFp := S.fnone hp
  have nb : ∀ (i : Nat), δ[i]? = some (some .bag) → σ[i]? ≠ some (some (.ref p)) := fun i hi => apart i .bag hi rfl
  have nS : ¬ e.Sf p := fun z => by obtain ⟨o, ho⟩ := S.self p z; rw [hp] at ho; cases ho
  refine disp_run ks ws hl (S.laid (o := .dK []) hp) upd_same nb _ _ w fun H2 vs ds S2 hp2 hlv il q2 => ⟨hp2, (ks.zip vs).map keyS, zip_keyS ks vs, by rw [List.length_map, List.length_zip]; omega, ?_⟩
  have hm : mergeK [] ((ks.zip vs).map keyS) = (ks.zip vs).map keyS := by
    rw [merge_nodup _ [] ?_, List.nil_append]
    have e1 : List.map (fun x : L2.Key × V => x.1) ([] ++ (ks.zip vs).map keyS) = ks.map (Sum.inr : Str → L2.Key) := by
      rw [List.nil_append, List.map_map]
      have : ((fun x : L2.Key × V => x.1) ∘ keyS) = fun kv : Str × V => (Sum.inr kv.1 : L2.Key) := rfl
      rw [this]
      have e2 : (ks.zip vs).map (fun kv : Str × V => (Sum.inr kv.1 : L2.Key)) = ((ks.zip vs).map Prod.fst).map Sum.inr := by rw [List.map_map]; rfl
      rw [e2, List.map_fst_zip (by omega)]
    rw [e1]
    exact hk.map _ (fun a b h => fun z => h (by injection z))
  rw [hm]
  have S3 := S2.poke (p := p) (o := .dK ((ks.zip vs).map keyS)) hp2 (fun _ z => by cases z) (fun _ z => by cases z) h0p hFp apart nS
  refine beside (te := lift T wb) S3 upd_same nb q2 fun y H4 dy S4 hp4 iy q4 => ?_
  split at q4
  · rename_i z
    cases (iy H4).strE
    split at q4
    · rename_i d hd
      obtain ⟨v, hv, iv⟩ := valV_zip (T := T) ks vs ds F (il F) hd
      refine ⟨p, v, rfl, ?_, k v H4 F (.val d) S4 (Le.refl F) iv q4⟩
      rw [← hv]
      exact DGet.k (k := Sum.inr z) hp4
    · exact q4.elim
  · exact q4.elim
end
end DD
/-! ### a function that gives a list of an own list and a value, taken apart by its caller -/
namespace DD
open PySem L2
section
variable {X : Cx} {T : Tb} {pos p p1 : Pos} {a b : Expr} {es : List Expr} {wb : W} {ws : WA}
/-- [x, e], x an own list -/
def wPr (i : Nat) (wb : W) : W := fun δ Q => match δ[i]? with
  | some (some (.own ds)) => wb δ fun y => wd y fun d => Q (.pr ds d)
  | _ => False
theorem d_pr (i : Nat) {x : Str} (hb : PE X b (lift T wb)) (hN : X.N[i]? = some x := by rfl) (hv : Vis X.env.scope x := by first | exact Or.inl rfl | exact Or.inr (Or.inl rfl) | exact Or.inr (Or.inr rfl)) (hd : (x == ("__debug__" : Str)) = false := by decide)
    (hcd : (x == ("__classdict__" : Str)) = false := by decide) (h1 : starEach [.Name x p1, b] X.env = (false, eval (.Name x p1) X.env) :: starEach [b] X.env := by rfl) (h2 : starEach [b] X.env = (false, eval b X.env) :: starEach [] X.env := by rfl) :
    PE X (.List [.Name x p1, b] pos) (lift T (wPr i wb)) := by
  refine PE.weak (pe_lst (pa_cons (pe_var hN hv hd hcd) (pa_cons hb pa_nil h2) h1)) fun σ H Q ⟨e, F, δ, Qd, S, w, k⟩ => ?_
  unfold wPr at w
  split at w
  · rename_i ds hi
    obtain ⟨q, vs, e1, g1, g2, g3, g4⟩ := S.own hi
    refine ⟨_, e1, ?_⟩
    refine use (te := lift T wb) S w fun y H1 F1 d S1 l1 i1 w1 => ⟨by show 2 ≤ sizeLine; decide, fun r hr => ?_⟩
    obtain ⟨q', us, e2, k1, k2, k3, k4⟩ := S1.own hi
    rw [e1] at e2; cases e2
    have ne : r ≠ q := (ne_of_none k1 hr).symm
    refine k (.ref r) _ F1 (.pr ds d) (S1.laid hr) l1 ⟨⟨r, q, us, y, rfl, upd_same, by rw [upd_ne ne.symm]; exact k1, S1.fnone hr, k2, ne, k3, i1⟩, fun p0 q0 w0 z1 z2 => ?_⟩ w1
    cases z1
    rw [upd_same] at z2
    cases z2
    exact ⟨S1.h0none hr, g4⟩
  · exact w.elim
end
abbrev FP := List SV → (List D → D → Prop) → Prop
def liftSpP (T : Tb) (f : FP) : Sp := fun vs H Q _ => ∃ F svs Qd, LeT T F H ∧ RelA T F H vs svs ∧ cntBag svs ≤ 1 ∧ f svs Qd ∧ ∀ v H' F' ds d, Grow T (bagsOf vs svs) F H F' H' → RelP T F' H' v ds d → (∀ p q w, v = .ref p → H' p = some (.lst [.ref q, w]) → H p = none ∧ H q = none) → Qd ds d → Q v H'
def endP (Qd : List D → D → Prop) : DE := ⟨fun _ => False, fun sv => match sv with
  | .pr ds d => Qd ds d
  | _ => False, fun _ => False, fun _ => False⟩
section
variable {T : Tb}
theorem fn_P {P : Program} {w : World} {K : PySem.W.Frag} {mg : Str → Option Value} {base : Heap} {x qual : Str} {st : Stmt} {f : Addr} {fd : FuncData} {N ps : List Str} {k : Nat} {sp : FP} {wb : WS} {dvs : List V} (F : FunX K x qual st dvs f fd) (S : FnScope N ps (defScope st))
    (hb : ∀ (cdv : Value) (A : Around) (outer : List Env) (s : Shared) (H : Hp) (E : XK), RoomG k (A.deeper (PyProof.Rows.envOfC qual (defScope st) s.heap.objs.size f cdv)) → PSs (cxOf CX0 P w K mg base N qual (defScope st) f cdv A outer s H E).nox (defBody st) (liftS T wb))
    (hw : ∀ svs Qd, sp svs Qd → svs.length = ps.length ∧ wb (endP Qd) (startD N.length svs)) : FnG P w K mg base CX0 (k + 1) f fd ps (liftSpP T sp) := by
  refine fnG_of F S (fun vs H Q E ⟨F0, svs, Qd, h1, h2, h3, h4, _⟩ => h2.len.trans (hw svs Qd h4).1) fun cdv A outer s H vs Q E hr ⟨F0, svs, Qd, h1, h2, h3, h4, h5⟩ => ⟨_, (hb cdv A outer s H E hr).nox, ?_⟩
  have S0 := sim_start (N := N) h1 h2 h3
  refine ⟨_, F0, _, endP Qd, S0, (hw svs Qd h4).2, fun σ' H' F' δ' S' l' q' => q'.elim, fun v σ' H' F' δ' sv S' l' r' q' => ?_, fun σ' H' F' δ' S' l' q' => q'.elim, fun σ' H' F' δ' S' l' q' => q'.elim⟩
  cases sv with
  | exc _ _ => exact q'.elim
  | pr ds d => exact h5 v H' F' ds d ⟨S'.base, S'.sub, S'.new, fun b o q n nt => S'.keep b o q n nt, S'.bags, S'.tabs.1⟩ r'.1 (fun p q w z1 z2 => r'.2 p q w z1 z2) q'
  | own ds => exact q'.elim
  | val d => exact q'.elim
  | bag => exact q'.elim
  | slf _ _ => exact q'.elim
end
section
variable (P : Program) (w : World) (K : PySem.W.Frag) (mg : Str → Option Value) (base : Heap) (T : Tb) (k : Nat)
structure CalP (x : Str) (sp : FP) : Prop where
  ex : ∃ (g : Addr) (fd : FuncData) (ps : List Str), FnG P w K mg base CX0 k g fd ps (liftSpP T sp) ∧ mg x = some (.ref g) ∧ PySem.W.keepIn K (.ref g) = true ∧ Binds K fd ps []
end
section
variable {X : Cx} {T : Tb} {pos p p1 p2 pt : Pos} {a b : Expr} {es : List Expr} {wb : W} {ws : WA} {k : Nat} {x : Str} {sp : FP}
/-- u, v = f(e, ..) -/
def wAsgP (i j : Nat) (f : FP) (ws : WA) : WS := fun D δ => ws δ fun svs => cntBag svs ≤ 1 ∧ f svs fun ds d => D.nx ((δ.set i (some (.own ds))).set j (some (.val d)))
theorem s_asgP (i j : Nat) {u v : Str} {kt : Nat} {cpos : Pos} (C : CalP X.prog X.w X.K X.mg X.base T k x sp) (hr : RoomG k X.A) (hN : X.N.Nodup) (ha : PA X (a :: es) (liftA T ws)) (hc : X.calm = true := by rfl) (hi : X.N[i]? = some u := by rfl) (hj : X.N[j]? = some v := by rfl)
    (hlu : Loc X.env.scope u := by first | exact Or.inl rfl | exact Or.inr rfl) (hlv : Loc X.env.scope v := by first | exact Or.inl rfl | exact Or.inr rfl)
    (hfu : X.fn u = true ∨ X.env.scope.names.lookup u = some .local := by first | exact .inl rfl | exact .inr rfl) (hfv : X.fn v = true ∨ X.env.scope.names.lookup v = some .local := by first | exact .inl rfl | exact .inr rfl)
    (hg : Gl X x := by rfl) (hdb : (x == ("__debug__" : Str)) = false := by decide)
    (he : starEach (a :: es) X.env = (false, eval a X.env) :: starEach es X.env := by rfl) (hpl : (backTo cpos (starEach es X.env)).any (·.1) = false := by rfl)
    (hs : swapsWithSole [.Tuple [.Name u p1, .Name v p2] kt pt] (.Call (.Name x p) (a :: es) [] cpos) pos.line X.env = pure false := by rfl) (hw : swappedStores [.Tuple [.Name u p1, .Name v p2] kt pt] (.Call (.Name x p) (a :: es) [] cpos) X.env = pure none := by rfl)
    (h1 : (assignEach [.Tuple [.Name u p1, .Name v p2] kt pt] X.env).map (·.2) = [assign (.Tuple [.Name u p1, .Name v p2] kt pt) X.env] := by rfl)
    (hn : (assignEach [.Name u p1, .Name v p2] X.env).length = 2 := by rfl) (hst : (assignEach [.Name u p1, .Name v p2] X.env).findIdx? (·.1) = none := by rfl)
    (h2 : (assignEach [.Name u p1, .Name v p2] X.env).map (·.2) = assign (.Name u p1) X.env :: (assignEach [.Name v p2] X.env).map (·.2) := by rfl) (h3 : (assignEach [.Name v p2] X.env).map (·.2) = assign (.Name v p2) X.env :: (assignEach [] X.env).map (·.2) := by rfl) :
    PS X (.Assign [.Tuple [.Name u p1, .Name v p2] kt pt] (.Call (.Name x p) (a :: es) [] cpos) pos) (liftS T (wAsgP i j sp ws)) := by
  obtain ⟨g, fd, ps, G, hm, hk, hb⟩ := C.ex
  have hco : CallR X (.ref g) (fun vs H Q => liftSpP T sp vs H Q fun _ _ _ => False) := by
    have := callG (E := fun _ _ _ => False) (dvs := []) (ds := []) G hr hb .nil pass0
    intro pins s σ H xs us Q I rv h
    refine this pins s σ H xs us Q I rv ?_
    show liftSpP T sp (xs ++ []) H Q _
    rw [List.append_nil]; exact h
  refine PS.weak (ps_asg (pe_callR hco hm hk ha hg hdb he hpl) (pg_lst hc (pgs_cons (pg_name hN hi hlu hfu) (pgs_cons (pg_name hN hj hlv hfv) pgs_nil h3) h2) hn hst) hs hw h1) fun D σ H ⟨e, F, δ, Dd, S, w, k1, k2, k3, k4⟩ => ?_
  refine ⟨e, F, δ, _, S, w, fun vs H1 F1 svs S1 l1 r1 ⟨hc0, q1⟩ => ?_⟩
  refine ⟨F1, svs, _, S1.subT, ResA.relA S1 r1, hc0, q1, fun v H2 F2 ds d gr rp fresh q2 => ?_⟩
  obtain ⟨p0, q0, us, y, rfl, g1, g2, g3, g4, ne, i1, i2⟩ := rp
  obtain ⟨f1, f2⟩ := fresh p0 q0 y rfl g1
  have S2 : Sim T e F2 δ σ H2 := S1.grow (bagsOf vs svs) (fun b ⟨j, z1, z2⟩ => r1.bag z1 z2) gr.le gr.sub gr.new gr.keep gr.bags gr.tabs
  have S3 : Sim T e F2 (δ.set i (some (.own ds))) (σ.set i (some (.ref q0))) H2 := S2.set (sv := .own ds) ⟨⟨q0, us, rfl, g2, g4, i1⟩, fun b hb => by cases hb; exact S1.h0none f2, S1.apart f2⟩ (.inr ⟨ds, rfl⟩)
  have S4 := S3.setD (i := j) (v := y) (d := d) i2
  exact ⟨p0, [.ref q0, y], rfl, SqL.of g1, rfl, .ref q0, [y], rfl, y, [], rfl, rfl, k1 _ H2 F2 _ S4 (l1.trans gr.le) q2⟩
end
end DD
/-! ### not x, x of a class with __len__ -/
namespace DD
open PySem L2 PySem.W PySem.Calls PyProof PyProof.Rows Builtin
section
variable {prog : Program} {w : World} {A : Around} {E : Value → Shared → Prop} {s : Shared} {K : PySem.W.Frag} {x C L f : Addr} {h₀ : Heap} {m : Str → Option Value} {ox : Obj} {od : Option Obj}
def NzBack (Q : Bool → Shared → Prop) (v : Value) (s' : Shared) : Prop := match v with
  | .int n _ => Q (n != 0) s'
  | _ => False
theorem truthy_KL {Q : Bool → Shared → Prop} (F : Fr h₀ L s.heap m) (X₀ : K.In h₀) (I : InstAt s.heap x ox C od) (hs : findIn K (.ref C) "__bool__" = some none) (hl : findIn K (.ref C) "__len__" = some (some (.ref f))) (hf : isFn K (.ref f) = true)
    (h : wpAny (model prog w) A.in1 (call (.ref f) [.ref x]) (PySem.W.LenBack (NzBack Q)) E s) : wpAny (model prog w) A (truthy (.ref x)) Q E s := by
  have X := X₀.keeps F.keep
  have key : wpAny (model prog w) A (runValue (.builtin "len" ⟨[.ref x], []⟩)) (NzBack Q) E s := by
    refine wpAny_runValue (codeAny_builtin entry_len ?_)
    rw [Around.under_plainId plain_len _]
    unfold Builtin.«len»
    refine wpAny_bind (m := oneArg "len" _) (wpAny_pure ?_)
    refine wpAny_bind (m := callSpecial? (.ref x) (Str.ofString "__len__")) (special_fn X I hl (beq_iff_eq.mp hf) (wpAny_mono h (fun r s' hr => ?_) fun _ _ y => y))
    cases r <;> first | exact hr.elim | skip
    rename_i n u
    obtain ⟨⟨h0, h1⟩, hq⟩ := hr
    refine wpAny_bind (wpAny_holding (wpAny_pure ?_))
    refine wpAny_bind (wpAny_letGo ?_)
    show wpAny _ _ (if n < 0 then _ else _) _ _ _
    rw [if_neg (by omega)]
    show wpAny _ _ (if n ≥ 2 ^ 63 then _ else _) _ _ _
    rw [if_neg (by omega)]
    exact wpAny_bind (wpAny_mkInt (wpAny_pure hq))
  unfold truthy
  refine wpAny_bind (m := callSpecial? (.ref x) (Str.ofString "__bool__")) (wpAny_bind (wpAny_bind (I.type.here ((looks_findIn X hs).here (wpAny_pure ?_)))))
  refine wpAny_bind (wpAny_bind (I.type.here ((looks_findIn X hl).here ?_)))
  show wpAny _ _ (if (some (Value.ref f)).isNone = true then _ else _) _ _ _
  rw [if_neg (by simp)]
  exact (wpAny_bind (wpAny_mono key (fun r s' hq => by cases r <;> first | exact hq.elim | exact wpAny_pure hq) fun _ _ e => e))
end
structure TruLen (K : PySem.W.Frag) (C : Addr) : Prop where
  b : PySem.W.findIn K (.ref C) "__bool__" = some none
section
variable {X : Cx} {T : Tb} {k c : Nat} {sp : FS}
/-- not, by the length -/
def notS (sp : FS) : FS := fun svs Q => sp svs fun d => match d with
  | .int n => (0 ≤ n ∧ n < 2 ^ 63) ∧ Q (.bl (n == 0))
  | _ => False
theorem un_notL (h : TruLen X.K (T.ca c)) (M : MF X T k c "__len__" sp) (hr : RoomG (k + 1) X.A) : UnR X (unaryOp .Not) (fun x H Q => rMF T (notS sp) (okIns c) [x] H Q) := by
  obtain ⟨g, hS, run⟩ := M.go
  intro pins s σ H x u Q I rx ⟨F, ds, Qd, S, i, ho, h2, hq⟩
  obtain ⟨es, rfl⟩ := okIns_ex ho
  obtain ⟨x', e1, ix⟩ := i.oneE
  cases e1
  obtain ⟨a, ox, od, rfl, rfl, J, hpl⟩ := own_at I S ix rx
  obtain ⟨mm, hF⟩ := I.fr
  have sb : SubG X k X.A.in1 := ⟨⟨hr.rm.in1, hr.gd⟩, rfl⟩
  unfold unaryOp
  refine wpAny_holding ?_
  refine wpAny_bind (truthy_KL hF I.ok.mod.kin J h.b hS.hs hS.hf ?_)
  refine wpAny_mono (run (Q := fun v H' => ∃ n, v = .int n ∧ (0 ≤ n ∧ n < 2 ^ 63) ∧ Q (.bl (n == 0)) H') sb I S i (Paired.cons rx .nil) h2 fun v H' F' d gr i' q => ?_) (fun w s' ⟨v, H', I', r, n, e1, q1, q2⟩ => ?_) fun _ _ z => z
  · cases d <;> first | exact q.elim | skip
    cases i'.intE
    exact ⟨_, rfl, q.1, hq _ H' F' _ gr Is.bl q.2⟩
  · subst e1
    obtain ⟨t, rfl⟩ := r
    refine ⟨q1, ?_⟩
    show wpAny _ _ _ _ _ _
    refine wpAny_pure ⟨.bl (n == 0), H', I'.tok _, ?_, q2⟩
    show Value.bool _ = Value.bool _
    congr 1
    cases hn : (n == 0) <;> simp_all
def notLD (c : Nat) (sp : FS) : P1f := fun x Q => match x with
  | .ins c' ds => c' = c ∧ notS sp [.val (.ins c ds)] fun d => Q (.val d)
  | _ => False
theorem p_notL : P1 T (fun x H Q => rMF T (notS sp) (okIns c) [x] H Q) (notLD c sp) := by
  intro e F H δ σ x dx Qd Q S ix h k
  unfold notLD at h
  split at h
  · obtain ⟨rfl, h⟩ := h
    exact rMF_of S (.one T ix) rfl h k
  · exact h.elim
end
end DD
/-! ### in, of data in a list too -/
namespace DD
open PySem L2 PyProof
section
variable {X : Cx} {T : Tb}
def inW (neg : Bool) : P2f := fun x y Q => match y with
  | .lst ds => ((ds.all flatD = true ∧ flatD x = true) ∨ (okD 30 (.lst ds) = true ∧ okD 29 x = true)) ∧ Q (.val (.bl (if neg then !(idxD x ds).isSome else (idxD x ds).isSome)))
  | .tup ds => (ds.all flatD = true ∧ flatD x = true) ∧ Q (.val (.bl (if neg then !(idxD x ds).isSome else (idxD x ds).isSome)))
  | y => inSD neg x y Q
theorem any_eqv {d : D} (hd : okD 29 d = true) : ∀ {ds : List D}, ds.all (okD 29) = true → ((toPs ds).any fun z => PyData.eqv z (toP d)) = (idxD d ds).isSome
  | [], _ => rfl
  | e :: ds, h => by
    rw [List.all_cons, Bool.and_eq_true] at h
    unfold toPs
    rw [List.any_cons, eqD_eqv 29 e d h.1 hd, any_eqv hd h.2]
    show _ = (if eqD e d = true then some 0 else (idxD d ds).map (· + 1)).isSome
    cases eqD e d with
    | true => rfl
    | false => simp
abbrev rInW (K : PySem.W.Frag) (neg : Bool) (rd r : R2) : R2 := fun x y H Q => rIn K neg x y H Q ∨ (rd x y H Q ∨ r x y H Q)
theorem o_inW (hu : X.A.units + 65 < cLine) : OpR X (compareOp .In) (rInW X.K false (rInD X.K) rIn1) := OpR.or op_in_seq (OpR.or (op_inD hu) op_in_str)
theorem o_niW (hu : X.A.units + 65 < cLine) : OpR X (compareOp .NotIn) (rInW X.K true (rNotInD X.K) rNi1) := OpR.or op_notIn_seq (OpR.or (op_notInD hu) op_notin_str)
theorem p_inW' {neg : Bool} {rd r : R2} (hr : P2 T r (inSD neg)) (hd : ∀ {x y : V} {H : Hp} {Q : VK} {d : PyData} {ds : List PyData}, Dp T.K H x d → Dp T.K H y (.list ds) → SeqAt.shaped d = true → SeqAt.shaped (.list ds) = true → Q (.bl (if neg then !(ds.any fun z => PyData.eqv z d) else (ds.any fun z => PyData.eqv z d))) H → rd x y H Q) : P2 T (rInW T.K neg rd r) (inW neg) := by
  intro e F H δ σ x y dx dy Qd Q S ix iy h k
  unfold inW at h
  split at h
  · rename_i ds
    obtain ⟨hf, h⟩ := h
    rcases hf with ⟨hf, hx⟩ | ⟨hf, hx⟩
    · obtain ⟨p, vs, rfl, g1, g2⟩ := iy.lstE
      refine .inl ⟨p, vs, rfl, .inl (SqL.of (S.sub _ _ g1)), (is_flat ix hx).1, flat_all g2 hf, ?_⟩
      rw [idx_any ix hx g2 hf]
      exact kbl S k h
    · have d1 := is_dp S.sub 29 dx x hx ix
      have d2 := is_dp S.sub 30 (.lst ds) y hf iy
      have s1 := shaped_of_ok (by decide) hx
      have s2 := shaped_of_ok (by decide) hf
      unfold toP at d2 s2
      refine .inr (.inl (hd d1 d2 s1 s2 ?_))
      have hf' : ds.all (okD 29) = true := by unfold okD at hf; exact hf
      rw [any_eqv hx hf']
      exact kbl S k h
  · rename_i ds
    obtain ⟨p, vs, rfl, g1, g2⟩ := iy.tupE
    obtain ⟨⟨hf, hx⟩, h⟩ := h
    refine .inl ⟨p, vs, rfl, .inr (sqT_mono S.sub g1), (is_flat ix hx).1, flat_all g2 hf, ?_⟩
    rw [idx_any ix hx g2 hf]
    exact kbl S k h
  · exact .inr (.inr (hr e F H δ σ x y dx dy Qd Q S ix iy h k))
theorem p_inW : P2 T (rInW T.K false (rInD T.K) rIn1) (inW false) := p_inW' p_inS fun a b c d q => ⟨_, _, a, b, c, d, q⟩
theorem p_niW : P2 T (rInW T.K true (rNotInD T.K) rNi1) (inW true) := p_inW' p_niS fun a b c d q => ⟨_, _, a, b, c, d, q⟩
end
end DD
/-! ### own lists looked at by what gives a value in which they do not stand -/
namespace DD
open PySem L2 PyProof
mutual
/-- no list within is one of ls -/
def noL (ls : List (List D)) : D → Prop
  | .lst ds => (∀ l ∈ ls, l ≠ ds) ∧ noLs ls ds
  | .tup ds => noLs ls ds
  | .ins _ ds => noLs ls ds
  | .scr _ => False
  | .dct => True
  | .fn _ => False
  | .non => True
  | .bl _ => True
  | .int _ => True
  | .str _ => True
def noLs (ls : List (List D)) : List D → Prop
  | [] => True
  | d :: ds => noL ls d ∧ noLs ls ds
end
def ownsD : List Nat → DEnv → List (List D)
  | [], _ => []
  | i :: is, δ => match δ[i]? with
    | some (some (.own ds)) => ds :: ownsD is δ
    | _ => ownsD is δ
section
variable {T : Tb} {F F' F1 : Hp}
theorem prim_uniq {v : V} {d e : D} (hp : prim d) (hs : ∀ ns, e ≠ .scr ns) (i : Is T F v d) (j : Is T F v e) : e = d := by
  cases d with
  | non => cases i.nonE; cases e <;> first | rfl | (cases j.blE) | (cases j.intE) | (cases j.strE) | (obtain ⟨_, _, z, _⟩ := j.lstE; cases z) | (obtain ⟨_, _, z, _⟩ := j.tupE; cases z) | (obtain ⟨_, _, _, z, _⟩ := j.insE; cases z) | (unfold Is at j; obtain ⟨_, z, _⟩ := j; cases z) | exact absurd rfl (hs _)
  | bl b => cases i.blE; cases e <;> first | (cases j.nonE) | (cases j.blE; rfl) | (cases j.intE) | (cases j.strE) | (obtain ⟨_, _, z, _⟩ := j.lstE; cases z) | (obtain ⟨_, _, z, _⟩ := j.tupE; cases z) | (obtain ⟨_, _, _, z, _⟩ := j.insE; cases z) | (unfold Is at j; obtain ⟨_, z, _⟩ := j; cases z) | exact absurd rfl (hs _)
  | int b => cases i.intE; cases e <;> first | (cases j.nonE) | (cases j.blE) | (cases j.intE; rfl) | (cases j.strE) | (obtain ⟨_, _, z, _⟩ := j.lstE; cases z) | (obtain ⟨_, _, z, _⟩ := j.tupE; cases z) | (obtain ⟨_, _, _, z, _⟩ := j.insE; cases z) | (unfold Is at j; obtain ⟨_, z, _⟩ := j; cases z) | exact absurd rfl (hs _)
  | str b => cases i.strE; cases e <;> first | (cases j.nonE) | (cases j.blE) | (cases j.intE) | (cases j.strE; rfl) | (obtain ⟨_, _, z, _⟩ := j.lstE; cases z) | (obtain ⟨_, _, z, _⟩ := j.tupE; cases z) | (obtain ⟨_, _, _, z, _⟩ := j.insE; cases z) | (unfold Is at j; obtain ⟨_, z, _⟩ := j; cases z) | exact absurd rfl (hs _)
  | _ => exact hp.elim
theorem prims_uniq {ls : List (List D)} : ∀ {l es : List D} {vs : List V}, (∀ d ∈ l, prim d) → noLs ls es → IsL T F vs l → IsL T F vs es → es = l
  | [], [], vs, _, _, _, _ => rfl
  | [], e :: es, vs, _, _, i, j => by
    rw [i.nilE] at j; unfold IsL at j; obtain ⟨_, _, z, _⟩ := j; cases z
  | d :: l, [], vs, _, _, i, j => by
    rw [j.nilE] at i; unfold IsL at i; obtain ⟨_, _, z, _⟩ := i; cases z
  | d :: l, e :: es, vs, hp, hn, i, j => by
    unfold IsL at i j
    obtain ⟨v, r, rfl, i1, i2⟩ := i
    obtain ⟨v', r', z, j1, j2⟩ := j
    cases z
    unfold noLs at hn
    have h1 := prim_uniq (hp d List.mem_cons_self) (fun ns z => by subst z; unfold noL at hn; exact hn.1) i1 j1
    rw [h1, prims_uniq (fun x hx => hp x (List.mem_cons_of_mem _ hx)) hn.2 i2 j2]
open Classical in
noncomputable def hideP (P : Addr → Prop) (F : Hp) : Hp := fun a => if P a then none else F a
theorem hide_eq {P : Addr → Prop} {a : Addr} (h : ¬ P a) : hideP P F a = F a := by unfold hideP; rw [if_neg h]
theorem hide_some {P : Addr → Prop} {a : Addr} {o : HO} (h : hideP P F a = some o) : ¬ P a ∧ F a = some o := by
  unfold hideP at h
  split at h
  · cases h
  · rename_i hn; exact ⟨hn, h⟩
mutual
theorem Is.hide {P : Addr → Prop} {ls : List (List D)} (hP : ∀ p, P p → ∃ vs l, F p = some (.lst vs) ∧ l ∈ ls ∧ IsL T F vs l ∧ ∀ d ∈ l, prim d) : ∀ {v : V} (d : D), noL ls d → Is T F v d → Is T (hideP P F) v d
  | v, .non, _, i => by cases i.nonE; exact Is.non
  | v, .bl b, _, i => by cases i.blE; exact Is.bl
  | v, .int b, _, i => by cases i.intE; exact Is.int
  | v, .str b, _, i => by cases i.strE; exact Is.str
  | v, .lst ds, hn, i => by
    obtain ⟨a, vs, rfl, h1, h2⟩ := i.lstE
    unfold noL at hn
    have na : ¬ P a := fun hp => by
      obtain ⟨us, l, g1, g2, g3, g4⟩ := hP a hp
      rw [h1] at g1; cases g1
      exact hn.1 l g2 (prims_uniq g4 hn.2 g3 h2).symm
    unfold Is
    exact ⟨a, vs, rfl, by rw [hide_eq na]; exact h1, IsL.hide hP ds hn.2 h2⟩
  | v, .tup ds, hn, i => by
    obtain ⟨a, vs, rfl, h1, h2⟩ := i.tupE
    unfold noL at hn
    unfold Is
    refine ⟨a, vs, rfl, ?_, IsL.hide hP ds hn h2⟩
    rcases h1 with (h1 | ⟨o, h1⟩) | h1
    · refine .inl (.inl ?_)
      rw [hide_eq]; exact h1
      intro hp
      obtain ⟨us, l, g1, _⟩ := hP a hp
      rw [h1] at g1; cases g1
    · refine .inl (.inr ⟨o, ?_⟩)
      rw [hide_eq]; exact h1
      intro hp
      obtain ⟨us, l, g1, _⟩ := hP a hp
      rw [h1] at g1; cases g1
    · exact .inr h1
  | v, .ins c ds, hn, i => by
    obtain ⟨a, dx, vs, rfl, h1, hl, h2⟩ := i.insE
    unfold noL at hn
    have na : ¬ P a := fun hp => by
      obtain ⟨us, l, g1, _⟩ := hP a hp
      rw [h1] at g1; cases g1
    unfold Is
    exact ⟨a, dx, vs, rfl, by rw [hide_eq na]; exact h1, hl, IsL.hide hP ds hn h2⟩
  | v, .scr ns, hn, i => by unfold noL at hn; exact hn.elim
  | v, .fn ns, hn, i => by unfold noL at hn; exact hn.elim
  | v, .dct, hn, i => by
    unfold Is at i ⊢
    obtain ⟨a, rfl, h1⟩ := i
    have na : ¬ P a := fun hp => by
      obtain ⟨us, l, g1, _⟩ := hP a hp
      rw [h1] at g1; cases g1
    exact ⟨a, rfl, by rw [hide_eq na]; exact h1⟩
theorem IsL.hide {P : Addr → Prop} {ls : List (List D)} (hP : ∀ p, P p → ∃ vs l, F p = some (.lst vs) ∧ l ∈ ls ∧ IsL T F vs l ∧ ∀ d ∈ l, prim d) : ∀ {vs : List V} (ds : List D), noLs ls ds → IsL T F vs ds → IsL T (hideP P F) vs ds
  | vs, [], _, i => by rw [i.nilE]; exact IsL.nil T
  | vs, d :: ds, hn, i => by
    unfold IsL at i
    obtain ⟨v, r, rfl, h1, h2⟩ := i
    unfold noLs at hn
    exact IsL.cons T (Is.hide hP d hn.1 h1) (IsL.hide hP ds hn.2 h2)
end
end
section
variable {T : Tb} {e : En} {F F' F1 H H' : Hp} {δ : DEnv} {σ : L2.St}
theorem owns_frz1 {i : Nat} : ∀ {is : List Nat} {l : List D}, l ∈ ownsD is (frz1 δ i) → l ∈ ownsD is δ
  | [], l, h => h
  | j :: is, l, h => by
    have hj : ∀ {ds : List D}, (frz1 δ i)[j]? = some (some (.own ds)) → δ[j]? = some (some (.own ds)) := fun {ds} h => by
      unfold frz1 at h
      split at h
      · rename_i es hi
        by_cases hij : i = j
        · subst hij
          rw [List.getElem?_set_self (List.getElem?_eq_some_iff.mp hi).1] at h; cases h
        · rw [List.getElem?_set_ne hij] at h; exact h
      · exact h
    unfold ownsD at h ⊢
    split at h
    · rename_i ds hd
      rw [hj hd]
      rcases List.mem_cons.mp h with z | z
      · rw [z]; exact List.mem_cons_self
      · exact List.mem_cons_of_mem _ (owns_frz1 z)
    · have := owns_frz1 h
      split
      · exact List.mem_cons_of_mem _ this
      · exact this
/-- what becomes known -/
theorem Sim.frz1I (S : Sim T e F δ σ H) (i : Nat) : ∃ F', Le F F' ∧ Sim T e F' (DD.frz1 δ i) σ H ∧ ∀ b o, F' b = some o → F b = some o ∨ ∃ ds vs, δ[i]? = some (some (.own ds)) ∧ o = .lst vs ∧ IsL T F vs ds := by
  cases hd : δ[i]? with
  | none => exact ⟨F, Le.refl F, by have : DD.frz1 δ i = δ := by unfold DD.frz1; rw [hd]
                                    rw [this]; exact S, fun b o h => .inl h⟩
  | some x =>
    by_cases ho : ∃ ds, x = some (.own ds)
    · obtain ⟨ds, rfl⟩ := ho
      obtain ⟨p, vs, h1, h2, h3, h4, h5⟩ := S.own hd
      have hil := (List.getElem?_eq_some_iff.mp hd).1
      have S1 : Sim T e F (δ.set i none) σ H := S.forget (by rw [List.length_set]; exact S.len) fun j sv h => by
        by_cases hj : i = j
        · subst hj; rw [List.getElem?_set_self hil] at h; cases h
        · rw [List.getElem?_set_ne hj] at h; exact ⟨h, rfl⟩
      have S2 : Sim T e (upd F p (.lst vs)) (δ.set i none) σ H := S1.frz h2 h5 h3 fun j sj hj hv z => by
        by_cases hij : i = j
        · subst hij; rw [List.getElem?_set_self hil] at hj; cases hj
        · rw [List.getElem?_set_ne hij] at hj
          exact hij (S.sep i j _ _ _ hd hj rfl hv h1 z)
      have S3 := S2.setD (i := i) (v := .ref p) (d := .lst ds) (by unfold Is; exact ⟨p, vs, rfl, upd_same, IsL.mono T (le_upd h3) ds h4⟩)
      have e1 : (δ.set i none).set i (some (.val (.lst ds))) = δ.set i (some (.val (.lst ds))) := by rw [List.set_set]
      have e2 : σ.set i (some (.ref p)) = σ := by
        refine List.ext_getElem? fun j => ?_
        by_cases hj : i = j
        · subst hj
          rw [List.getElem?_set_self (by have := S.len; omega), h1]
        · rw [List.getElem?_set_ne hj]
      rw [e1, e2] at S3
      refine ⟨upd F p (.lst vs), le_upd h3, ?_, fun b o h => ?_⟩
      · have : DD.frz1 δ i = δ.set i (some (.val (.lst ds))) := by unfold DD.frz1; rw [hd]
        rw [this]; exact S3
      · by_cases hb : b = p
        · subst hb
          rw [upd_same] at h; cases h
          exact .inr ⟨ds, vs, rfl, rfl, h4⟩
        · rw [upd_ne hb] at h; exact .inl h
    · exact ⟨F, Le.refl F, by
        have : DD.frz1 δ i = δ := by
          unfold DD.frz1; rw [hd]
          split
          · rename_i ds hx; exact absurd ⟨ds, by injection hx⟩ ho
          · rfl
        rw [this]; exact S, fun b o h => .inl h⟩
theorem Sim.frzDI : ∀ (is : List Nat) {F : Hp} {δ : DEnv}, Sim T e F δ σ H → ∃ F', Le F F' ∧ Sim T e F' (DD.frzD is δ) σ H ∧ ∀ b o, F' b = some o → F b = some o ∨ ∃ ds vs, ds ∈ ownsD is δ ∧ o = .lst vs ∧ IsL T F' vs ds
  | [], F, δ, S => ⟨F, Le.refl F, S, fun b o h => .inl h⟩
  | i :: is, F, δ, S => by
    obtain ⟨F1, l1, S1, n1⟩ := S.frz1I i
    obtain ⟨F2, l2, S2, n2⟩ := Sim.frzDI is S1
    refine ⟨F2, l1.trans l2, S2, fun b o h => ?_⟩
    rcases n2 b o h with z | ⟨ds, vs, z1, z2, z3⟩
    · rcases n1 b o z with y | ⟨ds, vs, y1, y2, y3⟩
      · exact .inl y
      · exact .inr ⟨ds, vs, by unfold ownsD; rw [y1]; exact List.mem_cons_self, y2, IsL.mono T (l1.trans l2) ds y3⟩
    · refine .inr ⟨ds, vs, ?_, z2, z3⟩
      have := owns_frz1 z1
      unfold ownsD
      split
      · exact List.mem_cons_of_mem _ this
      · exact this
def wLook2 (is : List Nat) (w : W) : W := fun δ Q => w (blkD (frzD is δ) []) fun x => wd x fun d => ((∀ l ∈ ownsD is δ, ∀ z ∈ l, prim z) ∧ noL (ownsD is δ) d) ∧ Q (.val d)
theorem d_look2 {X : Cx} {a : Expr} {wa : W} (is : List Nat) (ha : PE X a (lift T wa)) : PE X a (lift T (wLook2 is wa)) := PE.weak ha fun σ H Q ⟨e, F, δ, Qd, S, w, k⟩ => by
  obtain ⟨F1, l1, S1, n1⟩ := S.frzDI is
  refine use (te := lift T wa) (S1.blk []) w fun v H' F' d S' l' i' ⟨⟨hp, hn⟩, q'⟩ => ?_
  have kp : ∀ b o, H b = some o → ¬ (∃ i : Nat, δ[i]? = some (some .bag) ∧ σ[i]? = some (some (.ref b))) → ¬ T.tb b → H' b = some o := fun b o h hb ht =>
    S'.keep b o h (fun ⟨i, z1, z2⟩ => hb ⟨i, (frzD_bag is).mp z1, z2⟩) ht
  have hP : ∀ p, (F p = none ∧ F1 p ≠ none) → ∃ vs l, F' p = some (.lst vs) ∧ l ∈ ownsD is δ ∧ IsL T F' vs l ∧ ∀ z ∈ l, prim z := fun p ⟨h1, h2⟩ => by
    cases q : F1 p with
    | none => exact absurd q h2
    | some o =>
      rcases n1 p o q with z | ⟨ds, vs, z1, z2, z3⟩
      · rw [h1] at z; cases z
      · subst z2
        exact ⟨vs, ds, l' p _ q, z1, IsL.mono T l' ds z3, hp ds z1⟩
  have le2 : Le F (hideP (fun p => F p = none ∧ F1 p ≠ none) F') := fun b o h => by
    rw [hide_eq (fun z => by rw [h] at z; cases z.1)]
    exact l' b o (l1 b o h)
  have S2 : Sim T e (hideP (fun p => F p = none ∧ F1 p ≠ none) F') δ σ H' := by
    refine S.grow (fun b => ∃ i : Nat, δ[i]? = some (some .bag) ∧ σ[i]? = some (some (.ref b))) (fun b h => h) le2 (fun b o h => S'.sub b o (hide_some h).2) (fun b o h => ?_) kp (fun b ⟨i, z1, z2⟩ => S'.bags b ⟨i, (frzD_bag is).mpr z1, z2⟩) S'.tabs.1
    obtain ⟨h1, h2⟩ := hide_some h
    rcases S'.new b o h2 with z | z
    · have z : F1 b = some o := z
      cases q : F b with
      | none => exact absurd ⟨q, by rw [z]; intro y; cases y⟩ h1
      | some o' =>
        have := l1 b o' q
        rw [z] at this; cases this
        exact .inl rfl
    · exact .inr z
  exact k v H' _ (.val d) S2 le2 (Is.hide hP d hn i') q'
end
/-- the module's empty tuple -/
theorem is_ctup {T : Tb} {a : Addr} {od : Option Addr} {n : Nat} {sl : Array (Option Value)} (h : T.K.lookup a = some ⟨.type "tuple", od, .seq #[] n, sl⟩) {F : Hp} : Is T F (.ref a) (.tup []) := by
  unfold Is
  exact ⟨a, [], rfl, .inr ⟨_, #[], n, h, rfl, rfl, by decide, .nil⟩, IsL.nil T⟩
theorem room65 {k : Nat} {A : Around} (r : RoomG k A) : A.units + 65 < cLine := by have := r.rm.un; omega
theorem room1 {k : Nat} {A : Around} (r : RoomG k A) : A.units + 1 < cLine := by have := r.rm.un; omega
theorem i_constK {X : Cx} {T : Tb} {tg : Expr} {pos : Pos} {x : Str} {kvs : List (Str × Str)} {ks : List Str} (C : ConstD X.K X.w X.mg x kvs) (hk : kvs.map (·.1) = ks := by rfl) (hg : Gl X x := by rfl) (hdb : (x == ("__debug__" : Str)) = false := by decide) : PI X tg (.Name x pos) (liftI T (wCD ks)) := by
  subst hk
  exact i_const C hg hdb
/-! ### lists that stand there, opened by definition -/
theorem map_c {α β : Type} (f : α → β) (a : α) (l : List α) : List.map f (a :: l) = f a :: List.map f l := rfl
theorem map_n {α β : Type} (f : α → β) : List.map f ([] : List α) = [] := rfl
theorem set_c0 {α : Type} (a b : α) (l : List α) : (a :: l).set 0 b = b :: l := rfl
theorem set_cs {α : Type} (a b : α) (l : List α) (n : Nat) : (a :: l).set (n + 1) b = a :: l.set n b := rfl
theorem get_c0 {α : Type} (a : α) (l : List α) : (a :: l)[0]? = some a := rfl
theorem get_cs {α : Type} (a : α) (l : List α) (n : Nat) : (a :: l)[n + 1]? = l[n]? := rfl
end DD
/-! ### what raises -/
namespace DD
open PySem L2
/-- a wish about exceptions: the class, the attributes -/
abbrev EK := Nat → List D → Prop
def ExcD (T : Tb) (F : Hp) (cls : Value) (d : Option Addr) (c : Nat) (ds : List D) : Prop := cls = .ref (T.ca c) ∧ ∃ dd vs, d = some dd ∧ F dd = some (.xd ((T.fl c).zip vs)) ∧ vs.length = (T.fl c).length ∧ IsL T F vs ds
/-- what a body lets out, from the entry e0 on -/
def ED (T : Tb) (e0 : En) (Ed : EK) : XK := fun cls d H => ∃ F δ σ c ds, Sim T e0 F δ σ H ∧ ExcD T F cls d c ds ∧ Ed c ds
abbrev WD (T : Tb) (e0 : En) (Ed : EK) : WX := fun cls d _ H => ED T e0 Ed cls d H
abbrev FX := List SV → (D → Prop) → EK → Prop
def liftSpX (T : Tb) (f : FX) : Sp := fun vs H Q E => ∃ F svs Qd Ed, LeT T F H ∧ RelA T F H vs svs ∧ cntBag svs ≤ 1 ∧ f svs Qd Ed ∧ (∀ v H' F' d, Grow T (bagsOf vs svs) F H F' H' → Is T F' v d → Qd d → Q v H') ∧
  ∀ cls d H' F' c ds, Grow T (bagsOf vs svs) F H F' H' → ExcD T F' cls d c ds → Ed c ds → E cls d H'
def liftX (T : Tb) (e0 : En) (w : W) : TE := fun σ H Q => ∃ F δ Qd, Sim T e0 F δ σ H ∧ w δ Qd ∧ ∀ v H' F' sv, Sim T e0 F' δ σ H' → Le F F' → Res T e0 F' H' δ σ v sv → Qd sv → Q v H'
def liftSX (T : Tb) (e0 : En) (w : WS) : TS := fun D σ H => ∃ F δ Dd, Sim T e0 F δ σ H ∧ w Dd δ ∧
  (∀ σ' H' F' δ', Sim T e0 F' δ' σ' H' → Le F F' → Dd.nx δ' → D.nx σ' H') ∧
  (∀ v σ' H' F' δ' sv, Sim T e0 F' δ' σ' H' → Le F F' → Res T e0 F' H' δ' σ' v sv → Dd.rt sv → D.rt v H') ∧
  (∀ σ' H' F' δ', Sim T e0 F' δ' σ' H' → Le F F' → Dd.bk δ' → D.bk σ' H') ∧
  (∀ σ' H' F' δ', Sim T e0 F' δ' σ' H' → Le F F' → Dd.ct δ' → D.ct σ' H')
section
variable {X : Cx} {T : Tb} {e0 : En} {Ed : EK} {pos p : Pos} {a b : Expr} {es : List Expr} {st : Stmt} {rest sts : List Stmt} {w wa wb : W} {ws : WA} {t : WT} {s1 s2 : WS} {e : En} {F F' H H' : Hp} {δ : DEnv} {σ : L2.St}
theorem pe_toX (h : PE X a (lift T w)) : PE X a (liftX T e0 w) := PE.weak h fun σ H Q ⟨F, δ, Qd, S, q, k⟩ => ⟨e0, F, δ, Qd, S, q, k⟩
theorem s_toX (h : PS X st (liftS T s1)) : PS X st (liftSX T e0 s1) := PS.weak h fun D σ H ⟨F, δ, Dd, S, q, k⟩ => ⟨e0, F, δ, Dd, S, q, k⟩
theorem ss_toX (h : PSs X sts (liftS T s1)) : PSs X sts (liftSX T e0 s1) := PSs.weak h fun D σ H ⟨F, δ, Dd, S, q, k⟩ => ⟨e0, F, δ, Dd, S, q, k⟩
theorem s_oneX (h : PS X st (liftSX T e0 s1)) : PSs X [st] (liftSX T e0 s1) := PSs.weak (pss_one h) fun _ _ _ h => h
theorem s_nilX : PSs X [] (liftSX T e0 wSkip) := ss_toX s_nil
theorem s_seqX (h1 : PS X st (liftSX T e0 s1)) (h2 : PSs X rest (liftSX T e0 s2)) : PSs X (st :: rest) (liftSX T e0 (wSeq s1 s2)) := by
  refine PSs.weak (pss_cons h1 h2) fun D σ H ⟨F, δ, Dd, S, w, k1, k2, k3, k4⟩ => ?_
  refine ⟨F, δ, { Dd with nx := s2 Dd }, S, w, fun σ' H' F' δ' S' l' q' => ?_, k2, k3, k4⟩
  exact ⟨F', δ', Dd, S', q', fun σ'' H'' F'' δ'' S'' l'' q'' => k1 σ'' H'' F'' δ'' S'' (l'.trans l'') q'', fun v σ'' H'' F'' δ'' sv S'' l'' r'' q'' => k2 v σ'' H'' F'' δ'' sv S'' (l'.trans l'') r'' q'',
    fun σ'' H'' F'' δ'' S'' l'' q'' => k3 σ'' H'' F'' δ'' S'' (l'.trans l'') q'', fun σ'' H'' F'' δ'' S'' l'' q'' => k4 σ'' H'' F'' δ'' S'' (l'.trans l'') q''⟩
theorem useTX {Q : Bool → Hp → Prop} {k : Bool → Prop} (S : Sim T e0 F δ σ H) (h : t δ k) (hk : ∀ b H' F', Sim T e0 F' δ σ H' → Le F F' → k b → Q b H') : liftT T t σ H Q := ⟨e0, F, δ, k, S, h, hk⟩
theorem s_ifX {c : Expr} {tb eb : List Stmt} (hc : PT X c (liftT T t)) (ha : PSs X tb (liftSX T e0 s1)) (hb : PSs X eb (liftSX T e0 s2)) : PS X (.If c tb eb pos) (liftSX T e0 (wIfS t s1 s2)) := by
  refine PS.weak (ps_if hc ha hb) fun D σ H ⟨F, δ, Dd, S, w, k1, k2, k3, k4⟩ => ?_
  refine useTX S w fun c H1 F1 S1 l1 q1 => ?_
  cases c
  all_goals
    exact ⟨F1, δ, Dd, S1, q1, fun σ'' H'' F'' δ'' S'' l'' q'' => k1 σ'' H'' F'' δ'' S'' (l1.trans l'') q'', fun v σ'' H'' F'' δ'' sv S'' l'' r'' q'' => k2 v σ'' H'' F'' δ'' sv S'' (l1.trans l'') r'' q'',
      fun σ'' H'' F'' δ'' S'' l'' q'' => k3 σ'' H'' F'' δ'' S'' (l1.trans l'') q'', fun σ'' H'' F'' δ'' S'' l'' q'' => k4 σ'' H'' F'' δ'' S'' (l1.trans l'') q''⟩
theorem s_retX (ha : PE X a (liftX T e0 wa)) : PS X (.Return (some a) pos) (liftSX T e0 (wRet wa)) := by
  refine PS.weak (ps_ret ha) fun D σ H ⟨F, δ, Dd, S, w, k1, k2, k3, k4⟩ => ?_
  exact ⟨F, δ, Dd.rt, S, w, fun v H' F' sv S' l' r' q' => k2 v σ H' F' δ sv S' l' r' q'⟩
/-! ### calls of what raises -/
def liftCX (T : Tb) (e0 : En) (Ed : EK) (f : FX) : List V → Hp → VK → Prop := fun vs H Q => liftSpX T f vs H Q (ED T e0 Ed)
def wCallX (f : FX) (Ed : EK) (ws : WA) : W := fun δ Q => ws δ fun svs => cntBag svs ≤ 1 ∧ f svs (fun d => Q (.val d)) Ed
theorem lift_CX {f : FX} {Q : VK} (h : liftX T e0 (wCallX f Ed ws) σ H Q) : tCB (liftCX T e0 Ed f) (liftA T ws) σ H Q := by
  obtain ⟨F, δ, Qd, S, w, k⟩ := h
  refine ⟨e0, F, δ, _, S, w, fun vs H1 F1 svs S1 l1 r1 ⟨hc, q1⟩ => ?_⟩
  have back : ∀ F' H', Grow T (bagsOf vs svs) F1 H1 F' H' → Sim T e0 F' δ σ H' := fun F' H' g => S1.grow (bagsOf vs svs) (fun b ⟨j, z1, z2⟩ => r1.bag z1 z2) g.le g.sub g.new g.keep g.bags g.tabs
  exact ⟨F1, svs, _, Ed, S1.subT, ResA.relA S1 r1, hc, q1, fun v H' F' d g i q => k v H' F' (.val d) (back _ _ g) (l1.trans g.le) i q,
    fun cls d H' F' c ds g x q => ⟨F', δ, σ, c, ds, back _ _ g, x, q⟩⟩
theorem d_callX {f : FX} {fv : Addr} {x : Str} (hc : CallR X (.ref fv) (liftCX T e0 Ed f)) (hm : X.mg x = some (.ref fv)) (hk : PySem.W.keepIn X.K (.ref fv) = true) (ha : PA X (a :: es) (liftA T ws)) (hg : Gl X x := by rfl) (hdb : (x == ("__debug__" : Str)) = false := by decide)
    (he : starEach (a :: es) X.env = (false, eval a X.env) :: starEach es X.env := by rfl) (hpl : (backTo pos (starEach es X.env)).any (·.1) = false := by rfl) : PE X (.Call (.Name x p) (a :: es) [] pos) (liftX T e0 (wCallX f Ed ws)) :=
  PE.weak (pe_callR hc hm hk ha hg hdb he hpl) fun σ H Q h => lift_CX h
end
/-! ### a def that raises -/
section
variable {T : Tb} {P : Program} {w : World} {K : PySem.W.Frag} {mg : Str → Option Value} {base : Heap}
theorem takes_body {N : List Str} {qual : Str} {sc : Scope} {f : Addr} {cdv : Value} {A : Around} {outer : List Env} {s : Shared} {H : Hp} {E : XK} : Takes (cxOf (L2.CX P w) P w K mg base N qual sc f cdv A outer s H E) (fun cls d _ H => E cls d H) :=
  takes_of rfl rfl rfl rfl
theorem fn_DX {x qual : Str} {st : Stmt} {f : Addr} {fd : FuncData} {N ps : List Str} {k : Nat} {sp : FX} {wb : EK → WS} {dvs : List V} (F : FunX K x qual st dvs f fd) (S : FnScope N ps (defScope st))
    (hb : ∀ (e0 : En) (Ed : EK) (cdv : Value) (A : Around) (outer : List Env) (s : Shared) (H : Hp) (E : XK), RoomG k (A.deeper (PyProof.Rows.envOfC qual (defScope st) s.heap.objs.size f cdv)) →
      Takes (cxOf (L2.CX P w) P w K mg base N qual (defScope st) f cdv A outer s H E) (WD T e0 Ed) → PSs (cxOf (L2.CX P w) P w K mg base N qual (defScope st) f cdv A outer s H E) (defBody st) (liftSX T e0 (wb Ed)))
    (hw : ∀ svs Qd Ed, sp svs Qd Ed → svs.length = ps.length ∧ wb Ed (endD Qd) (startD N.length svs)) : FnG P w K mg base (L2.CX P w) (k + 1) f fd ps (liftSpX T sp) := by
  refine fnG_of F S (fun vs H Q E ⟨F0, svs, Qd, Ed, h1, h2, h3, h4, _⟩ => h2.len.trans (hw svs Qd Ed h4).1) fun cdv A outer s H vs Q E hr ⟨F0, svs, Qd, Ed, h1, h2, h3, h4, h5, h6⟩ => ?_
  have grow : ∀ F' δ' σ' H', Sim T ⟨F0, H, bagsOf vs svs, T.tb, []⟩ F' δ' σ' H' → Grow T (bagsOf vs svs) F0 H F' H' := fun F' δ' σ' H' S' => ⟨S'.base, S'.sub, S'.new, fun b o q n nt => S'.keep b o q n nt, S'.bags, S'.tabs.1⟩
  have tk : Takes (cxOf (L2.CX P w) P w K mg base N qual (defScope st) f cdv A outer s H E) (WD T ⟨F0, H, bagsOf vs svs, T.tb, []⟩ Ed) := takes_body.imp fun cls d σ H' ⟨F', δ', σ', c, ds, S', x', q'⟩ => h6 cls d H' F' c ds (grow _ _ _ _ S') x' q'
  refine ⟨_, hb _ Ed cdv A outer s H E hr tk, ?_⟩
  have S0 := sim_start (N := N) h1 h2 h3
  refine ⟨F0, _, endD Qd, S0, (hw svs Qd Ed h4).2, fun σ' H' F' δ' S' l' q' => ?_, fun v σ' H' F' δ' sv S' l' r' q' => ?_, fun σ' H' F' δ' S' l' q' => q'.elim, fun σ' H' F' δ' S' l' q' => q'.elim⟩
  · exact h5 .non H' F' .non (grow _ _ _ _ S') Is.non q'
  · obtain ⟨F2, d, l2, S2, i2, q2⟩ := r'.wd S' q'
    exact h5 v H' F2 d (grow _ _ _ _ S2) i2 q2
end
/-- a def of the module that may raise, as the printer uses it -/
structure CalX (P : Program) (w : World) (K : PySem.W.Frag) (mg : Str → Option Value) (base : Heap) (T : Tb) (k : Nat) (x : Str) (sp : FX) : Prop where
  go : ∃ (f : Addr) (fd : FuncData) (ps : List Str), FnG P w K mg base (L2.CX P w) k f fd ps (liftSpX T sp) ∧ mg x = some (.ref f) ∧ PySem.W.keepIn K (.ref f) = true ∧ Binds K fd ps []
section
variable {X : Cx} {T : Tb} {e0 : En} {Ed : EK} {pos p : Pos} {a : Expr} {es : List Expr} {ws : WA} {k j : Nat} {x : Str} {sp : FX}
theorem d_cX (c : CalX X.prog X.w X.K X.mg X.base T k x sp) (hr : RoomG k X.A) (tk : Takes X (WD T e0 Ed)) (ha : PA X (a :: es) (liftA T ws)) (hg : Gl X x := by rfl) (hdb : (x == ("__debug__" : Str)) = false := by decide)
    (he : starEach (a :: es) X.env = (false, eval a X.env) :: starEach es X.env := by rfl) (hpl : (backTo pos (starEach es X.env)).any (·.1) = false := by rfl) : PE X (.Call (.Name x p) (a :: es) [] pos) (liftX T e0 (wCallX sp Ed ws)) := by
  obtain ⟨f, fd, ps, G, hm, hk, hb⟩ := c.go
  have hc := callG G hr hb .nil (passes_call tk fun _ _ _ _ h => h)
  simp only [List.append_nil] at hc
  exact d_callX hc hm hk ha hg hdb he hpl
theorem s_exprX {wa : W} (ha : PE X a (liftX T e0 wa)) (hs : swapsWith a none pos.line X.env = pure false := by rfl) : PS X (.Expr a pos) (liftSX T e0 (wExpr wa)) := by
  refine PS.weak (ps_expr ha hs) fun D σ H ⟨F, δ, Dd, S, w, k1, k2, k3, k4⟩ => ?_
  exact ⟨F, δ, _, S, w, fun v H' F' sv S' l' r' q' => k1 σ H' F' δ S' l' q'⟩
end
/-! ### raise, of a class with one attribute -/
def spE (K : PySem.W.Frag) (m : Str) : Sp := fun vs H Q _ => ∃ (a C : Addr) (y : V), vs = [.ref a, y] ∧ OexC K C ∧ PySem.W.findIn K (.ref C) m = some none ∧ H a = some (exo a C none) ∧ ∀ dx, H dx = none → dx ≠ a → Q .non (upd (upd H dx (exd dx [(m, y)])) a (exo a C (some dx)))
section
variable {P : Program} {w : World} {K : PySem.W.Frag} {mg : Str → Option Value} {base : Heap}
theorem fn_err {qual : Str} {st : Stmt} {f : Addr} {fd : FuncData} {m : Str} {p1 p2 p3 p4 : Pos} (F : FunX K "__init__" qual st [] f fd) (S : FnScope ["self", m] ["self", m] (defScope st)) (hbd : defBody st = [.Assign [.Attribute (.Name "self" p1) m p2] (.Name m p3) p4])
    (v0 : (defScope st).names.lookup ("self" : Str) = some .local) (v1 : (defScope st).names.lookup m = some .local) (hm1 : (m == ("__debug__" : Str)) = false := by decide) (hm2 : (m == ("__classdict__" : Str)) = false := by decide)
    (hs : ∀ env, swapsWith (.Name m p3) (some (.Attribute (.Name "self" p1) m p2)) p4.line env = pure false := by intro _; rfl) : FnOk P w K mg base CX0 1 f fd ["self", m] (spE K m) := by
  obtain ⟨oc, od, dV, kV, doc, pm, an, cdv, ct, osl, rfl, lk, hcd, _⟩ := F.ex
  refine fn_of lk hcd S (fun vs H Q E ⟨a, C, y, h, _⟩ => by rw [h]; rfl) fun A outer s H vs Q E hr ⟨a, C, y, h, hC, hno, ha, hq⟩ => ⟨tOst K m (tVar 0) (tVar 1), ?_, ?_⟩
  · rw [hbd]
    exact pss_one (ps_ost (pe_var (i := 0) rfl (.inl v0)) (pe_var (i := 1) rfl (.inl v1) hm1 hm2) (hs _))
  · subst h
    exact ⟨y, rfl, .ref a, rfl, a, C, rfl, hC, hno, .inl ⟨ha, hq⟩⟩
end
/-- an error class of the program, as the printer uses it -/
structure ErrC (P : Program) (w : World) (K : PySem.W.Frag) (mg : Str → Option Value) (base : Heap) (T : Tb) (n : Nat) (x m : Str) : Prop where
  ex : ∃ (fI : Addr) (fd : FuncData), OexC K (T.ca n) ∧ PySem.W.findIn K (.ref (T.ca n)) "__init__" = some (some (.ref fI)) ∧ PySem.W.typeIn K (.ref fI) = some (.type "function") ∧ FnOk P w K mg base CX0 1 fI fd ["self", m] (spE K m) ∧ Binds K fd ["self", m] [] ∧
    mg x = some (.ref (T.ca n)) ∧ PySem.W.findIn K (.ref (T.ca n)) m = some none ∧ T.fl n = [m]
def wRaise (n : Nat) (Ed : EK) (ws : WA) : WS := fun _ δ => ws δ fun svs => allV svs fun ds => match ds with
  | [d] => Ed n [d]
  | _ => False
section
variable {X : Cx} {T : Tb} {e0 : En} {Ed : EK} {pos p pos' : Pos} {a : Expr} {es : List Expr} {ws : WA} {n : Nat} {x m : Str}
theorem s_raise (c : ErrC X.prog X.w X.K X.mg X.base T n x m) (hr : RoomG 2 X.A) (hcalm : X.calm = true) (tk : Takes X (WD T e0 Ed)) (ha : PA X (a :: es) (liftA T ws)) (hK : T.K = X.K) (hg : Gl X x := by rfl) (hdb : (x == ("__debug__" : Str)) = false := by decide)
    (he : starEach (a :: es) X.env = (false, eval a X.env) :: starEach es X.env := by rfl) (hpl : (backTo pos (starEach es X.env)).any (·.1) = false := by rfl) : PS X (.Raise (some (.Call (.Name x p) (a :: es) [] pos)) none pos') (liftSX T e0 (wRaise n Ed ws)) := by
  obtain ⟨fI, fd, hC, iC, tI, G, hb, hm, hno, hfl⟩ := c.ex
  refine PS.weak (ps_raise hcalm tk (pmk_oex hC iC tI G hr.rm hb .nil C8.pass0 hg hm ha hdb he hpl)) fun D σ H ⟨F, δ, Dd, S, w, k1, k2, k3, k4⟩ => ?_
  refine useA S w fun vs H1 F1 ds S1 l1 i1 w1 => ?_
  split at w1
  · rename_i d
    obtain ⟨y, rfl, iy⟩ := i1.oneE
    refine ⟨by show 1 ≤ 1000; decide, fun a ha => ⟨a, T.ca n, y, rfl, hC, hno, upd_same, fun dx h1 h2 => ⟨rfl, dx, [(m, y)], upd_same, by rw [upd_ne h2, upd_same], ?_, ?_⟩⟩⟩
    · rw [upd_ne h2] at h1; exact h1
    · rw [upd_ne h2] at h1
      have e : upd (del (upd (upd (upd H1 a (exo a (T.ca n) none)) dx (exd dx [(m, y)])) a (exo a (T.ca n) (some dx))) a) dx (.xd [(m, y)]) = upd H1 dx (.xd [(m, y)]) := by
        funext b
        by_cases hb : b = dx
        · subst hb; rw [upd_same, upd_same]
        · rw [upd_ne hb, upd_ne hb]
          by_cases hba : b = a
          · subst hba; rw [del_same, ha]
          · rw [del_ne hba, upd_ne hba, upd_ne hb, upd_ne hba]
      rw [e]
      have S2 := S1.laidK (o := .xd [(m, y)]) h1
      refine ⟨_, δ, σ, n, [d], S2, ⟨rfl, dx, [y], rfl, by rw [upd_same, hfl]; rfl, by rw [hfl]; rfl, IsL.one T (Is.mono T (le_upd (S1.fnone h1)) d iy)⟩, w1⟩
  · exact w1.elim
end
end DD
/-! ### objects whose making may raise; keywords -/
namespace DD
open PySem L2
abbrev FIX := List SV → (List D → Prop) → EK → Prop
structure GrowE (T : Tb) (me : Addr) (F H F' H' : Hp) : Prop where
  le : Le F F'
  sub : Le F' H'
  new : ∀ b o, F' b = some o → F b = some o ∨ H b = none
  keep : ∀ b o, H b = some o → b ≠ me → ¬ T.tb b → H' b = some o
  tabs : LamX.Tabs T.tz H'
def liftInX (T : Tb) (c : Nat) (f : FIX) : Sp := fun vs H Q E => ∃ self dx rest F svs Qd Ed, vs = .ref self :: rest ∧ H self = some (.ins (T.ca c) dx []) ∧ F self = none ∧ LeT T F H ∧ RelA T F H rest svs ∧ cntBag svs = 0 ∧ f svs Qd Ed ∧
  (∀ H' F' ds, GrowI T c (fun _ => False) self F H F' H' ds → Qd ds → Q .non H') ∧ ∀ cls d H' F' n ds, GrowE T self F H F' H' → ExcD T F' cls d n ds → Ed n ds → E cls d H'
section
variable {T : Tb} {P : Program} {w : World} {K : PySem.W.Frag} {mg : Str → Option Value} {base : Heap}
theorem fn_IX {x qual : Str} {st : Stmt} {f : Addr} {fd : FuncData} {N ps : List Str} {k : Nat} {sp : FIX} {wb : EK → WS} (c : Nat) {dvs : List V} (F : FunX K x qual st dvs f fd) (S : FnScope N ps (defScope st))
    (hb : ∀ (e0 : En) (Ed : EK) (cdv : Value) (A : Around) (outer : List Env) (s : Shared) (H : Hp) (E : XK), RoomG k (A.deeper (PyProof.Rows.envOfC qual (defScope st) s.heap.objs.size f cdv)) →
      Takes (cxOf (L2.CX P w) P w K mg base N qual (defScope st) f cdv A outer s H E) (WD T e0 Ed) → PSs (cxOf (L2.CX P w) P w K mg base N qual (defScope st) f cdv A outer s H E) (defBody st) (liftSX T e0 (wb Ed)))
    (hw : ∀ svs Qd Ed, sp svs Qd Ed → svs.length + 1 = ps.length ∧ wb Ed (endI c (T.fl c).length Qd) (startD N.length (.slf c [] :: svs))) : FnG P w K mg base (L2.CX P w) (k + 1) f fd ps (liftInX T c sp) := by
  refine fnG_of F S (fun vs H Q E ⟨self, dx, rest, F0, svs, Qd, Ed, e0, h1, h2, h3, h4, h5, h6, _⟩ => by rw [e0, List.length_cons, h4.len]; exact (hw svs Qd Ed h6).1) fun cdv A outer s H vs Q E hr ⟨self, dx, rest, F0, svs, Qd, Ed, e0, h1, h2, h3, h4, h5, h6, h7, h8⟩ => ?_
  subst e0
  have S1 := sim_startI (N := N) h1 h2 h3 h4 h5
  have tk : Takes (cxOf (L2.CX P w) P w K mg base N qual (defScope st) f cdv A outer s H E) (WD T ⟨F0, H, fun _ => False, fun b => b = self ∨ T.tb b, []⟩ Ed) := takes_body.imp fun cls d σ H' ⟨F', δ', σ', n, ds, S', x', q'⟩ =>
    h8 cls d H' F' n ds ⟨S'.base, S'.sub, S'.new, fun b o h hb ht => S'.keep b o h (fun z => z) fun z => z.elim hb ht, S'.tabs.1⟩ x' q'
  refine ⟨_, hb _ Ed cdv A outer s H E hr tk, ?_⟩
  refine ⟨F0, _, endI c (T.fl c).length Qd, S1, (hw svs Qd Ed h6).2, fun σ' H' F' δ' S' l' q' => ?_, fun v σ' H' F' δ' sv S' l' r' q' => q'.elim, fun σ' H' F' δ' S' l' q' => q'.elim, fun σ' H' F' δ' S' l' q' => q'.elim⟩
  have q2 : (match (δ'[0]? : Option (Option SV)) with | some (some (.slf c' ds)) => c' = c ∧ ds.length = (T.fl c).length ∧ Qd ds | _ => False) := q'
  split at q2
  · rename_i c' ds hd
    obtain ⟨rfl, hn, q3⟩ := q2
    obtain ⟨v, e1, ⟨p, dx', vs, rfl, g1, g2, g3, g4⟩, m1⟩ := S'.slot 0 _ hd
    have ep : p = self := (m1 p rfl).elim id fun z => (noTab S'.tabs.1 g1 (fun _ z => by cases z) z).elim
    subst ep
    refine h7 H' F' ds ⟨S'.base, S'.sub, S'.new, fun b o h _ hb ht => S'.keep b o h (fun z => z) fun z => z.elim hb ht, fun b h => h.elim, S'.tabs.1, ⟨dx', vs, ?_, by rw [g4.len, hn], g3, g4⟩⟩ q3
    rw [hn, List.take_length] at g1
    exact g1
  · exact q2.elim
end
section
variable {X : Cx} {T : Tb} {e0 : En} {Ed : EK} {F F' H H' : Hp} {δ : DEnv} {σ : L2.St} {E : XK}
theorem made_rel {c : Nat} {vs : List V} {svs : List SV} (hFH : Le F H) (h2 : RelA T F H vs svs) {x dx : Addr} (hx : H x = none) (hdx : H dx = none) (hne : dx ≠ x) : F x = none ∧ Le F (upd (upd H dx (.own x)) x (.ins (T.ca c) dx [])) ∧
    (∀ b, upd (upd H dx (.own x)) x (.ins (T.ca c) dx []) b = none → H b = none) ∧ (∀ b o, H b = some o → upd (upd H dx (.own x)) x (.ins (T.ca c) dx []) b = some o) ∧ RelA T F (upd (upd H dx (.own x)) x (.ins (T.ca c) dx [])) vs svs := by
  have fz : ∀ {b : Addr}, H b = none → F b = none := fun {b} hb => by
    cases q : F b with
    | none => rfl
    | some o => rw [hFH b o q] at hb; cases hb
  have fx := fz hx
  have hx1 : upd H dx (.own x) x = none := by rw [upd_ne (Ne.symm hne)]; exact hx
  have sub2 : Le F (upd (upd H dx (.own x)) x (.ins (T.ca c) dx [])) := (hFH.updR (fz hdx)).updR fx
  have up : ∀ b, upd (upd H dx (.own x)) x (.ins (T.ca c) dx []) b = none → H b = none := fun b hb => by
    cases u : H b with
    | none => rfl
    | some o =>
      rw [upd_ne (ne_of_none u hx), upd_ne (ne_of_none u hdx), u] at hb; cases hb
  have old : ∀ b o, H b = some o → upd (upd H dx (.own x)) x (.ins (T.ca c) dx []) b = some o := fun b o h => by
    rw [upd_ne (ne_of_none h hx), upd_ne (ne_of_none h hdx)]; exact h
  have rel : ∀ {vs : List V} {svs : List SV}, RelA T F H vs svs → RelA T F (upd (upd H dx (.own x)) x (.ins (T.ca c) dx [])) vs svs := by
    intro vs
    induction vs with
    | nil => intro svs h; cases svs <;> exact h
    | cons v vs ih =>
      intro svs h
      cases svs with
      | nil => exact h
      | cons sv svs =>
        cases sv with
        | val d => exact ⟨h.1, ih h.2⟩
        | bag =>
          obtain ⟨⟨a, e1, ⟨f, s, c, e2, e3⟩, e4⟩, h⟩ := h
          exact ⟨⟨a, e1, ⟨f, s, c, old a _ e2, e3⟩, e4⟩, ih h⟩
        | own _ => exact h
        | slf _ _ => exact h
        | pr _ _ => exact h
        | exc _ _ => exact ⟨h.1.monoV (Le.refl F) rfl, ih h.2⟩
  exact ⟨fx, sub2, up, old, rel h2⟩
def mkFX (c : Nat) (f : FIX) : FX := fun svs Q Ed => cntBag svs = 0 ∧ f svs (fun ds => Q (.ins c ds)) Ed
theorem make_useX {c : Nat} {f : FIX} {vs : List V} {svs : List SV} {Qd : D → Prop} {Q : VK} (hFH : LeT T F H) (h2 : RelA T F H vs svs) (hc : cntBag svs = 0) (h4 : f svs (fun ds => Qd (.ins c ds)) Ed)
    (h5 : ∀ v H' F' d, Grow T (fun _ => False) F H F' H' → Is T F' v d → Qd d → Q v H') (h6 : ∀ cls d H' F' n ds, Grow T (fun _ => False) F H F' H' → ExcD T F' cls d n ds → Ed n ds → E cls d H') {x dx : Addr} (hx : H x = none) (hdx : H dx = none) (hne : dx ≠ x) :
    liftInX T c f (.ref x :: vs) (upd (upd H dx (.own x)) x (.ins (T.ca c) dx [])) (fun v H2 => v = .non ∧ Q (.ref x) H2) E := by
  obtain ⟨fx, sub2, up, old, rel⟩ := made_rel (c := c) hFH.1 h2 hx hdx hne
  refine ⟨x, dx, vs, F, svs, _, Ed, rfl, upd_same, fx, ⟨sub2, tabz_new (tabz_new hFH.2.1 hdx) (by rw [upd_ne (Ne.symm hne)]; exact hx), hFH.2.2⟩, rel, hc, h4, fun H' F' ds g q => ⟨rfl, ?_⟩, fun cls d H' F' n ds g x' q => h6 cls d H' F' n ds ⟨g.le, g.sub, fun b o q => (g.new b o q).elim .inl fun z => .inr (up b z), fun b o hb _ ht => g.keep b o (old b o hb) (ne_of_none hb hx) ht, fun b hb => hb.elim, g.tabs⟩ x' q⟩
  obtain ⟨dx', ws, g1, g2, g3, g4⟩ := g.obj
  refine h5 (.ref x) H' (upd F' x (.ins (T.ca c) dx' ((T.fl c).zip ws))) (.ins c ds) ⟨g.le.trans (le_upd g3), fun b o q => ?_, fun b o q => ?_, fun b o hb _ ht => g.keep b o (old b o hb) (fun z => z) (ne_of_none hb hx) ht, fun b hb => hb.elim, g.tabs⟩ ?_ q
  · by_cases hb : b = x
    · subst hb; rw [upd_same] at q; cases q; exact g1
    · rw [upd_ne hb] at q; exact g.sub b o q
  · by_cases hb : b = x
    · subst hb; exact .inr hx
    · rw [upd_ne hb] at q
      exact (g.new b o q).elim .inl fun z => .inr (up b z)
  · unfold Is
    exact ⟨x, dx', ws, rfl, upd_same, g2, IsL.mono T (le_upd g3) ds g4⟩
theorem makeX {c : Nat} {f : FIX} {CX : CXT} {k : Nat} {g : Addr} {fd : FuncData} {ps : List Str} (M : Mk X.K (T.ca c) g) (G : FnG X.prog X.w X.K X.mg X.base CX k g fd ps (liftInX T c f)) (hr : RoomG (k + 1) X.A)
    (hb : Binds X.K fd ps []) (hx : Passes CX X (ED T e0 Ed)) : CallR X (.ref (T.ca c)) (liftCX T e0 Ed (mkFX c f)) := by
  intro pins s σ H vs us Q I rv ⟨F, svs, Qd, Ed', hFH, h2, h3, ⟨hc, h4⟩, h5, h6⟩
  refine makeG M G hr hb .nil hx pins s σ H vs us Q I rv ?_
  intro x dx hx hdx hne
  rw [List.append_nil]
  have nb : ∀ b, ¬ bagsOf vs svs b := fun b ⟨i, z, _⟩ => cntBag_no hc z
  have gg : ∀ {F' H'}, Grow T (fun _ => False) F H F' H' → Grow T (bagsOf vs svs) F H F' H' := fun gr => ⟨gr.le, gr.sub, gr.new, fun b o z _ ht => gr.keep b o z (fun y => y) ht, fun b y => (nb b y).elim, gr.tabs⟩
  exact make_useX hFH h2 hc h4 (fun v H' F' d gr i' q => h5 v H' F' d (gg gr) i' q) (fun cls d H' F' n ds gr x' q => h6 cls d H' F' n ds (gg gr) x' q) hx hdx hne
end
def permX (is : List Nat) (dds : List D) (sp : FX) : FX := fun svs Q Ed => cntBag (pick is (svs ++ dds.map SV.val)) ≤ 1 ∧ sp (pick is (svs ++ dds.map SV.val)) Q Ed
section
variable {X : Cx} {T : Tb} {e0 : En} {Ed : EK} {F F' H H' : Hp} {δ : DEnv} {σ : L2.St} {E : XK} {CX : CXT} {k n : Nat} {g : Addr} {fd : FuncData} {ps ks : List Str} {is : List Nat} {dvs : List V} {ds : List Value} {dds : List D}
theorem perm_grow {vs : List V} {svs : List SV} (hFH : LeT T F H) (h2 : RelA T F H vs svs) (hdd : ∀ F, IsL T F dvs dds) {H' F' : Hp} (g : Grow T (bagsOf (pick is (vs ++ dvs)) (pick is (svs ++ dds.map SV.val))) F H F' H') : Grow T (bagsOf vs svs) F H F' H' := by
  refine ⟨g.le, g.sub, g.new, fun b o z nb ht => g.keep b o z (fun y => nb ?_) ht, fun b hb => ?_, g.tabs⟩
  · have hl : (vs ++ dvs).length = (svs ++ dds.map SV.val).length := (RelA.app h2 (hdd F)).len
    exact bagsOf_app h2.len (pick_bags hl y)
  · by_cases y : bagsOf (pick is (vs ++ dvs)) (pick is (svs ++ dds.map SV.val)) b
    · exact g.bags b y
    · obtain ⟨i, h1, h3⟩ := hb
      obtain ⟨v, e1, ⟨a, e2, ⟨f, s, c, e3, e4⟩, _⟩, _⟩ := h2.get h1
      rw [h3] at e1; cases e1; cases e2
      exact ⟨f, s, c, g.keep _ _ e3 y (noTab hFH.2.1 e3 fun _ z => by cases z), e4⟩
theorem perm_useX {vs : List V} {svs : List SV} {sp : FX} {Qd : D → Prop} {Q : VK} (hFH : LeT T F H) (h2 : RelA T F H vs svs) (h : permX is dds sp svs Qd Ed) (hdd : ∀ F, IsL T F dvs dds)
    (h5 : ∀ v H' F' d, Grow T (bagsOf vs svs) F H F' H' → Is T F' v d → Qd d → Q v H') (h6 : ∀ cls d H' F' n ds, Grow T (bagsOf vs svs) F H F' H' → ExcD T F' cls d n ds → Ed n ds → E cls d H') : liftSpX T sp (pick is (vs ++ dvs)) H Q E :=
  ⟨F, pick is (svs ++ dds.map SV.val), Qd, Ed, hFH, pick_rel (RelA.app h2 (hdd F)) is, h.1, h.2, fun v H' F' d g i' q => h5 v H' F' d (perm_grow hFH h2 hdd g) i' q, fun cls d H' F' n ds g x' q => h6 cls d H' F' n ds (perm_grow hFH h2 hdd g) x' q⟩
theorem callPX {f : FX} (G : FnG X.prog X.w X.K X.mg X.base CX k g fd ps (liftSpX T f)) (hr : RoomG k X.A) (hb : KB X.K fd ps n ks is ds) (hd : Vals dvs ds) (hx : Passes CX X (ED T e0 Ed)) (hdd : ∀ F, IsL T F dvs dds) : CallRK X (.ref g) n ks (liftCX T e0 Ed (permX is dds f)) := by
  intro pins s σ H vs zs us ws Q I rv rz l1 l2 ⟨F, svs, Qd, Ed', hFH, h2, h3, h4, h5, h6⟩
  have rr : Vals (pick is ((vs ++ zs) ++ dvs)) (pick is ((us ++ ws) ++ ds)) := pick_vals ((rv.append rz).append hd) is
  have hsp : liftSpX T f (pick is ((vs ++ zs) ++ dvs)) H Q (ED T e0 Ed) := perm_useX hFH h2 h4 hdd h5 h6
  have run := G.run X.A X.stack s H ⟨us, ks.zip ws⟩ _ _ Q _ hr I.env0 (hb s us ws I.kIn (rv.length.symm.trans l1) (rz.length.symm.trans l2)) rr hsp
  refine wpAny_call (codeAny_mono run ?_)
  rintro (e | fl) s' q
  · exact hx pins σ H s e s' I q
  · cases fl <;> first | exact I.after q | exact q.elim
theorem makePX {c : Nat} {f : FIX} (M : Mk X.K (T.ca c) g) (G : FnG X.prog X.w X.K X.mg X.base CX k g fd ps (liftInX T c f)) (hr : RoomG (k + 1) X.A)
    (hb : KB X.K fd ps (n + 1) ks (0 :: is.map (· + 1)) ds) (hd : Vals dvs ds) (hx : Passes CX X (ED T e0 Ed)) (hdd : ∀ F, IsL T F dvs dds) : CallRK X (.ref (T.ca c)) n ks (liftCX T e0 Ed (permX is dds (mkFX c f))) := by
  intro pins s σ H vs zs us ws Q I rv rz l1 l2 ⟨F, svs, Qd, Ed', hFH, h2, h3, ⟨hc1, hc, h4⟩, h5, h6⟩
  have hrel := pick_rel (RelA.app h2 (hdd F)) is
  have gg : ∀ {F' H'}, Grow T (fun _ => False) F H F' H' → Grow T (bagsOf (vs ++ zs) svs) F H F' H' := fun gr => ⟨gr.le, gr.sub, gr.new, fun b o z _ ht => gr.keep b o z (fun y => y) ht, (fun b hb => by
    obtain ⟨i, h1, h3⟩ := hb
    obtain ⟨v, e1, ⟨a, e2, ⟨f, s, c, e3, e4⟩, _⟩, _⟩ := h2.get h1
    rw [h3] at e1; cases e1; cases e2
    exact ⟨f, s, c, gr.keep _ _ e3 (fun y => y) (noTab hFH.2.1 e3 fun _ z => by cases z), e4⟩), gr.tabs⟩
  have h0 := make_useX (E := ED T e0 Ed) hFH hrel hc h4 (Q := Q) (fun v H' F' d gr i' q => h5 v H' F' d (gg gr) i' q) (fun cls d H' F' n ds gr x' q => h6 cls d H' F' n ds (gg gr) x' q) (I.hok.fresh (Nat.le_succ s.heap.objs.size)) (I.hok.fresh (Nat.le_refl s.heap.objs.size)) (Nat.ne_of_lt (Nat.lt_succ_self _))
  have J := Inv.made (C := T.ca c) I
  have rv2 : Vals (pick (0 :: is.map (· + 1)) (((.ref (s.heap.objs.size + 1) :: vs) ++ zs) ++ dvs)) (pick (0 :: is.map (· + 1)) (((.ref (s.heap.objs.size + 1) :: us) ++ ws) ++ ds)) :=
    pick_vals (Vals.append (Vals.append (Paired.cons (show RelV (.ref (s.heap.objs.size + 1)) (.ref (s.heap.objs.size + 1)) from rfl) rv) rz) hd) _
  have gd : (X.A.under (.builtin "type.__call__" ⟨.ref (T.ca c) :: us, ks.zip ws⟩)).guards = some [] := by
    show PySem.pushGuards (Code.guards (.builtin "type.__call__" ⟨.ref (T.ca c) :: us, ks.zip ws⟩)) X.A.guards = _
    have : (Code.builtin "type.__call__" ⟨.ref (T.ca c) :: us, ks.zip ws⟩).isGuard = false := by
      show guardIds.contains "type.__call__" = false
      decide +kernel
    rw [hr.gd]
    unfold Code.guards
    rw [this]
    rfl
  have hsp : liftInX T c f (pick (0 :: is.map (· + 1)) (((.ref (s.heap.objs.size + 1) :: vs) ++ zs) ++ dvs)) (upd (upd H s.heap.objs.size (.own (s.heap.objs.size + 1))) (s.heap.objs.size + 1) (.ins (T.ca c) s.heap.objs.size [])) (fun v H2 => v = .non ∧ Q (.ref (s.heap.objs.size + 1)) H2) (ED T e0 Ed) := by
    rw [List.cons_append, List.cons_append, pick_self]
    exact h0
  have run := G.run _ X.stack _ _ ⟨.ref (s.heap.objs.size + 1) :: us, ks.zip ws⟩ _ _ _ _ ⟨hr.rm.make (T.ca c) us (ks.zip ws), gd⟩ (J.env0.make (T.ca c) us (ks.zip ws)) (hb _ (.ref (s.heap.objs.size + 1) :: us) ws J.kIn (by rw [List.length_cons, ← rv.length, l1]) (rz.length.symm.trans l2)) rv2 hsp
  refine wpAny_call (make_map (f := g) I.kIn M.makes M.init (beq_iff_eq.mp M.fn) (codeAny_mono run ?_))
  rintro (e | fl) s' q
  · exact hx pins σ _ _ e s' J q
  · cases fl with
    | ret u =>
      obtain ⟨v, H2, J2, rv3, rfl, q3⟩ := J.after q
      exact ⟨rv3, .ref (s.heap.objs.size + 1), H2, J2, rfl, q3⟩
    | next => exact q.elim
    | brk => exact q.elim
    | cont => exact q.elim
end
end DD
/-! ### what raises, as the printer uses it -/
namespace DD
open PySem L2
section
variable (P : Program) (w : World) (K : PySem.W.Frag) (mg : Str → Option Value) (base : Heap) (T : Tb) (k : Nat)
structure NewX (c : Nat) (x : Str) (f : FIX) : Prop where
  ex : ∃ (g : Addr) (fd : FuncData) (ps : List Str), Mk K (T.ca c) g ∧ FnG P w K mg base (L2.CX P w) k g fd ps (liftInX T c f) ∧ mg x = some (.ref (T.ca c)) ∧ Binds K fd ps []
structure NewKX (c : Nat) (x : Str) (n : Nat) (ks : List Str) (is : List Nat) (dds : List D) (f : FIX) : Prop where
  ex : ∃ (g : Addr) (fd : FuncData) (ps : List Str) (dvs : List V) (ds : List Value), Mk K (T.ca c) g ∧ FnG P w K mg base (L2.CX P w) k g fd ps (liftInX T c f) ∧ mg x = some (.ref (T.ca c)) ∧ KB K fd ps (n + 1) ks (0 :: is.map (· + 1)) ds ∧ Vals dvs ds ∧ ∀ F, IsL T F dvs dds
structure CalKX (x : Str) (n : Nat) (ks : List Str) (is : List Nat) (dds : List D) (sp : FX) : Prop where
  ex : ∃ (g : Addr) (fd : FuncData) (ps : List Str) (dvs : List V) (ds : List Value), FnG P w K mg base (L2.CX P w) k g fd ps (liftSpX T sp) ∧ mg x = some (.ref g) ∧ PySem.W.keepIn K (.ref g) = true ∧ KB K fd ps n ks is ds ∧ Vals dvs ds ∧ ∀ F, IsL T F dvs dds
structure MetX (c : Nat) (m : Str) (sp : FX) : Prop where
  ex : ∃ (g : Addr) (fd : FuncData) (ps : List Str), Meth K (T.ca c) m g ∧ FnG P w K mg base (L2.CX P w) k g fd ps (liftSpX T sp) ∧ Binds K fd ps []
end
section
variable {X : Cx} {T : Tb} {e0 e : En} {Ed : EK} {pos p apos : Pos} {a o : Expr} {es : List Expr} {kws : List Keyword} {w wa wo : W} {ws wk : WA} {k j c n : Nat} {x m : Str} {ks : List Str} {is : List Nat} {dds : List D} {sp : FX} {fi : FIX} {F F' H H' : Hp} {δ : DEnv} {σ : L2.St}
theorem use_spX {vs : List V} {svs : List SV} {f : FX} {Qd : D → Prop} {Q : VK} (S : Sim T e0 F δ σ H) (r : ResA T F δ σ vs svs) (hc : cntBag svs ≤ 1) (h : f svs Qd Ed) (hk : ∀ v H' F' d, Sim T e0 F' δ σ H' → Le F F' → Is T F' v d → Qd d → Q v H') : liftCX T e0 Ed f vs H Q := by
  have back : ∀ F' H', Grow T (bagsOf vs svs) F H F' H' → Sim T e0 F' δ σ H' := fun F' H' g => S.grow (bagsOf vs svs) (fun b ⟨j, z1, z2⟩ => r.bag z1 z2) g.le g.sub g.new g.keep g.bags g.tabs
  exact ⟨F, svs, Qd, Ed, S.subT, ResA.relA S r, hc, h, fun v H' F' d g i q => hk v H' F' d (back _ _ g) g.le i q, fun cls d H' F' c ds g x q => ⟨F', δ, σ, c, ds, back _ _ g, x, q⟩⟩
theorem useX {w : W} {te : TE} {Q : VK} {k : D → Prop} (S : Sim T e0 F δ σ H) (h : w δ fun x => wd x k) (hk : ∀ v H' F' d, Sim T e0 F' δ σ H' → Le F F' → Is T F' v d → k d → Q v H') : liftX T e0 w σ H Q := by
  refine ⟨F, δ, _, S, h, fun v H' F' sv S' le r q => ?_⟩
  obtain ⟨F2, d, l2, S2, i2, q2⟩ := r.wd S' q
  exact hk v H' F2 d S2 (le.trans l2) i2 q2
theorem d_newX (C : NewX X.prog X.w X.K X.mg X.base T k c x fi) (hr : RoomG (k + 1) X.A) (tk : Takes X (WD T e0 Ed)) (ha : PA X (a :: es) (liftA T ws)) (hg : Gl X x := by rfl) (hdb : (x == ("__debug__" : Str)) = false := by decide)
    (he : starEach (a :: es) X.env = (false, eval a X.env) :: starEach es X.env := by rfl) (hpl : (backTo pos (starEach es X.env)).any (·.1) = false := by rfl) : PE X (.Call (.Name x p) (a :: es) [] pos) (liftX T e0 (wCallX (mkFX c fi) Ed ws)) := by
  obtain ⟨g, fd, ps, M, G, hm, hb⟩ := C.ex
  exact d_callX (makeX M G hr hb (passes_call tk fun _ _ _ _ h => h)) hm M.kp ha hg hdb he hpl
def wCallKX (n m : Nat) (f : FX) (Ed : EK) (ws wk : WA) : W := fun δ Q => ws δ fun svs => wk δ fun zsv => (svs.length = n ∧ zsv.length = m) ∧ cntBag (svs ++ zsv) ≤ 1 ∧ f (svs ++ zsv) (fun d => Q (.val d)) Ed
theorem d_callKX0 {x : Str} {fv : Addr} {f : FX} (hc : CallRK X (.ref fv) 0 ks (liftCX T e0 Ed f)) (hm : X.mg x = some (.ref fv)) (hk : PySem.W.keepIn X.K (.ref fv) = true) (hkw : PK X kws (liftA T wk)) (hg : Gl X x := by rfl)
    (hall : (backToKw pos (keywordEach kws X.env)).all (·.1.isSome) = true := by rfl) (hks : (backToKw pos (keywordEach kws X.env)).filterMap (·.1) = ks := by rfl)
    (hdb : (x == ("__debug__" : Str)) = false := by decide)
    (hpl : ((backTo pos (starEach [] X.env)).any (·.1) || (backToKw pos (keywordEach kws X.env)).any (·.1.isNone)) = false := by rfl) : PE X (.Call (.Name x p) [] kws pos) (liftX T e0 (wCallKX 0 ks.length f Ed wNil wk)) := by
  constructor
  intro pins s σ H Q I h
  apply wpAny_Call_Name_kw
  apply ld_glob I hg hm _ hdb
  have h2 : tCK 0 ks.length (liftCX T e0 Ed f) (fun σ H Q => Q [] H) (liftA T wk) σ H Q := by
    obtain ⟨F, δ, Qd, S, w, k⟩ := h
    exact ⟨e0, F, δ, _, S, w, fun zs H2 F2 zsv S2 l2 r2 ⟨⟨_, q3⟩, q4, q5⟩ => ⟨rfl, by rw [resA_len r2, q3], use_spX S2 r2 q4 q5 fun v H' F' d S' l' i' q' => k v H' F' (.val d) S' (l2.trans l') i' q'⟩⟩
  refine PySem.W.callWith_KW0 (h₀ := X.base) I.ok.mod.kin hk hall (thn (hkw.run pos pins s σ H _ I h2) ?_) hpl
  rintro ws s2 ⟨zs, H2, I2, rz, l1, l2, q2⟩
  rw [hks]
  exact ⟨I2.kIn, hc pins s2 σ H2 [] zs [] ws Q I2 .nil rz l1 l2 q2⟩
theorem d_newKX0 (C : NewKX X.prog X.w X.K X.mg X.base T k c x 0 ks is dds fi) (hr : RoomG (k + 1) X.A) (tk : Takes X (WD T e0 Ed)) (hkw : PK X kws (liftA T wk)) (hg : Gl X x := by rfl)
    (hall : (backToKw pos (keywordEach kws X.env)).all (·.1.isSome) = true := by rfl) (hks : (backToKw pos (keywordEach kws X.env)).filterMap (·.1) = ks := by rfl)
    (hdb : (x == ("__debug__" : Str)) = false := by decide)
    (hpl : ((backTo pos (starEach [] X.env)).any (·.1) || (backToKw pos (keywordEach kws X.env)).any (·.1.isNone)) = false := by rfl) : PE X (.Call (.Name x p) [] kws pos) (liftX T e0 (wCallKX 0 ks.length (permX is dds (mkFX c fi)) Ed wNil wk)) := by
  obtain ⟨g, fd, ps, dvs, ds, M, G, hm, hb, hd, hdd⟩ := C.ex
  exact d_callKX0 (makePX M G hr hb hd (passes_call tk fun _ _ _ _ h => h) hdd) hm M.kp hkw hg hall hks hdb hpl
theorem d_calKX0 (C : CalKX X.prog X.w X.K X.mg X.base T k x 0 ks is dds sp) (hr : RoomG k X.A) (tk : Takes X (WD T e0 Ed)) (hkw : PK X kws (liftA T wk)) (hg : Gl X x := by rfl)
    (hall : (backToKw pos (keywordEach kws X.env)).all (·.1.isSome) = true := by rfl) (hks : (backToKw pos (keywordEach kws X.env)).filterMap (·.1) = ks := by rfl)
    (hdb : (x == ("__debug__" : Str)) = false := by decide)
    (hpl : ((backTo pos (starEach [] X.env)).any (·.1) || (backToKw pos (keywordEach kws X.env)).any (·.1.isNone)) = false := by rfl) : PE X (.Call (.Name x p) [] kws pos) (liftX T e0 (wCallKX 0 ks.length (permX is dds sp) Ed wNil wk)) := by
  obtain ⟨g, fd, ps, dvs, ds, G, hm, hk, hb, hd, hdd⟩ := C.ex
  exact d_callKX0 (callPX G hr hb hd (passes_call tk fun _ _ _ _ h => h) hdd) hm hk hkw hg hall hks hdb hpl
def wMethX (c : Nat) (f : FX) (Ed : EK) (wo : W) (ws : WA) : W := fun δ Q => wo δ fun x => wd x fun d => match d with
  | .ins c' ds => c' = c ∧ ws δ fun svs => cntBag svs ≤ 1 ∧ f (.val (.ins c ds) :: svs) (fun d => Q (.val d)) Ed
  | _ => False
theorem d_mX {pl : Sem Bool} (C : MetX X.prog X.w X.K X.mg X.base T k c m sp) (hr : RoomG k X.A) (tk : Takes X (WD T e0 Ed)) (cl : Cls X.K (T.ca c)) (hf : (T.fl c).contains m = false) (ho : PE X o (lift T wo)) (ha : PA X (a :: es) (liftA T ws))
    (hst : starEach (a :: es) X.env = (false, eval a X.env) :: starEach es X.env := by rfl) (hpl : (backTo pos (starEach es X.env)).any (·.1) = false := by rfl)
    (ht : eval (.Call (.Attribute o m apos) (a :: es) [] pos) X.env = (do
      let v ← eval o X.env
      standAt apos.atName
      let (g, one) ← holding [v] (getMethod v m pl)
      callWith pos g one (backTo pos (starEach (a :: es) X.env)) (backToKw pos (keywordEach [] X.env))) := by rfl) : PE X (.Call (.Attribute o m apos) (a :: es) [] pos) (liftX T e0 (wMethX c sp Ed wo ws)) := by
  obtain ⟨g, fd, ps, hm, G, hb⟩ := C.ex
  have hc : CallR X (.ref g) (liftCX T e0 Ed sp) := by
    have := callG G hr hb .nil (passes_call tk fun _ _ _ _ h => h)
    simp only [List.append_nil] at this
    exact this
  refine PE.weak (pe_methR (pl := pl) ho cl hm hc ha hst hpl ht) fun σ H Q ⟨F, δ, Qd, S, w, k⟩ => ?_
  refine use (te := lift T wo) S w fun x H1 F1 d S1 l1 i1 w1 => ?_
  split at w1
  · rename_i c' ds
    obtain ⟨rfl, w1⟩ := w1
    obtain ⟨p, dx, vs, rfl, h1, h2, h3⟩ := id i1.insE
    refine ⟨p, dx, _, rfl, S1.sub _ _ h1, zip_lookup_none hf, e0, F1, δ, _, S1, w1, fun us H2 F2 svs S2 l2 r2 q2 => ?_⟩
    exact use_spX S2 (show ResA T F2 δ σ (.ref p :: us) (.val (.ins c' ds) :: svs) from ⟨Is.mono T l2 _ i1, r2⟩) q2.1 q2.2 fun v H' F' d S' l' i' q' => k v H' F' (.val d) S' ((l1.trans l2).trans l') i' q'
  · exact w1.elim
end
end DD
/-! ### try: .. except (A, B, C) as e: what is raised is of one of them -/
namespace DD
open PySem PySem.Spec PyProof.Rows L2
theorem flyZ_keeps {base h h' : Heap} {l : List Env} {e : Addr} {Z : Obj → Prop} (x : HandSPX.FlyingZ base l e Z h) (k : ∀ b o, h.get? b = some o → h'.get? b = some o) : HandSPX.FlyingZ base l e Z h' := by
  obtain ⟨a1, a2, a3, oe, vs, T, oT, ts, b1, b2, b3, b4, b5, b6, b7, b8, b9⟩ := x
  exact ⟨fun b o e => k _ _ (a1 b o e), a2, a3.of_keeps fun b o e _ => ⟨o, k _ _ e, rfl⟩, oe, vs, T, oT, ts, k _ _ b1, b2, b3, b4, b5, b6, k _ _ b7, b8, b9⟩
def wAs3 (K : PySem.W.Frag) (cs : List Value) (n i : Nat) (ts : Addr → Value → Option Addr → TS) (D : Ends) : WX := fun cls d σ H =>
  PySem.W.exmAny K cls cs = some true ∧ ∀ a, H a = none → σ.length = n → ts a cls d { nx := fun σ' H' => D.nx (σ'.set i none) H', rt := D.rt, bk := fun σ' H' => D.bk (σ'.set i none) H', ct := fun σ' H' => D.ct (σ'.set i none) H' } (σ.set i (some (.ref a))) H
section
variable {X : Cx} {x1 x2 x3 n : Str} {c1 c2 c3 : Value} {i kk : Nat} {body suite : List Stmt} {b₀ : Stmt} {p1 p2 p3 tpos pos pos' : Pos} {tb : WX → TS} {ts : Addr → Value → Option Addr → TS}
theorem ps_try_as3 (hs : X.stack = X.env :: X.outer) (hf : X.env.frame = some X.env.locals) (hN : X.N.Nodup) (hi : X.N[i]? = some n) (hln : X.env.kindOf n = some .local) (n1 : Names X x1 c1) (n2 : Names X x2 c2) (n3 : Names X x3 c3)
    (hb : ∀ (W : WX) (pn : List (Addr × Obj)) (xe : Value → Shared → Prop), Takes (X.tr pn xe) W → PassesOwn (model X.prog X.w) X.A X.env xe → PSs (X.tr pn xe) body (tb W))
    (hsu : ∀ (a : Addr) (oe : Obj) (cls : Value) (d : Option Addr) (pn : List (Addr × Obj)), Zc cls d oe → (∃ vs, oe.data = .fields vs) → PSs (X.suite a ((a, oe) :: pn)) (b₀ :: suite) (ts a cls d)) :
    PS X (.Try body [.ExceptHandler (some (.Tuple [.Name x1 p1, .Name x2 p2, .Name x3 p3] kk tpos)) (some n) (b₀ :: suite) pos'] [] [] pos) (fun D σ H => tb (wAs3 X.K [c1, c2, c3] X.N.length i ts D) D σ H) := by
  refine ⟨fun pins s σ H D I h => ?_⟩
  have ok := I.ok
  have hfr : X.A.frames = some (X.env :: X.outer) := by rw [ok.frames, hs]
  have hloc : Loc X.env.scope n := .inl hln
  refine wpAny_Try_except ?_
  refine wpAny_mono ((hb (wAs3 X.K [c1, c2, c3] X.N.length i ts D) (X.pn ++ pins) (fun e s₁ => wpAny (model X.prog X.w) X.A (noteFrame e X.env) (fun _ s₂ => wpAny (model X.prog X.w) X.A (setFlight e none) (fun _ s₃ =>
    wpAny (model X.prog X.w) X.A (handleBy e X.env [.ExceptHandler (some (.Tuple [.Name x1 p1, .Name x2 p2, .Name x3 p3] kk tpos)) (some n) (b₀ :: suite) pos']) (SP X pins D) X.xe s₃) X.xe s₂) X.xe s₁) (fun u s' xx => ?_) PassesOwn.looking).run [] s σ H D (I.toTry _) h) (fun f s1 hsp => ?_) (fun e s1 he => he)
  · obtain ⟨a, B, sI, pins', σ', H', cls, d, rfl, J', nb, up, sky, na, os, ag, hb1, hyes⟩ := xx
    have J : Inv X pins σ' H' sI := J'.ofTry ok
    have sky' : Sky B (X.env :: X.outer) a (Zc cls d) X.env.locals s'.heap := by rw [← hs]; exact sky
    show wpAny (model X.prog X.w) X.A (noteFrame (.ref a) X.env) _ _ _
    refine Sky.land Zc.steady hfr hf sky' fun h3 fl3 up3 => ?_
    have notFr : ∀ {h : Heap} {o : Obj} {vs : Array Value}, h.FunFrames B (X.env :: X.outer) → h.get? a = some o → o.data = .fields vs → a ∉ frs (X.env :: X.outer) := fun {h o vs} ff e dd hm => by
      obtain ⟨_, o', e', hnf⟩ := ff.mem hm
      rw [e] at e'; cases e'
      exact hnf _ dd
    have notL : ∀ {h : Heap}, HandSPX.FlyingZ B (X.env :: X.outer) a (Zc cls d) h → ∃ oe vs, h.get? a = some oe ∧ Zc cls d oe ∧ oe.data = .fields vs ∧ a ≠ X.env.locals ∧ a ∉ X.fs := fun {h} fl => by
      obtain ⟨oe, vs, he, hz, hd⟩ := fl.there
      have nfr := notFr fl.2.2.1 he hd
      exact ⟨oe, vs, he, hz, hd, fun z => nfr (List.mem_filterMap.mpr ⟨X.env, List.mem_cons_self, by rw [hf, z]⟩), fun hm => by
        obtain ⟨e, he, q⟩ := List.mem_filterMap.mp hm
        exact nfr (List.mem_filterMap.mpr ⟨e, List.mem_cons_of_mem _ he, q⟩)⟩
    have inS : ∀ (h : Heap) (tk : Nat), HandSPX.FlyingZ B (X.env :: X.outer) a (Zc cls d) h → sI.heap.UpToSlots h → ∃ oe, Zc cls d oe ∧ (∃ vs, oe.data = .fields vs) ∧ h.get? a = some oe ∧ Inv (X.suite a ((a, oe) :: (X.pn ++ pins))) [] σ' H' { s' with heap := h, toks := tk } := fun h tk fl u => by
      obtain ⟨oe, vs, he, hz, hd, nL, nF⟩ := notL fl
      have J3 : Inv X pins σ' H' { s' with heap := h, toks := tk } := J.landed (s' := { s' with heap := h, toks := tk }) nb fl.1 u os ag
      exact ⟨oe, hz, ⟨_, hd⟩, he, J3.suite he hd na nL nF⟩
    obtain ⟨oe3, hz3, hd3, he3, S3⟩ := inS h3 s'.toks fl3 (up.trans up3)
    refine wpAny_handleBy_cons (codeAny_handlers_test ?_) (by intro q; cases q)
    have nm : ∀ {y : Str} {c : Value} {np : Pos}, Names X y c → ∀ {Q : Value → Shared → Prop} {E : Value → Shared → Prop}, Q c { s' with heap := h3 } → wpAny (model X.prog X.w) (X.A.mark (some (.ref a))) (eval (.Name y np) X.env) Q E { s' with heap := h3 } := fun {y c np} hc {Q E} q => by
      obtain ⟨hg, hdbg, hm | ⟨hm, hv, hnn⟩⟩ := hc
      · exact ld_glob (X := X.suite a ((a, oe3) :: (X.pn ++ pins))) S3 hg hm q hdbg
      · exact ld_blt (X := X.suite a ((a, oe3) :: (X.pn ++ pins))) S3 hg hm hv q hnn hdbg
    refine wpAny_Tuple ?_
    refine wpAny_items_cons (nm n1 ?_)
    refine wpAny_items_cons (nm n2 ?_)
    refine wpAny_items_cons (nm n3 ?_)
    refine wpAny_items_nil ⟨by size_fits, ?_⟩
    have kp : ∀ q o, h3.get? q = some o → (h3.push { cls := .type "tuple", data := .seq [c1, c2, c3].toArray }).get? q = some o := fun _ _ z => Heap.get?_push_of_some _ z
    have LT : PySem.W.Looks (model X.prog X.w) h3 (typeOf (.ref a)) cls := fun A Q E s k q => wpAny_typeOf_ref (k _ _ he3) (by rw [hz3.1]; exact q)
    refine (PySem.W.exm_tup3 (M := model X.prog X.w) (S3.kIn.keeps kp) (LT.keeps kp) (Heap.get?_push_size h3 rfl) hb1).here ?_
    have fl3' := flyZ_keeps fl3 kp
    have up3' := up3.trans (Heap.UpToSlots.of_keeps kp)
    refine codeAny_handlers_suite_as ?_
    refine HandSPX.lands_againZ fl3' fun h4 fl4 up4 => ?_
    obtain ⟨oe4, hz4, hd4, he4, S4⟩ := inS h4 _ fl4 ((up.trans up3').trans up4)
    refine store_ok (X := X.suite a ((a, oe4) :: (X.pn ++ pins))) (v := .ref a) S4 hN hi hloc rfl (fun s5 S5 => ?_) (.inr hln)
    refine wpAny_mono ((hsu a oe4 cls d (X.pn ++ pins) hz4 hd4).run [] s5 _ H' _ S5 (hyes a na J.len)) (fun f s6 hsp => ?_) (fun _ _ z => False.elim z)
    have end_ : ∀ {σ6 : L2.St} {H6 : Hp} {Q : Shared → Prop}, Inv (X.suite a ((a, oe4) :: (X.pn ++ pins))) [] σ6 H6 s6 → (∀ s7, Inv X pins (σ6.set i none) H6 s7 → Q s7) →
        wpAny (model X.prog X.w) X.A (do bindName X.env n .none; unbindBehindTheSuite X.env n pos') (fun _ s7 => Q s7) X.xe s6 := fun {σ6 H6 Q} S6 hq => gone_ok (S6.unsuite ok) hN hi hln hq
    cases f with
    | next =>
      obtain ⟨σ6, H6, S6, q6⟩ := hsp
      exact end_ S6 fun s7 J7 => ⟨_, _, J7, q6⟩
    | brk =>
      obtain ⟨σ6, H6, S6, q6⟩ := hsp
      exact end_ S6 fun s7 J7 => ⟨_, _, J7, q6⟩
    | cont =>
      obtain ⟨σ6, H6, S6, q6⟩ := hsp
      exact end_ S6 fun s7 J7 => ⟨_, _, J7, q6⟩
    | ret u =>
      obtain ⟨v6, σ6, H6, S6, r6, q6⟩ := hsp
      exact end_ S6 fun s7 J7 => ⟨_, _, _, J7, r6, q6⟩
  · cases f with
    | next =>
      obtain ⟨σ', H', J', q⟩ := hsp
      exact wpAny_execs_nil ⟨σ', H', J'.ofTry ok, q⟩
    | brk =>
      obtain ⟨σ', H', J', q⟩ := hsp
      exact ⟨σ', H', J'.ofTry ok, q⟩
    | cont =>
      obtain ⟨σ', H', J', q⟩ := hsp
      exact ⟨σ', H', J'.ofTry ok, q⟩
    | ret u =>
      obtain ⟨v, σ', H', J', r, q⟩ := hsp
      exact ⟨v, σ', H', J'.ofTry ok, r, q⟩
end
end DD
/-! ### a def that is handed the caught exception, within an except suite -/
namespace DD
open PySem PySem.Spec PyProof.Rows L2
abbrev Tb.at (T : Tb) (p : Pin) : Tb := { T with pin := some p }
mutual
theorem Is.pin {T : Tb} {o : Option Pin} {F : Hp} : ∀ {v : V} (d : D), Is { T with pin := o } F v d ↔ Is T F v d
  | v, .non => by unfold Is; exact Iff.rfl
  | v, .bl b => by unfold Is; exact Iff.rfl
  | v, .int b => by unfold Is; exact Iff.rfl
  | v, .str b => by unfold Is; exact Iff.rfl
  | v, .lst ds => by unfold Is; exact ⟨fun ⟨a, vs, h1, h2, h3⟩ => ⟨a, vs, h1, h2, (IsL.pin ds).mp h3⟩, fun ⟨a, vs, h1, h2, h3⟩ => ⟨a, vs, h1, h2, (IsL.pin ds).mpr h3⟩⟩
  | v, .tup ds => by unfold Is; exact ⟨fun ⟨a, vs, h1, h2, h3⟩ => ⟨a, vs, h1, h2, (IsL.pin ds).mp h3⟩, fun ⟨a, vs, h1, h2, h3⟩ => ⟨a, vs, h1, h2, (IsL.pin ds).mpr h3⟩⟩
  | v, .ins c ds => by unfold Is; exact ⟨fun ⟨a, dx, vs, h1, h2, h3, h4⟩ => ⟨a, dx, vs, h1, h2, h3, (IsL.pin ds).mp h4⟩, fun ⟨a, dx, vs, h1, h2, h3, h4⟩ => ⟨a, dx, vs, h1, h2, h3, (IsL.pin ds).mpr h4⟩⟩
  | v, .scr ns => by unfold Is; exact Iff.rfl
  | v, .dct => by unfold Is; exact Iff.rfl
  | v, .fn n => by unfold Is; exact Iff.rfl
theorem IsL.pin {T : Tb} {o : Option Pin} {F : Hp} : ∀ {vs : List V} (ds : List D), IsL { T with pin := o } F vs ds ↔ IsL T F vs ds
  | vs, [] => by unfold IsL; exact Iff.rfl
  | vs, d :: ds => by unfold IsL; exact ⟨fun ⟨v, r, h1, h2, h3⟩ => ⟨v, r, h1, (Is.pin d).mp h2, (IsL.pin ds).mp h3⟩, fun ⟨v, r, h1, h2, h3⟩ => ⟨v, r, h1, (Is.pin d).mpr h2, (IsL.pin ds).mpr h3⟩⟩
end
/-- room within an except suite, nothing is being shown -/
structure RoomP (k : Nat) (A : Around) : Prop where
  rm : L2H.RoomH k A
  gd : A.guards = some []
theorem RoomP.repr {k : Nat} {A : Around} (r : RoomP k A) : A.units + 64 < cLine := by have := r.rm.un; omega
/-- the pinned exception stands in the context -/
structure PinX (X : Cx) (T : Tb) : Prop where
  ex : ∃ (oe : Obj) (p : Pin) (vs : Array Value), T.pin = some p ∧ (p.a, oe) ∈ X.pn ∧ Zc (.ref (T.ca p.c)) (some p.d) oe ∧ oe.data = .fields vs
abbrev FS1 := Nat → List D → (D → Prop) → Prop
section
variable (P : Program) (w : World) (K : PySem.W.Frag) (mg : Str → Option Value) (base : Heap) (T : Tb)
structure FnZ (k : Nat) (f : Addr) (fd : FuncData) (y : Str) (sp : FS1) : Prop where
  run : ∀ (A : Around) (outer : List Env) (s : Shared) (H : Hp) (args : Args) (Q : VK) (po : Addr × Obj) (F : Hp) (dd : Addr) (c : Nat) (ds : List D) (Qd : D → Prop) (vs : Array Value), RoomP k A → L2H.PinOk outer H s po → Env0 P w K mg base A outer s H → BindsTo s fd args ([y].zip [.ref po.1]) → LeT T F H →
    ExcD T F (.ref (T.ca c)) (some dd) c ds → Zc (.ref (T.ca c)) (some dd) po.2 → po.2.data = .fields vs → sp c ds Qd → (∀ v H' F' d, Grow T (fun _ => False) F H F' H' → Is T F' v d → Qd d → Q v H') →
    codeAny (model P w) A (.call (.ref f) args) (CR C8.CX0 outer P w H s Q C8.E0) s
end
section
variable {P : Program} {w : World} {K : PySem.W.Frag} {mg : Str → Option Value} {base : Heap} {T : Tb}
theorem fn_Z {x qual y : Str} {st : Stmt} {f : Addr} {fd : FuncData} {N : List Str} {k : Nat} {sp : FS1} {wb : WS} {dvs : List V} (Fx : FunX K x qual st dvs f fd) (S : FnScope N [y] (defScope st))
    (hb : ∀ (p : Pin) (cdv : Value) (A : Around) (outer : List Env) (s : Shared) (H : Hp) (po : Addr × Obj), RoomP k (A.deeper (envOfC qual (defScope st) s.heap.objs.size f cdv)) → PinX (L2H.cxH C8.CX0 P w K mg base N qual (defScope st) f cdv A outer s H C8.E0 po) (T.at p) →
      PSs (L2H.cxH C8.CX0 P w K mg base N qual (defScope st) f cdv A outer s H C8.E0 po) (defBody st) (liftS (T.at p) wb))
    (hw : ∀ c ds Qd, sp c ds Qd → wb (endD Qd) (startD N.length [.exc c ds])) : FnZ P w K mg base T (k + 1) f fd y sp := by
  refine ⟨fun A outer s H args Q po F dd c ds Qd dvs' hr hpin e0 hbd hFH hex hz hdt hsp hk => ?_⟩
  obtain ⟨oc, od, dV, kV, doc, pm, an, cdv, ct, osl, rfl, lk, hcd, _⟩ := Fx.ex
  obtain ⟨_, dd', vs, e1, hxd, hlen, hil⟩ := hex
  cases e1
  have KX : K.In s.heap := e0.mod.kin.keeps fun b o e => (e0.bs b o e).1
  have lim : s.heap.NoLimit := e0.mod.nolimit.keeps fun b o e => (e0.bs b o e).1
  have r : Vals [V.ref po.1] [Value.ref po.1] := .cons rfl .nil
  have hkind : ∀ y' ∈ [y].zip [Value.ref po.1], (defScope st).names.lookup y'.1 = some .local ∨ ((defScope st).names.lookup y'.1 = some .cell ∧ ((cellsFrom (s.heap.objs.size + 1) (defScope st).names []).lookup y'.1).isSome = true) := fun ⟨n, v⟩ hy => by
    rcases S.par n (List.of_mem_zip hy).1 with q | q
    · exact .inl q
    · exact .inr ⟨q, PySem.W.cellsFrom_some _ _ _ (.inl q)⟩
  refine codeAny_call_function hr.rm.depth (KX _ _ lk) rfl S.co S.gen rfl (PySem.W.codeRec_of KX hcd) (hbd _ _ _ _ ?_)
  refine wpAny_newFunctionEnv_cells S.kind hkind fun env he s1 x => ?_
  subst he
  refine ⟨lim.keeps x.toInCall.keep, codeAny_func ?_⟩
  have I : Inv (L2H.cxH C8.CX0 P w K mg base N qual (defScope st) f cdv A outer s H C8.E0 po) [] (L2.start N [V.ref po.1]) H s1 := L2H.inv_startH S hpin e0 rfl r x
  have rel : RelA (T.at ⟨po.1, dd, c⟩) F H [V.ref po.1] [.exc c ds] := ⟨⟨⟨po.1, dd, c⟩, vs, rfl, rfl, rfl, hxd, hlen, (IsL.pin ds).mpr hil⟩, True.intro⟩
  have S0 := sim_start (T := T.at ⟨po.1, dd, c⟩) (N := N) hFH rel (by show 0 ≤ 1; omega)
  have grow : ∀ F' δ' σ' H', Sim (T.at ⟨po.1, dd, c⟩) ⟨F, H, bagsOf [V.ref po.1] [.exc c ds], T.tb, []⟩ F' δ' σ' H' → Grow T (fun _ => False) F H F' H' := fun F' δ' σ' H' S' => ⟨S'.base, S'.sub, S'.new, fun b o q _ ht => S'.keep b o q (by
    rintro ⟨i, z, _⟩
    cases i <;> simp at z) ht, fun b z => z.elim, S'.tabs.1⟩
  have hq : liftS (T.at ⟨po.1, dd, c⟩) wb { nx := fun _ H' => Q .non H', rt := Q } (L2.start N [V.ref po.1]) H := by
    refine ⟨_, F, _, endD Qd, S0, hw c ds Qd hsp, fun σ' H' F' δ' S' l' q' => ?_, fun v σ' H' F' δ' sv S' l' r' q' => ?_, fun σ' H' F' δ' S' l' q' => q'.elim, fun σ' H' F' δ' S' l' q' => q'.elim⟩
    · exact hk .non H' F' .non (grow _ _ _ _ S') Is.non q'
    · obtain ⟨F2, d, l2, S2, i2, q2⟩ := r'.wd S' q'
      exact hk v H' F2 d (grow _ _ _ _ S2) ((Is.pin d).mp i2) q2
  refine wpAny_mono (((hb ⟨po.1, dd, c⟩ cdv A outer s H po ⟨hr.rm.deeper _, hr.gd⟩ ⟨po.2, _, _, rfl, List.mem_cons_self, hz, hdt⟩)).run [] s1 _ H _ I hq) (fun fl s' hs => ?_) fun e s' hs => hs
  have fin : ∀ {σ' : L2.St} {H' : Hp} {v : V} {u : Value}, Inv (L2H.cxH C8.CX0 P w K mg base N qual (defScope st) f cdv A outer s H C8.E0 po) [] σ' H' s' → RelV v u → Q v H' → CE outer P w H s Q u s' :=
    fun {σ' H' v u} J rv q => ⟨v, H', J.os, J.bare, J.base, J.hok, rv, q⟩
  cases fl with
  | ret u =>
    obtain ⟨v, σ', H', J, rv, q⟩ := hs
    exact fin J rv q
  | next =>
    obtain ⟨σ', H', J, q⟩ := hs
    exact fin (v := V.non) (u := Value.none) J rfl q
  | brk =>
    obtain ⟨_, _, _, q⟩ := hs
    exact False.elim q
  | cont =>
    obtain ⟨_, _, _, q⟩ := hs
    exact False.elim q
end
/-! ### isinstance(e, c), e.f -/
def wIsX (i : Nat) (cs : Nat → Option Bool) : W := fun δ Q => match δ[i]? with
  | some (some (.exc c _)) => match cs c with
    | some b => Q (.val (.bl b))
    | none => False
  | _ => False
def wXf (i : Nat) (cs : Nat → Option Nat) : W := fun δ Q => match δ[i]? with
  | some (some (.exc c ds)) => match cs c with
    | some j => match ds[j]? with
      | some d => Q (.val d)
      | none => False
    | none => False
  | _ => False
/-- what the classes c say, so that isinstance asks their instances rightly -/
structure IsXOk (T : Tb) (K : PySem.W.Frag) (u : Value) (cs : Nat → Option Bool) : Prop where
  ok : ∀ c b, cs c = some b → ExcC K (T.ca c) ∧ PySem.W.kitOne K (.ref (T.ca c)) u = some b
structure XfOk (T : Tb) (K : PySem.W.Frag) (f : Str) (cs : Nat → Option Nat) : Prop where
  ok : ∀ c j, cs c = some j → XfC K (T.ca c) ∧ PySem.W.findIn K (.ref (T.ca c)) f = some none ∧ (T.fl c)[j]? = some f ∧ (T.fl c).Nodup
section
variable {X : Cx} {T : Tb} {i : Nat} {y : Str} {b : Expr} {p p1 pos : Pos}
theorem instX {oe : Obj} {h : Heap} {a C : Addr} {dd : Addr} {od : Obj} {vs : Array Value} (ha : h.get? a = some oe) (hz : Zc (.ref C) (some dd) oe) (hd : oe.data = .fields vs) (ho : h.get? dd = some od) : PySem.W.InstAt h a oe C (some od) :=
  ⟨ha, hz.1, by unfold PySem.W.notCls; rw [hd] <;> rfl, by rw [hz.2]; exact ho⟩
theorem d_isX {u : Value} {cv : V} {cs : Nat → Option Bool} (PX : PinX X T) (hk : IsXOk T X.K u cs) (hc : ClsV cv u) (hb : PE X b (tC cv)) (hm : X.mg "isinstance" = none) (hN : X.N[i]? = some y := by rfl) (hv : Vis X.env.scope y := by first | exact Or.inl rfl | exact Or.inr (Or.inl rfl) | exact Or.inr (Or.inr rfl))
    (hd : (y == ("__debug__" : Str)) = false := by decide) (hcd : (y == ("__classdict__" : Str)) = false := by decide) (hg : Gl X "isinstance" := by rfl)
    (h1 : starEach (.Name y p1 :: [b]) X.env = (false, eval (.Name y p1) X.env) :: starEach [b] X.env := by rfl) (h2 : starEach (b :: []) X.env = (false, eval b X.env) :: starEach [] X.env := by rfl) (hpl : (backTo pos (starEach [b] X.env)).any (·.1) = false := by rfl) :
    PE X (.Call (.Name "isinstance" p) [.Name y p1, b] [] pos) (lift T (wIsX i cs)) := by
  obtain ⟨oe, pi, vs, hpi, hmem, hz, hdt⟩ := PX.ex
  have C : CallR X (.builtin "isinstance") (fun xs H Q => ∃ bb c dd, xs = [.ref pi.a, cv] ∧ cs pi.c = some bb ∧ H pi.d = some (.xd dd) ∧ c = pi.c ∧ Q (.bl bb) H) := by
    rintro pins s σ H xs us Q I r ⟨bb, c, fs, rfl, hcs, hH, rfl, q⟩
    obtain ⟨hC, he⟩ := hk.ok _ _ hcs
    cases r with
    | cons rx rr =>
      cases rr with
      | cons rt rr =>
        cases rr
        cases rx
        have ec := hc.eq rt
        subst ec
        obtain ⟨hget, _⟩ := I.pin (pi.a, oe) (List.mem_append_left _ hmem)
        obtain ⟨mA, hns, hr⟩ := I.hok pi.d _ hH
        obtain ⟨od, ho, hl⟩ := lookIn_ns hns
        exact PySem.W.kia_one (PySem.W.kitx_exc (by have q := hC.hd; unfold PySem.W.hasDictIn at q; cases z : PySem.W.clsIn X.K (T.ca pi.c) with | none => rw [z] at q; cases q | some _ => rfl) hC.hg hC.hk hC.hs hC.ha hC.hn hC.ht hC.hm) I.kIn (instX hget hz hdt ho) he (fun z => nomatch z) fun tk => ⟨.bl bb, H, I.kept (t' := tk) fun _ _ z => z, rfl, q⟩
  refine PE.weak (pe_callB C hg hm DD.boot_isi (pa_cons (pe_var (pos := p1) hN hv hd hcd) (pa_cons hb pa_nil h2) h1) (by decide) (by decide) h1 hpl) fun σ H Q ⟨e, F, δ, Qd, S, w, k⟩ => ?_
  unfold wIsX at w
  split at w
  · rename_i c ds hi
    split at w
    · rename_i bb hcs
      obtain ⟨v, h1, ⟨p', vs', e1, e2, e3, e4, e5, e6⟩, h3⟩ := S.slot i _ hi
      rw [hpi] at e1; cases e1
      subst e2 e3
      exact ⟨_, h1, bb, _, _, rfl, hcs, S.sub _ _ e4, rfl, k _ _ _ (.val (.bl bb)) S (Le.refl F) (show Is T F (.bl bb) (.bl bb) from Is.bl) w⟩
    · exact w.elim
  · exact w.elim
theorem d_xf {f : Str} {cs : Nat → Option Nat} (PX : PinX X T) (hk : XfOk T X.K f cs) (hN : X.N[i]? = some y := by rfl) (hv : Vis X.env.scope y := by first | exact Or.inl rfl | exact Or.inr (Or.inl rfl) | exact Or.inr (Or.inr rfl))
    (hd : (y == ("__debug__" : Str)) = false := by decide) (hcd : (y == ("__classdict__" : Str)) = false := by decide) (hb : attributeBase (.Name y p1) f X.env (eval (.Name y p1) X.env) = eval (.Name y p1) X.env := by rfl) : PE X (.Attribute (.Name y p1) f pos) (lift T (wXf i cs)) := by
  obtain ⟨oe, pi, vs, hpi, hmem, hz, hdt⟩ := PX.ex
  refine ⟨fun pins s σ H Q I ⟨e, F, δ, Qd, S, w, k⟩ => ?_⟩
  unfold wXf at w
  split at w
  · rename_i c ds hi
    split at w
    · rename_i j hj
      split at w
      · rename_i d hdj
        obtain ⟨v, h1, ⟨p', vs', e1, e2, e3, e4, e5, e6⟩, h3⟩ := S.slot i _ hi
        rw [hpi] at e1; cases e1
        subst e2 e3
        obtain ⟨o1, o2, o3, o4⟩ := hk.ok _ _ hj
        obtain ⟨fv, g1, g2⟩ := e6.get T hdj
        refine attr_of hb (thn ((pe_var (pos := p1) hN hv hd hcd).run pins s σ H (fun x H1 => x = .ref pi.a ∧ H1 = H) I ⟨_, h1, rfl, rfl⟩) fun u s1 hh => ?_)
        obtain ⟨x, H1, I1, rx, ex, eH⟩ := hh
        subst ex eH
        obtain rfl : u = Value.ref pi.a := rx
        obtain ⟨hget, _⟩ := I1.pin (pi.a, oe) (List.mem_append_left _ hmem)
        obtain ⟨mA, hns, hr⟩ := I1.hok pi.d _ (S.sub _ _ e4)
        obtain ⟨od, ho, hl⟩ := lookIn_ns hns
        obtain ⟨u, hu, ru⟩ := RelO.some_of (v := fv) (o := mA f) (by rw [← zip_lookup o4 o3 g1]; exact hr f)
        exact HandSPX.exc_get I1.kIn (instX hget hz hdt ho) o1.ga o1.gg o1.exC (PySem.W.findObj_own o1.hdC o2 rfl (by rw [hl, hu])) (handed_of ru) ⟨fv, _, I1.tok _, ru, k _ _ _ (.val d) S (Le.refl F) g2 w⟩
      · exact w.elim
    · exact w.elim
  · exact w.elim
end
end DD
/-! ### what a lambda returns or raises, told by a def that tries it -/
namespace DD
open PySem PySem.Spec PyProof.Rows L2 LamX
section
variable {X : Cx} {pins : List (Addr × Obj)} {σ : L2.St} {H HZ : Hp} {s s1 : Shared}
/-- the lambda is made: its code object is new, or found in the table -/
theorem lam_make3 {T : List (Addr × Str)} {c P : Addr} {params : Arguments} {body : Expr} {scope : Scope} {pos : Pos} {E : Value → Shared → Prop} {Q : Value → Shared → Prop} (I : Inv X pins σ H s) (TB : TabB X.base X.mg c P) (hcode : X.env.code = .ref c)
    (hm : (P, X.env.qual ++ "<lambda>") ∈ T) (hu : ∀ p ∈ T, p.1 = P → p.2 = X.env.qual ++ "<lambda>") (hT : Tabs T H) (hdef : defaultsOf params X.env = ([], [])) (hfree : ∀ y ∈ scope.names, y.2 = .free → ∃ c, X.env.cells.lookup y.1 = some c)
    (h : ∀ (f c' : Addr) (pm ctv : Value) (H1 : Hp) (s' : Shared), Inv X pins σ H1 s' → (∀ b o, H b = some o → b ≠ P → H1 b = some o) → Tabs T H1 →
      s'.heap.get? f = some (PySem.W.kla_obj "<lambda>" (X.env.qual ++ "<lambda>") params body scope (cloFrom X.env.cells scope.names []) pm c' ctv) → H1 f = none → f ∉ frs X.stack → H1 c' = some (CodeO c' (X.env.qual ++ "<lambda>")) → Q (.ref f) s') :
    wpAny (model X.prog X.w) X.A (eval (.Lambda params body scope pos) X.env) Q E s := by
  obtain ⟨ps, hP, ht, ha⟩ := hT _ hm
  refine PySem.W.kla_eval hdef ?_
  have bP : s.heap.BuiltinsAt X.mg P := TB.bm.keeps I.bk
  have hP' : s.heap.get? P = some { cls := .none, data := .fields ps } := I.hok P _ hP
  have nofr : ∀ f, s.heap.objs.size ≤ f → f ∉ frs X.stack := fun f hf z => by
    rcases List.mem_cons.mp (I.stkSub _ z) with e | e
    · have h1 := I.lt
      rw [← e] at h1
      exact Nat.lt_irrefl _ (Nat.lt_of_lt_of_le h1 hf)
    · exact I.nofs hf e
  cases hc : codeAmong pos ps.toList with
  | none =>
    refine PySem.W.kla_makeFunction (mg := X.mg) (c := c) (P := P) (ps := ps) (closure_ok hfree) I.ok.glob (I.mod.glob.keeps I.bk) hcode (TB.code.keeps I.bk) hP' ht hc TB.gP bP fun c' ctv h' tk hx hge hlt hrec htb => ?_
    obtain ⟨c2, oc, vs, t, e2, hoc, hd, hv⟩ := hrec
    cases e2
    have hsz : s.heap.objs.size ≤ h'.objs.size := Nat.le_trans hge (Nat.le_of_lt hlt)
    have nC : H c' = none := I.hok.fresh hge
    have I1 := inv_table (t' := tk) (more := #[rawInt pos.line, rawInt pos.col, .ref c']) (h' := h'.push (PySem.W.kla_obj "<lambda>" (X.env.qual ++ "<lambda>") params body scope (cloFrom X.env.cells scope.names []) ((X.mg "__name__").getD .none) c' ctv)) I hP
      (fun b o hb e => Heap.get?_push_of_some _ (hx b o hb e)) (Heap.get?_push_of_some _ htb) hge ⟨oc, vs, t, Heap.get?_push_of_some _ hoc, hd, hv⟩
    have hE : ExtN H (upd (upd H P (.tbl (ps ++ #[rawInt pos.line, rawInt pos.col, .ref c']))) c' (CodeO c' (X.env.qual ++ "<lambda>"))) := fun b o e n => by
      rw [upd_ne (ne_of_none e nC), upd_ne (fun z => n ps (Option.some.inj (e.symm.trans (by rw [z]; exact hP))))]
      exact e
    have hE2 : ∀ b o, H b = some o → b ≠ P → upd (upd H P (.tbl (ps ++ #[rawInt pos.line, rawInt pos.col, .ref c']))) c' (CodeO c' (X.env.qual ++ "<lambda>")) b = some o := fun b o e n => by
      rw [upd_ne (ne_of_none e nC), upd_ne n]; exact e
    have eL : (ps ++ #[rawInt pos.line, rawInt pos.col, .ref c']).toList = ps.toList ++ [rawInt pos.line, rawInt pos.col, .ref c'] := by simp
    refine h h'.objs.size c' ((X.mg "__name__").getD .none) ctv _ _ I1 hE2 (fun p hp => ?_) (Heap.get?_push_size _ rfl) ?_ (nofr _ hsz) upd_same
    · by_cases hb : p.1 = P
      · rw [hu p hp hb, hb]
        refine ⟨_, by rw [upd_ne (ne_of_none hP nC), upd_same], by rw [eL]; exact PySem.TriplesOk_snoc _ _ _ _ ht, fun p' cv hcv => ?_⟩
        rw [eL] at hcv
        rcases among_app _ ht hcv with z | z
        · obtain ⟨c0, e1, e2⟩ := ha p' cv z
          exact ⟨c0, e1, hE _ _ e2 codeO_ne⟩
        · exact ⟨c', z, upd_same⟩
      · obtain ⟨ps', a1, a2, a3⟩ := hT p hp
        refine ⟨ps', by rw [upd_ne (ne_of_none a1 nC), upd_ne hb]; exact a1, a2, fun p' cv hcv => ?_⟩
        obtain ⟨c0, e1, e2⟩ := a3 p' cv hcv
        exact ⟨c0, e1, hE _ _ e2 codeO_ne⟩
    · have n1 : h'.objs.size ≠ c' := Nat.ne_of_gt hlt
      have n2 : h'.objs.size ≠ P := Nat.ne_of_gt (Nat.lt_of_lt_of_le (Heap.lt_size hP') hsz)
      rw [upd_ne n1, upd_ne n2]
      exact I.hok.fresh hsz
  | some cv =>
    obtain ⟨c', e, hco⟩ := ha pos cv hc
    subst e
    refine PySem.W.kla_makeFunctionHit (mg := X.mg) (c := c) (P := P) (ps := ps) (closure_ok hfree) I.ok.glob (I.mod.glob.keeps I.bk) hcode (TB.code.keeps I.bk) hP' ht hc bP fun ctv h' tk hx hsz => ?_
    have I1 : Inv X pins σ H { s with heap := h'.push (PySem.W.kla_obj "<lambda>" (X.env.qual ++ "<lambda>") params body scope (cloFrom X.env.cells scope.names []) ((X.mg "__name__").getD .none) c' ctv), toks := tk } := I.kept fun b o e => Heap.get?_push_of_some _ (hx b o e)
    exact h h'.objs.size c' ((X.mg "__name__").getD .none) ctv H _ I1 (fun _ _ e _ => e) hT (Heap.get?_push_size _ rfl) (I.hok.fresh hsz) (nofr _ hsz) hco
/-- x(), in the def that got the lambda: Z is that def's context, entered at s -/
theorem pe_actG {CXg : CXT} {Eg : XK} {Ng : List Str} {qg : Str} {sg : Scope} {g f c' : Addr} {cdg pm ctv : Value} {params : Arguments} {body : Expr} {scope : Scope} {k i : Nat} {a : Str} {pn : List (Addr × Obj)} {xe : Value → Shared → Prop} {W : WX} {E : XK} {tb : TE} {p1 p2 : Pos}
    (I : Inv X pins σ H s) (L : LamS X.env.scope scope) (hf : s.heap.get? f = some (PySem.W.kla_obj "<lambda>" (X.env.qual ++ "<lambda>") params body scope (cloFrom X.env.cells scope.names []) pm c' ctv)) (hfn : H f = none) (hfr : f ∉ frs X.stack)
    (hbind : bindArgs (PySem.W.kla_fn "<lambda>" (X.env.qual ++ "<lambda>") params body scope (cloFrom X.env.cells scope.names []) pm (.ref c') ctv) ⟨[], []⟩ = pure [])
    (tk : Takes ((cxOf CXg X.prog X.w X.K X.mg X.base Ng qg sg g cdg X.A X.stack s H Eg).tr pn xe) W) (hW : ∀ cls d σ' H', E cls d H' → W cls d σ' H') (hr : RoomG (k + 1) (X.A.deeper (envOfC qg sg s.heap.objs.size g cdg)))
    (hbody : ∀ (A : Around) (outer : List Env) (s : Shared) (H : Hp), RoomG k (A.deeper (lamEnv X scope s.heap.objs.size f c')) → PE (lamCx X A outer s H E scope f c') body tb)
    (hN : Ng[i]? = some a) (hv : Vis sg a) (hd : (a == ("__debug__" : Str)) = false := by decide) (hcd : (a == ("__classdict__" : Str)) = false := by decide) :
    PE ((cxOf CXg X.prog X.w X.K X.mg X.base Ng qg sg g cdg X.A X.stack s H Eg).tr pn xe) (.Call (.Name a p1) [] [] p2)
      (fun σZ HZ Q => σZ[i]? = some (some (.ref f)) ∧ HZ c' = some (CodeO c' (X.env.qual ++ "<lambda>")) ∧ tb σ HZ Q) := by
  refine ⟨fun pinsZ sZ σZ HZ Q IZ h => ?_⟩
  obtain ⟨hs, hc, ht⟩ := h
  refine wpAny_Call_Name_kw (thn ((pe_var (pos := p1) (i := i) hN hv hd hcd).run pinsZ sZ σZ HZ (fun v H1 => v = .ref f ∧ H1 = HZ) IZ ⟨.ref f, hs, rfl, rfl⟩) fun u s1 ⟨v, H1, I1, r1, q1⟩ => ?_)
  obtain ⟨ev, eH⟩ := q1
  subst ev
  rw [eH] at I1
  obtain rfl : u = Value.ref f := r1
  have of1 : s1.heap.get? f = some (PySem.W.kla_obj "<lambda>" (X.env.qual ++ "<lambda>") params body scope (cloFrom X.env.cells scope.names []) pm c' ctv) := I1.base.keep f _ hf hfn hfr (fun z => nomatch (show f ∈ ([] : List Addr) from z))
  refine PySem.W.callWith_F0 ⟨_, _, _, _, of1⟩ ?_
  have un : Un (frs X.stack) [] H HZ s.heap s1.heap := I1.base
  obtain ⟨⟨oc, vs, t, hoc, hdc, hvc⟩, _, _⟩ := I1.hok c' _ hc
  have rc : codeAny (model X.prog X.w) (X.A.deeper (envOfC qg sg s.heap.objs.size g cdg)) (.call (.ref f) ⟨[], []⟩) (CR (L2.CX X.prog X.w) (envOfC qg sg s.heap.objs.size g cdg :: X.stack) X.prog X.w HZ s1 Q E) s1 := by
    refine PySem.W.kla_callFunE hr.rm.depth of1 rfl L.co L.gen rfl ⟨c', oc, vs, t, rfl, hoc, hdc, hvc⟩ ?_
    rw [hbind]
    refine wpAny_pure (wpAny_newFunctionEnv (fun y hy => (L.own y hy).2) (fun y hy => absurd hy (by simp)) (fun h₁ hns hsb => ⟨I1.nolimit.fresh _ hsb, ?_⟩) L.kind)
    show codeAny _ _ (.expr body (lamEnv X scope s1.heap.objs.size f c')) _ _
    have kp : ∀ b o, s1.heap.get? b = some o → h₁.get? b = some o := fun b o e => hsb.extBut b o (Nat.ne_of_lt (Heap.lt_size e)) (Heap.get?_push_of_some _ e)
    have J : Inv (lamCx X (X.A.deeper (envOfC qg sg s.heap.objs.size g cdg)) (envOfC qg sg s.heap.objs.size g cdg :: X.stack) s1 HZ E scope f c') [] σ HZ { s1 with heap := h₁, toks := s1.toks + ([] : List (Str × Value)).length } :=
      lam_start2 I L I1.env0 hr.rm.hd un hns kp
    refine PySem.W.kla_codeExpr (wpAny_mono ((hbody _ _ s1 HZ ⟨hr.rm.deeper _, hr.gd⟩).run [] _ _ HZ Q J ht) (fun v s' hq => ?_) fun e s' hq => hq)
    obtain ⟨w', H', J', rv, q⟩ := hq
    exact ⟨w', H', J'.os, J'.bare, J'.base, J'.hok, rv, q⟩
  have hx : Passes (L2.CX X.prog X.w) ((cxOf CXg X.prog X.w X.K X.mg X.base Ng qg sg g cdg X.A X.stack s H Eg).tr pn xe) E := passes_call tk hW
  refine wpAny_call (codeAny_mono rc fun r s' hq => ?_)
  cases r with
  | error e => exact hx pinsZ σZ HZ s1 e s' I1 hq
  | ok fl =>
    cases fl with
    | ret u => exact I1.after hq
    | next => exact False.elim hq
    | brk => exact False.elim hq
    | cont => exact False.elim hq
end
/-! ### the handler's call -/
/-- what a handler's def makes of the exception -/
def TZ (T : Tb) (sp : FS1) (cls : Value) (d : Option Addr) (H : Hp) (Q : VK) : Prop := ∃ (F : Hp) (dd : Addr) (c : Nat) (ds : List D) (Qd : D → Prop), cls = .ref (T.ca c) ∧ d = some dd ∧ LeT T F H ∧ ExcD T F cls d c ds ∧ sp c ds Qd ∧
  ∀ v H' F' d', Grow T (fun _ => False) F H F' H' → Is T F' v d' → Qd d' → Q v H'
theorem call_Z {X : Cx} {T : Tb} {k : Nat} {f : Addr} {fd : FuncData} {y : Str} {sp : FS1} {a : Addr} {oe : Obj} {cls : Value} {d : Option Addr} {pn : List (Addr × Obj)} (G : FnZ X.prog X.w X.K X.mg X.base T k f fd y sp) (hb : Binds X.K fd [y] [])
    (hr : RoomP k (X.A.mark (some (.ref a)))) (hz : Zc cls d oe) (hdt : ∃ vs, oe.data = .fields vs) : CallR (X.suite a ((a, oe) :: pn)) (.ref f) (fun vs H Q => vs = [.ref a] ∧ TZ T sp cls d H Q) := by
  rintro pins s σ H vs us Q I rv ⟨rfl, F, dd, c, ds, Qd, rfl, rfl, h1, h2, h3, h4⟩
  obtain ⟨vs', hd⟩ := hdt
  obtain ⟨u, rfl, ru⟩ := vals1 rv
  obtain rfl : u = Value.ref a := ru
  have b := hb s [.ref a] I.kIn rfl
  rw [List.append_nil] at b
  have P1 := I.pin (a, oe) (List.mem_append_left _ List.mem_cons_self)
  have hpin : L2H.PinOk (X.suite a ((a, oe) :: pn)).stack H s (a, oe) := ⟨P1.1, P1.2.1, fun hm => (List.mem_cons.mp (I.stkSub a hm)).elim P1.2.2.1 P1.2.2.2.1, P1.2.2.2.2⟩
  refine wpAny_call (codeAny_mono (G.run _ _ s H ⟨[.ref a], []⟩ Q (a, oe) F dd c ds Qd vs' hr hpin I.env0 b h1 h2 hz hd h3 h4) fun r s' hq => ?_)
  cases r with
  | error e => exact (show False from hq).elim
  | ok fl =>
    cases fl with
    | ret u => exact I.after hq
    | next => exact False.elim hq
    | brk => exact False.elim hq
    | cont => exact False.elim hq
/-! ### the answering def -/
/-- what the answering def makes of the lambda's reading -/
def TTans (T : Tb) (sp : FS1) (tl : XK → Hp → VK → Prop) (H : Hp) (Q : VK) : Prop := tl (fun cls d H' => TZ T sp cls d H' Q) H fun v H' => ∀ a, H' a = none → Q (.ref a) (upd H' a (.lst [.str "returned", v]))
/-- the answering def, as the printer uses it: whatever lambda it is handed -/
structure AnsC (P : Program) (w : World) (K : PySem.W.Frag) (mg : Str → Option Value) (base : Heap) (T : Tb) (k : Nat) (x : Str) (sp : FS1) : Prop where
  ex : ∃ (g : Addr) (fd : FuncData) (cdv : Value) (sg : Scope) (bg : List Stmt) (Ng : List Str) (a : Str), (∃ (oc : Value) (od : Option Addr) (dV kV doc pm : Value) (an : Option Addr) (ct : Value) (osl : Array (Option Value)) (pg : Arguments), fd = PySem.W.fnOf x x pg bg sg dV kV doc pm an cdv ct ∧ K.lookup g = some ⟨oc, od, .func fd, osl⟩ ∧ PySem.W.codeIn K cdv x = true) ∧ mg x = some (.ref g) ∧ PySem.W.keepIn K (.ref g) = true ∧ Binds K fd [a] [] ∧ FnScope Ng [a] sg ∧ Ng[0]? = some a ∧ Vis sg a ∧ (a == ("__debug__" : Str)) = false ∧ (a == ("__classdict__" : Str)) = false ∧
    ∀ (A : Around) (outer : List Env) (f c' : Addr) (q : Str) (s : Shared) (H : Hp) (Q : VK) (tl : XK → Hp → VK → Prop), RoomG (k + 1) (A.deeper (envOfC x sg s.heap.objs.size g cdv)) →
      (∀ (W : WX) (pn : List (Addr × Obj)) (xe : Value → Shared → Prop) (E : XK) (p1 p2 : Pos), Takes ((cxOf C8.CX0 P w K mg base Ng x sg g cdv A outer s H C8.E0).tr pn xe) W → (∀ cls d σ' H', E cls d H' → W cls d σ' H') →
        PE ((cxOf C8.CX0 P w K mg base Ng x sg g cdv A outer s H C8.E0).tr pn xe) (.Call (.Name a p1) [] [] p2) (fun σZ HZ Q => σZ[0]? = some (some (.ref f)) ∧ HZ c' = some (CodeO c' q) ∧ tl E HZ Q)) →
      H c' = some (CodeO c' q) → TTans T sp tl H Q →
      ∃ t, PSs (cxOf C8.CX0 P w K mg base Ng x sg g cdv A outer s H C8.E0).nox bg t ∧ t { nx := fun _ H' => Q .non H', rt := Q } (L2.start Ng [.ref f]) H
section
variable {P : Program} {w : World} {K : PySem.W.Frag} {mg : Str → Option Value} {base : Heap} {T : Tb}
theorem ans_mk {x a got e so x1 x2 x3 : Str} {st : Stmt} {g fz : Addr} {fd fdz : FuncData} {N : List Str} {k kk ie : Nat} {y : Str} {sp : FS1} {c1 c2 c3 : Value} {p1 p2 p3 p4 p5 p6 p7 p8 p9 p10 p11 p12 p13 p14 p15 p16 p17 p18 : Pos} {j : Nat}
    (Fx : FunX K x x st [] g fd) (S : FnScope N [a] (defScope st)) (hm : mg x = some (.ref g)) (hbi : Binds K fd [a] [])
    (hbd : defBody st = [.Try [.Assign [.Name got p1] (.Call (.Name a p2) [] [] p3) p4] [.ExceptHandler (some (.Tuple [.Name x1 p5, .Name x2 p6, .Name x3 p7] kk p8)) (some e) [.Return (some (.Call (.Name so p9) [.Name e p10] [] p11)) p12] p13] [] [] p14,
      .Return (some (.List [.Constant (.str "returned") j p15, .Name got p16] p17)) p18])
    (hN : N = [a, got, e]) (va : (defScope st).names.lookup a = some .local) (vg : (defScope st).names.lookup got = some .local) (ve : (defScope st).names.lookup e = some .local)
    (n1 : (defScope st).names.lookup x1 = some .globalImplicit) (n2 : (defScope st).names.lookup x2 = some .globalImplicit) (n3 : (defScope st).names.lookup x3 = some .globalImplicit) (n4 : (defScope st).names.lookup so = some .globalImplicit)
    (m1 : mg x1 = some c1) (m2 : mg x2 = some c2) (m3 : mg x3 = some c3) (Gz : FnZ P w K mg base T k fz fdz y sp) (hz : mg so = some (.ref fz)) (hkz : PySem.W.keepIn K (.ref fz) = true) (hbz : Binds K fdz [y] [])
    (hcs : ∀ c ds Qd, sp c ds Qd → PySem.W.exmAny K (.ref (T.ca c)) [c1, c2, c3] = some true)
    (da : (a == ("__debug__" : Str)) = false ∧ (a == ("__classdict__" : Str)) = false) (dg : (got == ("__debug__" : Str)) = false ∧ (got == ("__classdict__" : Str)) = false) (de : (e == ("__debug__" : Str)) = false ∧ (e == ("__classdict__" : Str)) = false)
    (dx : (x1 == ("__debug__" : Str)) = false ∧ (x2 == ("__debug__" : Str)) = false ∧ (x3 == ("__debug__" : Str)) = false ∧ (so == ("__debug__" : Str)) = false) : AnsC P w K mg base T k x sp := by
  obtain ⟨oc, od, dV, kV, doc, pm, an, cdv, ct, osl, rfl, lk, hcd, _⟩ := Fx.ex
  refine ⟨g, _, cdv, defScope st, defBody st, N, a, ⟨oc, od, dV, kV, doc, pm, an, ct, osl, defArgs st, rfl, lk, hcd⟩, hm, Fx.kp, hbi, S, by rw [hN]; rfl, .inl va, da.1, da.2, ?_⟩
  intro A outer f c' q s H Q tl hr act hc h
  rw [hbd]
  have hnd : N.Nodup := S.nd
  let Z : Cx := (cxOf C8.CX0 P w K mg base N x (defScope st) g cdv A outer s H C8.E0).nox
  have i0 : Z.N[0]? = some a := by show N[0]? = _; rw [hN]; rfl
  have i1 : Z.N[1]? = some got := by show N[1]? = _; rw [hN]; rfl
  have i2 : Z.N[2]? = some e := by show N[2]? = _; rw [hN]; rfl
  have try_ := ps_try_as3 (X := Z) (i := 2) (n := e) (body := [.Assign [.Name got p1] (.Call (.Name a p2) [] [] p3) p4]) (b₀ := .Return (some (.Call (.Name so p9) [.Name e p10] [] p11)) p12) (suite := []) (x1 := x1) (x2 := x2) (x3 := x3) (c1 := c1) (c2 := c2) (c3 := c3)
    (p1 := p5) (p2 := p6) (p3 := p7) (tpos := p8) (kk := kk) (pos' := p13) (pos := p14)
    (tb := fun W D σ H => ∃ Ech : XK, (∀ cls d σ' H', Ech cls d H' → W cls d σ' H') ∧ σ[0]? = some (some (.ref f)) ∧ H c' = some (CodeO c' q) ∧ tl Ech H fun v H' => gName 1 v σ H' D.nx)
    (ts := fun a' cls d D σ H => σ[2]? = some (some (.ref a')) ∧ TZ T sp cls d H D.rt)
    rfl rfl hnd i2 ve ⟨n1, dx.1, .inl m1⟩ ⟨n2, dx.2.1, .inl m2⟩ ⟨n3, dx.2.2.1, .inl m3⟩
    (fun W pn xe tk _ => ⟨fun pins s' σ H' D I h' => by
      obtain ⟨Ech, hW, h1, h2, h3⟩ := h'
      have hp := act W pn xe Ech p2 p3 tk hW
      have hq := pss_one (ps_set (X := Z.tr pn xe) (i := 1) (x := got) (pos := p4) (pos' := p1) hnd i1 (.inl vg) hp (by rfl) (.inr vg))
      exact hq.run pins s' σ H' D I ⟨h1, h2, h3⟩⟩)
    (fun a' oe cls d pn hzc hdt => pss_one (PS.weak (ps_ret (pe_callR (X := Z.suite a' ((a', oe) :: pn)) (es := []) (call_Z Gz hbz ⟨⟨(L2H.roomH_of (hr.rm.mono (Nat.le_succ k))).dp, (L2H.roomH_of (hr.rm.mono (Nat.le_succ k))).un⟩, hr.gd⟩ hzc hdt) hz hkz (pa_cons (pe_var (i := 2) i2 (.inl ve) de.1 de.2) pa_nil (by rfl)) n4 dx.2.2.2 (by rfl) (by rfl))) fun D σ H ⟨h1, h2⟩ => ⟨_, h1, rfl, h2⟩))
  refine ⟨_, pss_cons try_ (pss_one (ps_ret (pe_lst (pa_cons pe_str (pa_cons (pe_var (i := 1) i1 (.inl vg) dg.1 dg.2) pa_nil (by rfl)) (by rfl))))), ?_⟩
  have l0 : (L2.start N [V.ref f])[0]? = some (some (V.ref f)) := by rw [hN]; rfl
  refine ⟨fun cls d H' => TZ T sp cls d H' Q, fun cls d σ' H' hz' => ⟨?_, fun a' na hl => ?_⟩, l0, hc, ?_⟩
  · obtain ⟨F, dd, c, ds, Qd, rfl, _, _, _, hsp, _⟩ := hz'
    exact hcs c ds Qd hsp
  · have hl3 : 2 < σ'.length := by rw [hl]; show 2 < N.length; rw [hN]; exact Nat.lt_succ_self 2
    exact ⟨by rw [List.getElem?_set_self hl3], hz'⟩
  · refine (congrArg (tl _ H) (funext fun v => funext fun H' => propext ?_)).mpr h
    have hs : ((L2.start N [V.ref f]).set 1 (some v))[1]? = some (some v) := by rw [hN]; rfl
    constructor
    · rintro ⟨v', e1, _, z⟩ p hp
      rw [hs] at e1; cases e1
      exact z p hp
    · intro z
      exact ⟨v, hs, (by size_fits), z⟩
end
/-! ### THE RULE: x(lambda: body) -/
def valD (δ : DEnv) : DEnv := δ.map fun o => match o with
  | some (.val d) => some (.val d)
  | _ => none
theorem valD_get {δ : DEnv} {i : Nat} {sv : SV} (h : (valD δ)[i]? = some (some sv)) : ∃ d, sv = .val d ∧ δ[i]? = some (some (.val d)) := by
  unfold valD at h
  rw [List.getElem?_map] at h
  cases q : δ[i]? with
  | none => rw [q] at h; cases h
  | some o =>
    rw [q] at h
    cases o with
    | none => cases h
    | some sv' => cases sv' <;> first | (cases h; exact ⟨_, rfl, rfl⟩) | cases h
def wAns (wb : EK → W) (sp : FS1) : W := fun δ Q => wb (fun c ds => sp c ds fun d => Q (.val d)) (valD δ) fun x => wd x fun d => Q (.val (.lst [.str "returned", d]))
section
variable {X : Cx} {T : Tb} {e : En} {F F' H H' : Hp} {δ : DEnv} {σ : L2.St}
theorem Sim.vals (S : Sim T e F δ σ H) : Sim T ⟨F, H, fun _ => False, T.tb, []⟩ F (valD δ) σ H := by
  refine ⟨by unfold valD; rw [List.length_map]; exact S.len, S.sub, Le.refl F, fun b o h => .inl h, fun b o h _ _ => h, fun b h => h.elim, fun b h => tabAt S.tabs.1 h, fun b h => h.elim, ⟨S.tabs.1, fun b h => ⟨h, S.fnTab h, tabAt S.tabs.1 h⟩⟩, fun i sv h => ?_, fun i j si sj v h1 _ v1 _ _ _ => ?_⟩
  · obtain ⟨d, rfl, h1⟩ := valD_get h
    obtain ⟨v, e1, e2, _⟩ := S.slot i _ h1
    exact ⟨v, e1, e2, trivial⟩
  · obtain ⟨d, rfl, _⟩ := valD_get h1
    cases v1
/-- the caller, after what began so -/
theorem Sim.unvals {δ' : DEnv} {σ' : L2.St} (S : Sim T e F δ σ H) (S' : Sim T ⟨F, H, fun _ => False, T.tb, []⟩ F' δ' σ' H') : Sim T e F' δ σ H' :=
  S.grow (fun _ => False) (fun _ h => h.elim) S'.base S'.sub S'.new (fun b o h _ ht => S'.keep b o h (fun z => z) ht) (fun _ h => h.elim) S'.tabs.1
/-- the caller, after a table has grown -/
theorem Sim.tabled {H1 : Hp} {P : Addr} (S : Sim T e F δ σ H) (hP : T.tb P) (k : ∀ b o, H b = some o → b ≠ P → H1 b = some o) (t : LamX.Tabs T.tz H1) : Sim T e F δ σ H1 :=
  S.grow (fun _ => False) (fun _ h => h.elim) (Le.refl F) (fun b o h => k b o (S.sub b o h) fun z => by rw [z, S.fnTab hP] at h; cases h) (fun b o h => .inl h) (fun b o h _ ht => k b o h fun z => ht (z ▸ hP)) (fun _ h => h.elim) t
/-- the lambda's body -/
def tBody (T : Tb) (wb : EK → W) (E : XK) : TE := fun σ H Q => ∃ e0 Ed, (∀ cls d H', ED T e0 Ed cls d H' → E cls d H') ∧ liftX T e0 (wb Ed) σ H Q
theorem takes_lam {A : Around} {outer : List Env} {s : Shared} {E : XK} {scope : Scope} {f c' : Addr} : Takes (lamCx X A outer s H E scope f c') (fun cls d _ H => E cls d H) := takes_of rfl rfl rfl rfl
theorem d_ans {x : Str} {c P : Addr} {k : Nat} {sp : FS1} {params : Arguments} {body : Expr} {scope : Scope} {wb : EK → W} {p lpos pos : Pos} (C : AnsC X.prog X.w X.K X.mg X.base T k x sp) (TB : TabB X.base X.mg c P) (hcode : X.env.code = .ref c)
    (hmT : (P, X.env.qual ++ "<lambda>") ∈ T.tz) (hu : ∀ p ∈ T.tz, p.1 = P → p.2 = X.env.qual ++ "<lambda>") (hr : RoomG (k + 2) X.A) (L : LamS X.env.scope scope) 
    (hbody : ∀ (A : Around) (outer : List Env) (s : Shared) (H : Hp) (E : XK) (f c' : Addr) (e0 : En) (Ed : EK), RoomG k (A.deeper (lamEnv X scope s.heap.objs.size f c')) → Takes (lamCx X A outer s H E scope f c') (WD T e0 Ed) → PE (lamCx X A outer s H E scope f c') body (liftX T e0 (wb Ed)))
    (hg : Gl X x := by rfl) (hdef : defaultsOf params X.env = ([], []) := by rfl)
    (hbind : ∀ (q : Str) (cl : List (Str × Addr)) (pm cv ctv : Value), bindArgs (PySem.W.kla_fn "<lambda>" q params body scope cl pm cv ctv) ⟨[], []⟩ = pure [] := by intros; rfl)
    (hdb : (x == ("__debug__" : Str)) = false := by decide) : PE X (.Call (.Name x p) [.Lambda params body scope lpos] [] pos) (lift T (wAns wb sp)) := by
  refine ⟨fun pins s σ H Q I ⟨e, F, δ, Qd, S, w, kk⟩ => ?_⟩
  obtain ⟨g, fd, cdv, sg, bg, Ng, a, ⟨oc, od, dV, kV, doc, pm, an, ct, osl, pg, rfl, lk, hcg⟩, hm, hk, hb, Sg, hNg, hva, hd, hcd, hG⟩ := C.ex
  refine wpAny_Call_Name_kw (ld_glob I hg hm ?_ hdb)
  refine PySem.W.callWith_K (h₀ := X.base) I.ok.mod.kin hk ?_ (by rfl) (by rfl)
  show wpAny _ _ (spliced ((false, eval (.Lambda params body scope lpos) X.env) :: backTo pos (starEach [] X.env))) _ _ s
  refine Calls.spliced_cons (lam_make3 I TB hcode hmT hu S.tabs.1 hdef (L.has I.ok) fun f c' pm' ctv H1 s' I1 eN T1 hf hfn hfr hco => ?_)
  refine Calls.spliced_nil ⟨I1.kIn, ?_⟩
  have S1 : Sim T e F δ σ H1 := S.tabled ⟨_, hmT, rfl⟩ eN T1
  have rc : codeAny (model X.prog X.w) X.A (.call (.ref g) ⟨[.ref f], []⟩) (CR C8.CX0 X.stack X.prog X.w H1 s' Q C8.E0) s' := by
    refine run_ofS (N := Ng) (ps := [a]) (us := [.ref f]) (vs := [.ref f]) lk hcg Sg hr.rm I1.env0 (hb s' [.ref f] I1.kIn rfl) (.cons rfl .nil) rfl fun hr' => ?_
    have tt : TTans T sp (fun E H' Q' => tBody T wb E σ H' Q') H1 Q := by
      refine ⟨⟨F, H1, fun _ => False, T.tb, []⟩, fun c ds => sp c ds fun d => Qd (.val d), ?_, F, valD δ, fun x => wd x fun d => Qd (.val (.lst [.str "returned", d])), S1.vals, w, ?_⟩
      · rintro cls d H' ⟨F', δ', σ', c2, ds, S', hx, q'⟩
        obtain ⟨rfl, dd, vs, rfl, x1, x2, x3⟩ := id hx
        refine ⟨F', dd, c2, ds, _, rfl, rfl, S'.subT, hx, q', fun v H'' F'' d' g i' q'' => ?_⟩
        exact kk v H'' F'' (.val d') ((S1.unvals S').grow (fun _ => False) (fun _ h => h.elim) g.le g.sub g.new g.keep g.bags g.tabs) (S'.base.trans g.le) i' q''
      · intro v H' F' sv S' l' r' q' a ha
        obtain ⟨F2, d, l2, S2, i2, q2⟩ := r'.wd S' q'
        have S3 := S1.unvals S2
        exact kk _ _ (upd F2 a (.lst [.str "returned", v])) (.val (.lst [.str "returned", d])) (S3.laidK ha) (S2.base.trans (le_upd (S3.fnone ha)))
          (by
            show Is T _ _ (.lst _)
            unfold Is
            exact ⟨a, _, rfl, upd_same, IsL.cons T Is.str (IsL.one T (Is.mono T (le_upd (S3.fnone ha)) d i2))⟩) q2
    obtain ⟨t', ht', hq'⟩ := hG X.A X.stack f c' _ s' H1 Q (fun E H' Q' => tBody T wb E σ H' Q') ⟨hr', hr.gd⟩ (fun W pn xe E p1 p2 tk hW => pe_actG (i := 0) I1 L hf hfn hfr (hbind _ _ _ _ _) tk hW ⟨hr', hr.gd⟩ (fun A outer s H hr2 => ⟨fun pins2 s2 σ2 H2 Q2 I2 ⟨e0, Ed, hE, hl⟩ => (hbody A outer s H E f c' e0 Ed hr2 (takes_lam.imp fun cls d σ H' z => hE cls d H' z)).run pins2 s2 σ2 H2 Q2 I2 hl⟩) hNg hva hd hcd) hco tt
    exact ⟨t', ht'.nox, hq'⟩
  refine wpAny_call (codeAny_mono rc fun r s2 hq => ?_)
  cases r with
  | error e => exact (show False from hq).elim
  | ok fl =>
    cases fl with
    | ret u => exact I1.after hq
    | next => exact False.elim hq
    | brk => exact False.elim hq
    | cont => exact False.elim hq
end
end DD
namespace L2
open PySem PySem.Spec PyProof.Rows
/-! ### list.count, flat items -/
section
variable {X : Cx}
def rCnt (K : PySem.W.Frag) : V → List V → Hp → VK → Prop := fun x xs H Q => ∃ (a : Addr) (ys : List V) (y : V), x = V.ref a ∧ xs = [y] ∧ SqL K H a ys ∧ flatV y = true ∧ ys.all flatV = true ∧ Q (.int (ys.countP fun z => eqV z y : Nat)) H
theorem countP_vals {y : V} : ∀ {ys : List V} {us : List Value}, Vals ys us → ys.all flatV = true → us.countP (eqU y) = ys.countP fun z => eqV z y
  | _, _, .nil, _ => rfl
  | _, _, .cons r rs, h => by
    rw [List.all_cons, Bool.and_eq_true] at h
    rw [List.countP_cons, List.countP_cons, countP_vals rs h.2, eqU_of r h.1]
theorem mt_countF : MtR X "list.count" (rCnt X.K) := by
  intro pins s σ H x xs v us Q I rx rxs h
  obtain ⟨a, ys, y, rfl, rfl, hs, fy, fys, q⟩ := h
  cases rx
  cases rxs with
  | cons ry rt =>
    rename_i uy ut
    cases rt
    obtain ⟨its, rv, ⟨⟨cls, dd, data, sl⟩, n, ho, hc, hdn, hd⟩, hlen⟩ := I.list hs
    simp only at hc hd
    subst hc hd
    refine call_meets PySem.F.slot_list_count ⟨_, ho, rfl⟩ PySem.F.entry_list_count (PySem.F.args_list_count_2 _ _)
      (SeqAt.list_countAt a its.toArray n dd sl uy (eqU y)) ⟨ho, fun u' hu' => mem_eqAt ry fy rv fys u' (by simpa using hu'), ?_⟩
    have ec : its.toArray.toList.countP (eqU y) = ys.countP fun z => eqV z y := countP_vals rv fys
    refine ⟨.int (ys.countP fun z => eqV z y : Nat), H, I.tok _, ⟨s.toks, ?_⟩, q⟩
    show Value.int ((its.toArray.toList.countP (eqU y) : Nat) : Int) s.toks = Value.int _ s.toks
    rw [ec]
end
end L2
namespace DD
open PySem PySem.Spec PyProof.Rows L2 LamX
def blsD : List D → Option (List Bool)
  | [] => some []
  | .bl b :: r => (blsD r).map (b :: ·)
  | _ :: _ => none
def countD : List D → PNf := fun ys ds Q => match ds with
  | [.bl b] => match blsD ys with
    | some bs => Q (.val (.int (bs.count b : Nat)))
    | none => False
  | _ => False
theorem blsD_vals {T : Tb} {F : Hp} {b : Bool} : ∀ {vs : List V} {ys : List D} {bs : List Bool}, IsL T F vs ys → blsD ys = some bs → vs.all flatV = true ∧ (vs.countP fun z => eqV z (.bl b)) = bs.count b
  | vs, [], bs, i, h => by
    unfold IsL at i; subst i
    cases h; exact ⟨rfl, rfl⟩
  | vs, y :: ys, bs, i, h => by
    unfold IsL at i
    obtain ⟨v, r, rfl, i1, i2⟩ := i
    cases y <;> try (unfold blsD at h; cases h; done)
    rename_i c
    cases i1.blE
    unfold blsD at h
    cases q : blsD ys with
    | none => rw [q] at h; cases h
    | some bs' =>
      rw [q] at h; cases h
      obtain ⟨h1, h2⟩ := blsD_vals (b := b) i2 q
      refine ⟨by rw [List.all_cons, h1]; rfl, ?_⟩
      rw [List.countP_cons, List.count_cons, h2]
      cases c <;> cases b <;> rfl
theorem p_count {T : Tb} {K : PySem.W.Frag} : PL1 T (rCnt K) countD := by
  intro e F H δ σ p vs ys xs ds Qd Q S hp iy i h k
  unfold countD at h
  split at h
  · rename_i b
    obtain ⟨v, rfl, h1⟩ := i.oneE
    cases h1.blE
    split at h
    · rename_i bs hb
      obtain ⟨g1, g2⟩ := blsD_vals (b := b) iy hb
      exact ⟨p, vs, .bl b, rfl, rfl, SqL.of (S.sub _ _ hp), rfl, g1, by rw [g2]; exact kint S k h⟩
    · exact h.elim
  · exact h.elim
/-! ### a def whose code object is known -/
section
variable {P : Program} {w : World} {K : PySem.W.Frag} {mg : Str → Option Value} {base : Heap} {T : Tb} {CX : CXT} {k : Nat} {f : Addr} {fd : FuncData} {ps : List Str} {sp : Sp}
theorem fnG_ofC {x qual : Str} {st : Stmt} {N : List Str} {dvs : List V} {cdv : Value} (F : FunX K x qual st dvs f fd) (hcd0 : fd.code = cdv) (S : FnScope N ps (defScope st)) (len : ∀ vs H Q E, sp vs H Q E → vs.length = ps.length)
    (hb : ∀ (A : Around) (outer : List Env) (s : Shared) (H : Hp) (vs : List V) (Q : VK) (E : XK), RoomG k (A.deeper (envOfC qual (defScope st) s.heap.objs.size f cdv)) → sp vs H Q E →
      ∃ t, PSs (cxOf CX P w K mg base N qual (defScope st) f cdv A outer s H E) (defBody st) t ∧ t { nx := fun _ H' => Q .non H', rt := Q } (L2.start N vs) H) : FnG P w K mg base CX (k + 1) f fd ps sp := by
  obtain ⟨oc, od, dV, kV, doc, pm, an, cdv', ct, osl, rfl, lk, hcd, hdf⟩ := F.ex
  obtain rfl : cdv' = cdv := hcd0
  refine ⟨len, fun A outer s H args us vs Q E hr e0 bd rv h0 => ?_⟩
  have n0 := len vs H Q E h0
  have kin : K.In s.heap := e0.mod.kin.keeps fun b o z => (e0.bs b o z).1
  have nol : s.heap.NoLimit := e0.mod.nolimit.keeps fun b o z => (e0.bs b o z).1
  have kinds : ∀ y ∈ ps.zip us, (defScope st).names.lookup y.1 = some .local ∨ ((defScope st).names.lookup y.1 = some .cell ∧ ((cellsFrom (s.heap.objs.size + 1) (defScope st).names []).lookup y.1).isSome = true) := by
    rintro ⟨n, v⟩ hy
    cases S.par n (List.of_mem_zip hy).1 with
    | inl z => exact .inl z
    | inr z => exact .inr ⟨z, PySem.W.cellsFrom_some _ _ _ (.inl z)⟩
  refine codeAny_call_function hr.rm.depth (kin _ _ lk) rfl S.co S.gen rfl (PySem.W.codeRec_of kin hcd) (bd _ _ _ _ ?_)
  refine wpAny_newFunctionEnv_cells S.kind kinds ?_
  rintro env rfl s1 hc
  refine ⟨nol.keeps hc.toInCall.keep, codeAny_func ?_⟩
  obtain ⟨t, pt, qt⟩ := hb A outer s H vs Q E ⟨hr.rm.deeper _, hr.gd⟩ h0
  have I0 := inv_start (CX := CX) (E := E) S hr.rm.hd e0 n0 rv hc
  refine wpAny_mono (pt.run [] s1 _ H _ I0 qt) (fun fl s' h => ?_) fun _ _ h => h
  have fe := flow_end (CX := CX) (E := E) rfl rfl rfl h
  cases fl with
  | ret u => exact fe
  | next => exact fe
  | brk => obtain ⟨_, _, _, q⟩ := h; exact q.elim
  | cont => obtain ⟨_, _, _, q⟩ := h; exact q.elim
theorem fn_DC {x qual : Str} {st : Stmt} {N : List Str} {sp : FS} {wb : WS} {dvs : List V} {cdv : Value} (F : FunX K x qual st dvs f fd) (hcd : fd.code = cdv) (S : FnScope N ps (defScope st))
    (hb : ∀ (A : Around) (outer : List Env) (s : Shared) (H : Hp) (E : XK), RoomG k (A.deeper (envOfC qual (defScope st) s.heap.objs.size f cdv)) → PSs (cxOf CX0 P w K mg base N qual (defScope st) f cdv A outer s H E).nox (defBody st) (liftS T wb))
    (hw : ∀ svs Qd, sp svs Qd → svs.length = ps.length ∧ wb (endD Qd) (startD N.length svs)) : FnG P w K mg base CX0 (k + 1) f fd ps (liftSp T sp) := by
  refine fnG_ofC F hcd S (fun vs H Q E ⟨F0, svs, Qd, h1, h2, h3, h4, _⟩ => h2.len.trans (hw svs Qd h4).1) fun A outer s H vs Q E hr ⟨F0, svs, Qd, h1, h2, h3, h4, h5⟩ => ⟨_, (hb A outer s H E hr).nox, ?_⟩
  have S0 := sim_start (N := N) h1 h2 h3
  have grow : ∀ F' δ' σ' H', Sim T ⟨F0, H, bagsOf vs svs, T.tb, []⟩ F' δ' σ' H' → Grow T (bagsOf vs svs) F0 H F' H' := fun F' δ' σ' H' S' => ⟨S'.base, S'.sub, S'.new, fun b o q n nt => S'.keep b o q n nt, S'.bags, S'.tabs.1⟩
  refine ⟨_, F0, _, endD Qd, S0, (hw svs Qd h4).2, fun σ' H' F' δ' S' l' q' => ?_, fun v σ' H' F' δ' sv S' l' r' q' => ?_, fun σ' H' F' δ' S' l' q' => q'.elim, fun σ' H' F' δ' S' l' q' => q'.elim⟩
  · exact h5 .non H' F' .non (grow _ _ _ _ S') Is.non q'
  · obtain ⟨F2, d, l2, S2, i2, q2⟩ := r'.wd S' q'
    exact h5 v H' F2 d (grow _ _ _ _ S2) i2 q2
theorem FnZ.up {j k : Nat} {y : Str} {sp : FS1} (G : FnZ P w K mg base T j f fd y sp) (h : j ≤ k) : FnZ P w K mg base T k f fd y sp :=
  ⟨fun A outer s H args Q po F dd c ds Qd vs hr => G.run A outer s H args Q po F dd c ds Qd vs ⟨hr.rm.mono h, hr.gd⟩⟩
theorem AnsC.up {j k : Nat} {x : Str} {sp : FS1} (C : AnsC P w K mg base T j x sp) (h : j ≤ k) : AnsC P w K mg base T k x sp := by
  obtain ⟨g, fd, cdv, sg, bg, Ng, a, h1, h2, h3, h4, h5, h6, h7, h8, h9, hG⟩ := C.ex
  exact ⟨g, fd, cdv, sg, bg, Ng, a, h1, h2, h3, h4, h5, h6, h7, h8, h9, fun A outer f c' q s H Q tl hr => hG A outer f c' q s H Q tl (hr.mono (Nat.succ_le_succ h))⟩
end
/-! ### a field of a raising expression, a name made so -/
section
variable {X : Cx} {T : Tb} {e0 : En} {Ed : EK} {pos : Pos} {a : Expr} {wa : W}
theorem d_fldX {f : Str} {cs : List (Nat × Nat)} (hf : FldOk T X.K f cs) (ha : PE X a (liftX T e0 wa)) (hb : attributeBase a f X.env (eval a X.env) = eval a X.env := by rfl) : PE X (.Attribute a f pos) (liftX T e0 (wFld cs wa)) := by
  refine PE.weak (pe_fld ha hb) fun σ H Q ⟨F, δ, Qd, S, w, k⟩ => ?_
  refine useX (te := lift T wa) S w fun x H1 F1 dx S1 l1 i1 w1 => ?_
  split at w1
  · rename_i c ds
    split at w1
    · rename_i i hi
      split at w1
      · rename_i d hd
        obtain ⟨p, dx, vs, rfl, h1, h2, h3⟩ := i1.insE
        obtain ⟨o1, o2, o3, o4⟩ := hf.ok c i hi
        obtain ⟨v, h4, h5⟩ := h3.get T hd
        exact ⟨p, _, dx, _, v, rfl, S1.sub _ _ h1, o1, o2, zip_lookup o4 o3 h4, k v H1 F1 (.val d) S1 l1 h5 w1⟩
      · exact w1.elim
    · exact w1.elim
  · exact w1.elim
theorem memLk {α : Type} : ∀ {l : List (Nat × α)} {n : Nat} {r : α}, l.lookup n = some r → (n, r) ∈ l
  | [], _, _, h => by cases h
  | (q1, q2) :: l, n, r, h => by
    rw [List.lookup_cons] at h
    split at h
    · rename_i e; cases eq_of_beq e; cases h; exact List.mem_cons_self
    · exact List.mem_cons_of_mem _ (memLk h)
theorem IsXOk.of {K : PySem.W.Frag} {u : Value} {l : List (Nat × Bool)} (h : ∀ q ∈ l, ExcC K (T.ca q.1) ∧ PySem.W.kitOne K (.ref (T.ca q.1)) u = some q.2) : IsXOk T K u (fun c => l.lookup c) :=
  ⟨fun c b hl => h (c, b) (memLk hl)⟩
theorem XfOk.of {K : PySem.W.Frag} {f : Str} {l : List (Nat × Nat)} (h : ∀ q ∈ l, XfC K (T.ca q.1) ∧ PySem.W.findIn K (.ref (T.ca q.1)) f = some none ∧ (T.fl q.1)[q.2]? = some f ∧ (T.fl q.1).Nodup) : XfOk T K f (fun c => l.lookup c) :=
  ⟨fun c j hl => h (c, j) (memLk hl)⟩
/-! ### {} -/
def wDct : W := fun _ Q => Q (.val .dct)
theorem d_dct : PE X (.Dict [] [] pos) (lift T wDct) := by
  refine PE.weak pe_dnewK fun σ H Q ⟨e, F, δ, Qd, S, w, k⟩ => ?_
  intro p hp
  exact k _ _ (upd F p (.dK [])) (.val .dct) (S.laidK hp) (le_upd (S.fnone hp)) (by show Is T _ _ .dct; unfold Is; exact ⟨p, rfl, upd_same⟩) w
theorem boot_ValueError : bootBuiltins "ValueError" = some (.type "ValueError") := by kernel_rfl
theorem boot_LookupError : bootBuiltins "LookupError" = some (.type "LookupError") := by kernel_rfl
theorem boot_ArithmeticError : bootBuiltins "ArithmeticError" = some (.type "ArithmeticError") := by kernel_rfl
end
/-! ### list(text), tuple(text) -/
def sgV (z : Str) : List V := z.cps.toList.map fun c => V.str ⟨#[c]⟩
theorem vals_ix : ∀ (xs : List V) (us : List Value), xs.length = us.length → (∀ (j : Nat) (x : V) (u : Value), xs[j]? = some x → us[j]? = some u → RelV x u) → Vals xs us
  | [], [], _, _ => .nil
  | x :: xs, u :: us, hl, h => .cons (h 0 x u rfl rfl) (vals_ix xs us (by simpa using hl) fun j y v h1 h2 => h (j + 1) y v (by simpa using h1) (by simpa using h2))
  | [], _ :: _, hl, _ => by simp at hl
  | _ :: _, [], hl, _ => by simp at hl
theorem sg_vals {z : Str} {acc : Array Value} (h : ItemsOf (SignAt z) acc z.cps.size) : Vals (sgV z) acc.toList := by
  refine vals_ix _ _ (by unfold sgV; simp [h.1]) fun j x u h1 h2 => ?_
  obtain ⟨c, t, hc, rfl⟩ := h.2 j u (by simpa using h2)
  unfold sgV at h1
  rw [List.getElem?_map, Array.getElem?_toList, hc] at h1
  cases h1
  exact ⟨t, rfl⟩
theorem sg_is {T : Tb} {F : Hp} (z : Str) : IsL T F (sgV z) (signs z) := by
  unfold sgV signs
  generalize z.cps.toList = l
  induction l with
  | nil => exact IsL.nil T
  | cons c l ih => exact IsL.cons T Is.str ih
section
variable {X : Cx} {T : Tb}
theorem c_listS (hc : X.calm = true) : CallR X (.type "list") (fun xs H Q => ∃ z, xs = [V.str z] ∧ z.length ≤ sizeLine ∧ ∀ l, H l = none → Q (.ref l) (upd H l (.lst (sgV z)))) := by
  rintro pins s σ H xs us Q I r ⟨z, rfl, hz, q⟩
  obtain ⟨u, rfl, t, rfl⟩ := vals1 r
  refine call_list_str (I.ok.hd hc) z t (fun h' tk acc' c' kp e ha => ?_) hz
  have hl : (sgV z).length ≤ sizeLine := by unfold sgV; rw [List.length_map, Array.length_toList]; exact hz
  exact ⟨.ref s.heap.objs.size, _, I.laid (t' := tk) kp (Nat.le_refl _) (show ObjOk X.prog X.w _ h' _ (.lst (sgV z)) from ⟨hl, acc'.toList, c', sg_vals ha, by simpa using e⟩), rfl, q _ (I.hok.fresh (Nat.le_refl _))⟩
theorem c_tupS (hc : X.calm = true) : CallR X (.type "tuple") (fun xs H Q => ∃ z, xs = [V.str z] ∧ z.length ≤ sizeLine ∧ ∀ l, H l = none → Q (.ref l) (upd H l (.tup (sgV z)))) := by
  rintro pins s σ H xs us Q I r ⟨z, rfl, hz, q⟩
  obtain ⟨u, rfl, t, rfl⟩ := vals1 r
  refine call_tuple_str (I.ok.hd hc) z t (fun h' tk acc kp ha => ?_) hz
  have hl : (sgV z).length ≤ sizeLine := by unfold sgV; rw [List.length_map, Array.length_toList]; exact hz
  have I1 : Inv X pins σ H { s with heap := h', toks := tk } := I.kept (t' := tk) kp
  have I2 : Inv X pins σ (upd H h'.objs.size (.tup (sgV z))) { s with heap := h'.push { cls := .type "tuple", data := .seq acc }, toks := tk } :=
    I1.laid (t' := tk) (fun b o e => Heap.get?_push_of_some _ e) (Nat.le_refl _) (show ObjOk X.prog X.w _ _ _ (.tup (sgV z)) from ⟨hl, acc.toList, sg_vals ha, ⟨_, Heap.get?_push_size _ rfl, rfl, 0, by simp⟩⟩)
  exact ⟨.ref h'.objs.size, _, I2, rfl, q _ (I1.hok.fresh (Nat.le_refl _))⟩
theorem c_listA (hc : X.calm = true) : CallR X (.type "list") (fun xs H Q => (∃ p ys, xs = [.ref p] ∧ (SqL X.K H p ys ∨ SqT X.K H p ys) ∧ ∀ l, H l = none → Q (.ref l) (upd H l (.lst ys))) ∨ ∃ z, xs = [V.str z] ∧ z.length ≤ sizeLine ∧ ∀ l, H l = none → Q (.ref l) (upd H l (.lst (sgV z)))) := CallR.or call_list_of (c_listS hc)
theorem c_tupleA (hc : X.calm = true) : CallR X (.type "tuple") (fun xs H Q => (∃ p ys, xs = [.ref p] ∧ ((SqL X.K H p ys ∧ ∀ l, H l = none → Q (.ref l) (upd H l (.tup ys))) ∨ (SqT X.K H p ys ∧ Q (.ref p) H))) ∨ ∃ z, xs = [V.str z] ∧ z.length ≤ sizeLine ∧ ∀ l, H l = none → Q (.ref l) (upd H l (.tup (sgV z)))) := CallR.or call_tuple_of (c_tupS hc)
def listDA : PNf := fun ds Q => match ds with
  | [.str s] => s.length ≤ sizeLine ∧ Q (.own (signs s))
  | ds => listD ds Q
def tupleDA : PNf := fun ds Q => match ds with
  | [.str s] => s.length ≤ sizeLine ∧ Q (.val (.tup (signs s)))
  | ds => tupleD ds Q
theorem p_listA : PN T (fun xs H Q => (∃ p ys, xs = [.ref p] ∧ (SqL T.K H p ys ∨ SqT T.K H p ys) ∧ ∀ l, H l = none → Q (.ref l) (upd H l (.lst ys))) ∨ ∃ z, xs = [V.str z] ∧ z.length ≤ sizeLine ∧ ∀ l, H l = none → Q (.ref l) (upd H l (.lst (sgV z)))) listDA := by
  intro e F H δ σ xs ds Qd Q S i h k
  unfold listDA at h
  split at h
  · obtain ⟨v, rfl, h1⟩ := i.oneE
    cases h1.strE
    exact .inr ⟨_, rfl, h.1, fun l hl => klst S k hl (sg_is _) h.2⟩
  · exact .inl (p_list e F H δ σ xs _ Qd Q S i h k)
theorem p_tupleA : PN T (fun xs H Q => (∃ p ys, xs = [.ref p] ∧ ((SqL T.K H p ys ∧ ∀ l, H l = none → Q (.ref l) (upd H l (.tup ys))) ∨ (SqT T.K H p ys ∧ Q (.ref p) H))) ∨ ∃ z, xs = [V.str z] ∧ z.length ≤ sizeLine ∧ ∀ l, H l = none → Q (.ref l) (upd H l (.tup (sgV z)))) tupleDA := by
  intro e F H δ σ xs ds Qd Q S i h k
  unfold tupleDA at h
  split at h
  · obtain ⟨v, rfl, h1⟩ := i.oneE
    cases h1.strE
    exact .inr ⟨_, rfl, h.1, fun l hl => ktup S k hl (sg_is _) h.2⟩
  · exact .inl (p_tuple e F H δ σ xs _ Qd Q S i h k)
end
end DD
/-! ### the end of a law whose defs hold lambdas -/
namespace DD
open PySem PySem.Spec PyProof.Rows L2 LamX
/-- law_call with tables: cs, the code objects and their tables -/
theorem law_callTG {P : Program} {w : World} {K : PySem.W.Frag} {mg mb : Str → Option Value} {CX : CXT} {k : Nat} {fa a : Addr} {cs : List (Addr × Addr)} {fd : FuncData} {x : Str} {sp : Sp} {s₁ : Shared} {vs : List Value} {ns : List Int}
    (KX : K.In s₁.heap) (hns : s₁.heap.Ns mainGlobals mg) (hb : s₁.heap.Ns builtinsNs mb) (hbb : ∀ x : Str, x ≠ "__name__" → mb x = bootBuiltins x) (hlim : s₁.heap.NoLimit) (hg : s₁.gens = #[])
    (hT : ∀ p ∈ cs, s₁.heap.get? p.2 = some { cls := .none, data := .fields #[] }) (nT : ∀ p ∈ cs, K.lookup p.2 = none) (C : ∀ p ∈ cs, PySem.W.CodeHd s₁.heap p.1 p.2)
    (hbm : ∃ (bm : Addr) (ob : Obj), mg "__builtins__" = some (.ref bm) ∧ bm ≠ builtinsNs ∧ s₁.heap.get? bm = some ob ∧ ob.cls = .type "module" ∧ ob.dict = some builtinsNs ∧ ob.data = .plain)
    (ha : s₁.heap.get? a = some { cls := .type "list", data := .seq vs.toArray }) (hi : IntsAre vs ns) (hl : ns.length ≤ sizeLine) (hr : Room k callerA)
    (F : ∀ base : Heap, K.In base → base.Ns mainGlobals mg → (∀ p ∈ cs, TabB base mg p.1 p.2) → FnG P w K mg base CX k fa fd [x] sp) (hbind : ∀ (s : Shared) (u : Value), BindsTo s fd ⟨[u], []⟩ [(x, u)])
    (hsp : ∀ H : Hp, (∀ p ∈ cs, H p.2 = some (.tbl #[])) → SqL K H a (ns.map V.int) → sp [.ref a] H (fun v _ => v = .bl true) fun _ _ _ => False)
    (hCX : ∀ H e s', CX [] H s₁ (fun _ _ _ => False) e s' → False) :
    codeAny (model P w) callerA (.call (.ref fa) ⟨[.ref a], []⟩) (fun r s' => r = .ok (.ret (.bool true)) ∧ OldK s₁.heap s'.heap ∧ s'.os = s₁.os ∧ AllBare s'.gens) s₁ := by
  have rv := vals_ints hi
  have lenV := hi.length
  have isT : ∀ b : Addr, b ∈ cs.map (·.2) → s₁.heap.get? b = some { cls := .none, data := .fields #[] } := fun b hb => by
    obtain ⟨p, hp, e⟩ := List.mem_map.mp hb
    rw [← e]
    exact hT p hp
  have aT : a ∉ cs.map (·.2) := fun z => by
    have q := isT a z
    rw [ha] at q
    have z' : Data.seq vs.toArray _ = Data.fields #[] := congrArg Obj.data (Option.some.inj q)
    cases z'
  have memT : ∀ p ∈ cs, p.2 ∈ cs.map (·.2) := fun p hp => List.mem_map.mpr ⟨p, hp, rfl⟩
  -- from an abstract heap in which nothing but the script and the tables may be tracked
  have core : ∀ H : Hp, (∀ p ∈ cs, H p.2 = some (.tbl #[])) → (∀ b, H b = none ∨ b ∈ cs.map (·.2) ∨ ∃ o xs, H b = some (.frz o (.lst xs))) → SqL K H a (ns.map V.int) → HOk P w H s₁.heap → (∀ b, H b ≠ none → b = a ∨ b ∈ cs.map (·.2)) → (H a ≠ none → K.lookup a = none) →
      codeAny (model P w) callerA (.call (.ref fa) ⟨[.ref a], []⟩) (fun r s' => r = .ok (.ret (.bool true)) ∧ OldK s₁.heap s'.heap ∧ s'.os = s₁.os ∧ AllBare s'.gens) s₁ := by
    intro H hH hO hS hok hA hK
    have base_of : ∀ {b : Addr} {o : Obj}, s₁.heap.get? b = some o → H b = none → (hidT s₁.heap H).get? b = some o := fun e n => hidT_get e n
    have noD : ∀ {b : Addr} {o : Obj}, s₁.heap.get? b = some o → (∀ vs n, o.data ≠ .seq vs n) → o.data ≠ .fields #[] → H b = none := fun {b o} e h1 h2 => by
      cases q : H b with
      | none => rfl
      | some u =>
        rcases hA b (by rw [q]; simp) with e' | e'
        · rw [e', ha] at e
          cases e
          exact (h1 _ _ rfl).elim
        · rw [isT b e'] at e
          cases e
          exact (h2 rfl).elim
    have noA : ∀ {b : Addr} {o : Obj} {es : Array DictEntry} {ep : Nat}, s₁.heap.get? b = some o → o.data = .dict es ep → H b = none := fun {b o es ep} e d => by
      refine noD e (fun vs n z => ?_) fun z => ?_
      · rw [d] at z
        cases z
      · rw [d] at z
        cases z
    have nsK : ∀ {b : Addr} {m : Str → Option Value}, s₁.heap.Ns b m → (hidT s₁.heap H).Ns b m := fun {b m} ⟨o, es, ep, e, d, r⟩ => ⟨o, es, ep, base_of e (noA e d), d, r⟩
    have hKb : K.In (hidT s₁.heap H) := fun b o e => base_of (KX b o e) (by
      cases q : H b with
      | none => rfl
      | some u =>
        rcases hA b (by rw [q]; simp) with e' | e'
        · rw [e'] at e q
          rw [hK (by rw [q]; simp)] at e
          cases e
        · obtain ⟨p, hp, ep⟩ := List.mem_map.mp e'
          rw [← ep, nT p hp] at e
          cases e)
    have hM : L2.Mod K mg (hidT s₁.heap H) := ⟨hKb, nsK hns, ⟨mb, nsK hb, hbb⟩, let ⟨mc, h1, h2⟩ := hlim; ⟨mc, nsK h1, h2⟩⟩
    have TB : ∀ p ∈ cs, TabB (hidT s₁.heap H) mg p.1 p.2 := fun p hp => by
      have hTp := hT p hp
      refine ⟨?_, ?_, fun z => ?_⟩
      · obtain ⟨o, us, file, tf, flags, tg, inF, text, tt, e1, r1, r2, r3, r4, r5, r6, r7, r8, hne⟩ := C p hp
        refine ⟨o, us, file, tf, flags, tg, inF, text, tt, base_of e1 (noD e1 (fun vs n z => ?_) fun z => ?_), r1, r2, r3, r4, r5, r6, r7, r8, hne⟩
        · rw [r2] at z
          cases z
        · rw [r2] at z
          cases z
          simp at r3
      · obtain ⟨bm, ob, b1, b2, b3, b4, b5, b6⟩ := hbm
        have nG : bm ≠ mainGlobals := fun q => by
          obtain ⟨o, es, ep, e, hd, _⟩ := hns
          rw [q, e] at b3
          cases b3
          rw [hd] at b6
          cases b6
        have nP : bm ≠ p.2 := fun q => by
          rw [q, hTp] at b3
          cases b3
          cases b6
        refine ⟨bm, ob, b1, b2, nG, nP, base_of b3 (noD b3 (fun vs n z => ?_) fun z => ?_), b4, b5, b6⟩
        · rw [b6] at z
          cases z
        · rw [b6] at z
          cases z
      · obtain ⟨o, es, ep, e, hd, _⟩ := hns
        rw [z, hTp] at e
        cases e
        cases hd
    have e0 : Env0 P w K mg (hidT s₁.heap H) callerA [] s₁ H := ⟨rfl, hM, fun b o e => of_hidT e, Nat.le_of_eq (hidT_size _ _), trivial, fun b hb => absurd (show b ∈ ([] : List Addr) from hb) (by simp), hok, .of_eq hg⟩
    refine codeAny_mono ((F _ hKb (nsK hns) TB).run callerA [] s₁ H ⟨[.ref a], []⟩ [.ref a] [.ref a] _ _ (callerG hr) e0 (hbind s₁ (.ref a)) (.cons rfl .nil) (hsp H hH hS)) fun r s' h => ?_
    cases r with
    | error e => exact (hCX H e s' h).elim
    | ok fl =>
      cases fl with
      | next => exact False.elim h
      | brk => exact False.elim h
      | cont => exact False.elim h
      | ret u =>
        obtain ⟨v, H', os, bare, un, hok', r', q⟩ := h
        have q' : v = .bl true := q
        subst q'
        obtain rfl : u = Value.bool true := r'
        have key : ∀ b o, b ∉ cs.map (·.2) → s₁.heap.get? b = some o → s'.heap.get? b = some o := fun b o nb e => by
          cases q : H b with
          | none => exact un.keep b o e q (by intro z; exact absurd (show b ∈ ([] : List Addr) from z) (by simp)) (by simp)
          | some u =>
            rcases hO b with z | z | ⟨ob, xs, z⟩
            · rw [q] at z; cases z
            · exact absurd z nb
            · have z2 := un.frzs b ob _ z
              obtain ⟨e1, _⟩ := hok b _ z
              obtain ⟨e2, _⟩ := hok' b _ z2
              rw [e] at e1; cases e1
              exact e2
        have grown : ∀ p ∈ cs, ∃ more : Array Value, s'.heap.get? p.2 = some { cls := .none, data := .fields more } := fun p hp => by
          obtain ⟨more, z⟩ := un.tbls p.2 #[] (hH p hp)
          exact ⟨_, hok' p.2 _ z⟩
        refine ⟨rfl, ⟨fun b o e => ?_, fun b o e => ?_⟩, os, bare⟩
        · by_cases hb : b ∈ cs.map (·.2)
          · obtain ⟨p, hp, ep⟩ := List.mem_map.mp hb
            obtain ⟨more, hm⟩ := grown p hp
            rw [← ep] at e ⊢
            rw [hT p hp] at e
            cases e
            exact .inr (.inl ⟨((C p hp).tab (hT p hp)).isCodeTable, rfl, #[], more, rfl, by rw [Array.empty_append]; exact hm⟩)
          · exact .inl (key b o hb e)
        · by_cases hb : b ∈ cs.map (·.2)
          · obtain ⟨p, hp, ep⟩ := List.mem_map.mp hb
            obtain ⟨more, hm⟩ := grown p hp
            rw [← ep]
            exact ⟨_, hm⟩
          · exact ⟨o, key b o hb e⟩
  cases hk : K.lookup a with
  | some o =>
    have e := KX a o hk
    rw [ha] at e
    cases e
    refine core (fun b => if b ∈ cs.map (·.2) then some (.tbl #[]) else none) (fun p hp => if_pos (memT p hp)) (fun b => ?_) (.inr ⟨_, vs.toArray, _, hk, rfl, rfl, rfl, by rw [List.size_toArray, lenV]; exact hl, by simpa using rv⟩) (fun b u z => ?_) (fun b z => ?_) fun z => absurd (show (if a ∈ cs.map (·.2) then some (HO.tbl #[]) else none) = none from if_neg aT) z
    · by_cases hb : b ∈ cs.map (·.2)
      · exact .inr (.inl hb)
      · exact .inl (if_neg hb)
    · by_cases hb : b ∈ cs.map (·.2)
      · have z' := (if_pos hb).symm.trans z
        cases z'
        exact isT b hb
      · have z' := (if_neg hb).symm.trans z
        cases z'
    · by_cases hb : b ∈ cs.map (·.2)
      · exact .inr hb
      · exact absurd (if_neg hb) z
  | none =>
    refine core (fun b => if b = a then some (.frz { cls := .type "list", data := .seq vs.toArray } (.lst (ns.map V.int))) else if b ∈ cs.map (·.2) then some (.tbl #[]) else none) (fun p hp => (if_neg (show ¬ p.2 = a from fun z => aT (by rw [← z]; exact memT p hp))).trans (if_pos (memT p hp))) (fun b => ?_)
      (.inl (.inr ⟨{ cls := .type "list", data := .seq vs.toArray }, if_pos rfl⟩)) (fun b u z => ?_) (fun b z => ?_) fun _ => hk
    · by_cases hb : b = a
      · exact .inr (.inr ⟨_, _, if_pos hb⟩)
      · by_cases hb2 : b ∈ cs.map (·.2)
        · exact .inr (.inl hb2)
        · exact .inl ((if_neg hb).trans (if_neg hb2))
    · by_cases hb : b = a
      · have z' := (if_pos hb).symm.trans z
        cases z'
        rw [hb]
        exact ⟨ha, by rw [List.length_map]; exact hl, vs, _, rv, ha⟩
      · have z1 := (if_neg hb).symm.trans z
        by_cases hb2 : b ∈ cs.map (·.2)
        · have z' := (if_pos hb2).symm.trans z1
          cases z'
          exact isT b hb2
        · have z' := (if_neg hb2).symm.trans z1
          cases z'
    · by_cases hb : b = a
      · exact .inl hb
      · by_cases hb2 : b ∈ cs.map (·.2)
        · exact .inr hb2
        · exact absurd ((if_neg hb).trans (if_neg hb2)) z
theorem walkGT {l : PySem.W.OpenLaw} {n k : Nat} {q : Program} {loose : List Str} {XP : (Str → Option Value) → Heap → Prop} {YP : World → Heap → Prop} {d : DefRec} {K : Params → PySem.W.Frag} {x : Str}
    (hn : l.most = some n) (hn2 : n ≤ sizeLine) (hdf : d.params.defaults = []) (hr : Room k callerA) (hY : ∀ (w : World) (h : Heap), YP w h → (K w.params).In h)
    (F : ∀ (w : World) (mg : Str → Option Value) (fa : Addr) (h : Heap), YP w h → (K w.params).In h → h.Ns mainGlobals mg → mg d.name = some (.ref fa) →
      ∃ (fd : FuncData) (cs : List (Addr × Addr)) (sp : Sp), (∀ p ∈ cs, h.get? p.2 = some { cls := .none, data := .fields #[] }) ∧ (∀ p ∈ cs, (K w.params).lookup p.2 = none) ∧ (∀ p ∈ cs, PySem.W.CodeHd h p.1 p.2) ∧ (∀ (s : Shared) (u : Value), BindsTo s fd ⟨[u], []⟩ [(x, u)]) ∧
        (∀ (H : Hp) (a : Addr) (ns : List Int), ns.length ≤ n → (∀ p ∈ cs, H p.2 = some (.tbl #[])) → SqL (K w.params) H a (ns.map V.int) → sp [.ref a] H (fun v _ => v = .bl true) fun _ _ _ => False) ∧
        ∀ base : Heap, (K w.params).In base → base.Ns mainGlobals mg → (∀ p ∈ cs, TabB base mg p.1 p.2) → FnG l.prog w (K w.params) mg base CX0 k fa fd [x] sp) :
    PySem.W.WalkO q loose XP YP l.row.toRowW d [] (fun f vs => PySem.call f vs) := by
  refine Att.attach_call hn hdf ?_
  intro w s0 s1 mg mb fa o pm cd doc a vs ns G Y ho hd hcd hmg hobj hi hlen hgens
  have kx := hY w _ Y
  obtain ⟨fd, cs, sp, hT, nT, C, hb, hsp, hF⟩ := F w mg fa _ Y kx G.T.g hmg
  exact law_callTG kx G.T.g G.T.b G.T.builtins G.T.nolimit hgens hT nT C G.T.bmain hobj hi (Nat.le_trans hlen hn2) hr hF hb (fun H hH hS => hsp H a ns hlen hH hS) fun _ _ _ h => h
/-- one table, empty at the start -/
theorem tabs_start {H : Hp} {P : Addr} {q : Str} (h : H P = some (.tbl #[])) : Tabs [(P, q)] H := fun p hp => by
  rw [List.mem_singleton.mp hp]
  exact TabS.nil h
section
variable {K : PySem.W.Frag}
theorem kit_sub {t : Value} {C : Addr} {b : Bool} (h1 : PySem.W.isClsIn K C = true) (h2 : PySem.W.typeIn K (.ref C) = some (.type "type")) (hne : (t == .ref C) = false) (h : PySem.W.subIn K t (.ref C) = some b) : PySem.W.kitOne K t (.ref C) = some b := by
  unfold PySem.W.kitOne PySem.W.kitCls
  rw [if_neg (by rw [hne]; decide)]
  have hc : (PySem.W.clsIn K C).isSome = true := by
    unfold PySem.W.isClsIn at h1
    first | exact h1 | (unfold PySem.W.clsIn; split at h1 <;> first | rfl | simp_all)
  show (if ((PySem.W.clsIn K C).isSome && PySem.W.typeIn K (.ref C) == some (.type "type")) = true then _ else _) = _
  rw [hc, h2, if_pos (by rfl)]; exact h
theorem kit_subT {E : Addr} {n : String} {b : Bool} (h1 : PySem.W.kitMeta n = true) (h : PySem.W.subIn K (.ref E) (.type n) = some b) : PySem.W.kitOne K (.ref E) (.type n) = some b := by
  unfold PySem.W.kitOne PySem.W.kitCls
  rw [if_neg (by simp)]
  show (if PySem.W.kitMeta n = true then _ else _) = _
  rw [if_pos h1]; exact h
theorem kit_same {t : Value} : PySem.W.kitOne K t t = some true := by
  unfold PySem.W.kitOne
  rw [if_pos (by simp)]
theorem exm3 {E C1 C2 C3 : Addr} {b1 b2 b3 : Bool} (h1 : PySem.W.exmOne K (.ref E) (.ref C1) = some b1) (h2 : PySem.W.exmOne K (.ref E) (.ref C2) = some b2) (h3 : PySem.W.exmOne K (.ref E) (.ref C3) = some b3) (h : (b1 || (b2 || (b3 || false))) = true) :
    PySem.W.exmAny K (.ref E) [.ref C1, .ref C2, .ref C3] = some true := by
  unfold PySem.W.exmAny
  rw [h1]
  unfold PySem.W.exmAny
  rw [h2]
  unfold PySem.W.exmAny
  rw [h3]
  unfold PySem.W.exmAny
  show some _ = _
  rw [h]
end
end DD
/-! ### a built-in of one raising argument; a name made of what raises -/
namespace DD
open PySem L2
section
variable {X : Cx} {T : Tb} {e0 : En} {Ed : EK} {pos p : Pos} {a : Expr} {wa : W} {F H : Hp} {δ : DEnv} {σ : L2.St}
def wN1 (f : PNf) (wa : W) : W := fun δ Q => wa δ fun x => wd x fun d => f [d] Q
theorem lift_N1X {r : List V → Hp → VK → Prop} {f : PNf} {Q : VK} (hp : PN T r f) (h : liftX T e0 (wN1 f wa) σ H Q) : tCB r (tCons (liftX T e0 wa) tNil) σ H Q := by
  obtain ⟨F, δ, Qd, S, w, k⟩ := h
  refine useX (te := lift T wa) S w fun v H1 F1 d S1 l1 i1 w1 => ?_
  exact hp e0 F1 H1 δ σ [v] [d] Qd Q S1 (IsL.one T i1) w1 fun v H' F' sv S' l' r' q' => k v H' F' sv S' (l1.trans l') r' q'
theorem d_callB1X {id : String} {x : Str} {r : List V → Hp → VK → Prop} {f : PNf} (hc : CallR X (.builtin id) r) (hp : PN T r f) (hm : X.mg x = none) (hv : bootBuiltins x = some (.builtin id)) (ha : PE X a (liftX T e0 wa)) (hg : Gl X x := by rfl) (hn : x ≠ "__name__" := by decide) (hdb : (x == ("__debug__" : Str)) = false := by decide)
    (he : starEach [a] X.env = (false, eval a X.env) :: starEach [] X.env := by rfl) (hpl : (backTo pos (starEach [] X.env)).any (·.1) = false := by rfl) : PE X (.Call (.Name x p) [a] [] pos) (liftX T e0 (wN1 f wa)) :=
  PE.weak (pe_callB hc hg hm hv (pa_cons ha pa_nil he) hn hdb he hpl) fun σ H Q h => lift_N1X hp h
theorem d_callTy1X {id : String} {x : Str} {r : List V → Hp → VK → Prop} {f : PNf} (hc : CallR X (.type id) r) (hp : PN T r f) (hm : X.mg x = none) (hv : bootBuiltins x = some (.type id)) (ha : PE X a (liftX T e0 wa)) (hg : Gl X x := by rfl) (hn : x ≠ "__name__" := by decide) (hdb : (x == ("__debug__" : Str)) = false := by decide)
    (he : starEach [a] X.env = (false, eval a X.env) :: starEach [] X.env := by rfl) (hpl : (backTo pos (starEach [] X.env)).any (·.1) = false := by rfl) : PE X (.Call (.Name x p) [a] [] pos) (liftX T e0 (wN1 f wa)) :=
  PE.weak (pe_callTy hc hg hm hv (pa_cons ha pa_nil he) hn hdb he hpl) fun σ H Q h => lift_N1X hp h
theorem s_setX (i : Nat) {x : Str} {pos' : Pos} (hN : X.N.Nodup) (ha : PE X a (liftX T e0 wa)) (hi : X.N[i]? = some x := by rfl) (hx : Loc X.env.scope x := by first | exact Or.inl rfl | exact Or.inr rfl) (hs : swapsWith a (some (.Name x pos')) pos.line X.env = pure false := by rfl) (hf : X.fn x = true ∨ X.env.scope.names.lookup x = some .local := by first | exact .inl rfl | exact .inr rfl) :
    PS X (.Assign [.Name x pos'] a pos) (liftSX T e0 (wAsg i wa)) := by
  refine PS.weak (ps_set hN hi hx ha hs hf) fun D σ H ⟨F, δ, Dd, S, w, k1, k2, k3, k4⟩ => ?_
  refine ⟨F, δ, _, S, w, fun v H' F' sv S' l' r' q' => ?_⟩
  cases sv with
  | val d => exact k1 _ H' F' _ (S'.set r' (.inl rfl)) l' q'
  | own ds => exact k1 _ H' F' _ (S'.set r' (.inr ⟨ds, rfl⟩)) l' q'
  | _ => exact q'.elim
end
end DD
/-! ### C.m(e, ..), m a staticmethod of the class C -/
namespace DD
open PySem PySem.Spec PyProof.Rows L2
/-- C.m is a staticmethod: its record at p, its def at g -/
structure SMet (K : PySem.W.Frag) (C : Addr) (m : Str) (p g : Addr) : Prop where
  at_ : PySem.W.findCls K (.ref C) (.type "type") m = some (.get (.builtin "staticmethod.__get__") (.ref p) .none (.ref C))
  rc : ∃ rest, PySem.W.recIn K p "staticmethod" = some (.ref g :: rest)
section
variable {X : Cx} {T : Tb} {C p g : Addr} {m x : Str} {px apos pos : Pos} {a : Expr} {es : List Expr} {t : TA} {r : List V → Hp → VK → Prop} {pl : Sem Bool}
theorem pe_smR (hm : X.mg x = some (.ref C)) (rd : ClX.CRead X.K C (.type "type")) (k : SMet X.K C m p g) (hc : CallR X (.ref g) r) (hk : PySem.W.keepIn X.K (.ref g) = true) (ha : PA X (a :: es) t) (hg : Gl X x := by rfl) (hdb : (x == ("__debug__" : Str)) = false := by decide)
    (hst : starEach (a :: es) X.env = (false, eval a X.env) :: starEach es X.env := by rfl) (hpl : (backTo pos (starEach es X.env)).any (·.1) = false := by rfl)
    (ht : eval (.Call (.Attribute (.Name x px) m apos) (a :: es) [] pos) X.env = (do
      let ov ← eval (.Name x px) X.env
      standAt apos.atName
      let (f, first) ← holding [ov] (getMethod ov m pl)
      callWith pos f first (backTo pos (starEach (a :: es) X.env)) (backToKw pos (keywordEach [] X.env))) := by rfl) : PE X (.Call (.Attribute (.Name x px) m apos) (a :: es) [] pos) (tCB r t) := by
  refine ⟨fun pins s σ H Q I h => ?_⟩
  refine PySem.W.methodCall_KW (pl := pl) (ld_glob I hg hm ?_ hdb) ht
  obtain ⟨rest, hp⟩ := k.rc
  refine PySem.W.method_cls I.kIn rd.ga (PySem.W.cls_bind I.kIn rd.rd k.at_ (wpAny_call (PySem.W.sm_get (s := { s with toks := s.toks + 1 }) I.kIn hp (PySem.W.handed_on rfl ?_))))
  have I2 : Inv X pins σ H { s with toks := s.toks + 1 } := I.tok _
  exact PySem.W.callWith_K (h₀ := X.base) I2.ok.mod.kin hk (thn (ha.run pos pins _ σ H _ I2 h) fun us s1 ⟨vs, H1, I1, rv, q⟩ => ⟨I1.kIn, hc pins s1 σ H1 vs us Q I1 rv q⟩) hst hpl
end
/-! ### what may raise, where it does not -/
def noX (f : FX) : FS := fun svs Q => f svs Q fun _ _ => False
section
variable {X : Cx} {T : Tb} {e0 : En} {Ed : EK} {k c : Nat} {g : Addr} {fd : FuncData} {ps : List Str} {f sp : FX} {m x : Str} {p px apos pos : Pos} {a : Expr} {es : List Expr} {ws : WA} {pl : Sem Bool}
theorem passF : Passes (L2.CX X.prog X.w) X (fun _ _ _ => False) := by
  intro pins σ H s e s' I h
  obtain ⟨_, _, _, _, _, _, _, _, _, _, _, _, z⟩ := h
  exact z.elim
theorem callN (G : FnG X.prog X.w X.K X.mg X.base (L2.CX X.prog X.w) k g fd ps (liftSpX T f)) (hr : RoomG k X.A) (hb : Binds X.K fd ps []) : CallR X (.ref g) (liftC T (noX f)) := by
  have hc := callG G hr hb .nil passF
  simp only [List.append_nil] at hc
  intro pins s σ H xs us Q I rv h
  obtain ⟨F, svs, Qd, h1, h2, h3, h4, h5⟩ := h
  exact hc pins s σ H xs us Q I rv ⟨F, svs, Qd, fun _ _ => False, h1, h2, h3, h4, h5, fun _ _ _ _ _ _ _ _ z => z.elim⟩
theorem d_cN (C : CalX X.prog X.w X.K X.mg X.base T k x sp) (hr : RoomG k X.A) (ha : PA X (a :: es) (liftA T ws)) (hg : Gl X x := by rfl) (hdb : (x == ("__debug__" : Str)) = false := by decide)
    (he : starEach (a :: es) X.env = (false, eval a X.env) :: starEach es X.env := by rfl) (hpl : (backTo pos (starEach es X.env)).any (·.1) = false := by rfl) : PE X (.Call (.Name x p) (a :: es) [] pos) (lift T (wCall (noX sp) ws)) := by
  obtain ⟨g, fd, ps, G, hm, hk, hb⟩ := C.go
  exact d_call (callN G hr hb) hm hk ha hg hdb he hpl
/-- a staticmethod of a class, called through it, that may raise -/
structure StaX (P : Program) (w : World) (K : PySem.W.Frag) (mg : Str → Option Value) (base : Heap) (T : Tb) (k c : Nat) (x m : Str) (sp : FX) : Prop where
  ex : ∃ (p g : Addr) (fd : FuncData) (ps : List Str), SMet K (T.ca c) m p g ∧ ClX.CRead K (T.ca c) (.type "type") ∧ FnG P w K mg base (L2.CX P w) k g fd ps (liftSpX T sp) ∧ mg x = some (.ref (T.ca c)) ∧ PySem.W.keepIn K (.ref g) = true ∧ Binds K fd ps []
theorem d_staX (C : StaX X.prog X.w X.K X.mg X.base T k c x m sp) (hr : RoomG k X.A) (tk : Takes X (WD T e0 Ed)) (ha : PA X (a :: es) (liftA T ws)) (hg : Gl X x := by rfl) (hdb : (x == ("__debug__" : Str)) = false := by decide)
    (hst : starEach (a :: es) X.env = (false, eval a X.env) :: starEach es X.env := by rfl) (hpl : (backTo pos (starEach es X.env)).any (·.1) = false := by rfl)
    (ht : eval (.Call (.Attribute (.Name x px) m apos) (a :: es) [] pos) X.env = (do
      let ov ← eval (.Name x px) X.env
      standAt apos.atName
      let (f, first) ← holding [ov] (getMethod ov m pl)
      callWith pos f first (backTo pos (starEach (a :: es) X.env)) (backToKw pos (keywordEach [] X.env))) := by rfl) : PE X (.Call (.Attribute (.Name x px) m apos) (a :: es) [] pos) (liftX T e0 (wCallX sp Ed ws)) := by
  obtain ⟨p, g, fd, ps, k1, rd, G, hm, hk, hb⟩ := C.ex
  have hc : CallR X (.ref g) (liftCX T e0 Ed sp) := by
    have := callG G hr hb .nil (passes_call tk fun _ _ _ _ h => h)
    simp only [List.append_nil] at this
    exact this
  exact PE.weak (pe_smR (pl := pl) hm rd k1 hc hk ha hg hdb hst hpl ht) fun σ H Q h => lift_CX h
theorem d_staN (C : StaX X.prog X.w X.K X.mg X.base T k c x m sp) (hr : RoomG k X.A) (ha : PA X (a :: es) (liftA T ws)) (hg : Gl X x := by rfl) (hdb : (x == ("__debug__" : Str)) = false := by decide)
    (hst : starEach (a :: es) X.env = (false, eval a X.env) :: starEach es X.env := by rfl) (hpl : (backTo pos (starEach es X.env)).any (·.1) = false := by rfl)
    (ht : eval (.Call (.Attribute (.Name x px) m apos) (a :: es) [] pos) X.env = (do
      let ov ← eval (.Name x px) X.env
      standAt apos.atName
      let (f, first) ← holding [ov] (getMethod ov m pl)
      callWith pos f first (backTo pos (starEach (a :: es) X.env)) (backToKw pos (keywordEach [] X.env))) := by rfl) : PE X (.Call (.Attribute (.Name x px) m apos) (a :: es) [] pos) (lift T (wCall (noX sp) ws)) := by
  obtain ⟨p, g, fd, ps, k1, rd, G, hm, hk, hb⟩ := C.ex
  exact PE.weak (pe_smR (pl := pl) hm rd k1 (callN G hr hb) hk ha hg hdb hst hpl ht) fun σ H Q h => lift_C rfl h
theorem passFE {e1 : En} : Passes (L2.CX X.prog X.w) X (ED T e1 fun _ _ => False) := by
  intro pins σ H s e s' I h
  obtain ⟨_, _, _, _, _, _, _, _, _, _, _, _, z⟩ := h
  obtain ⟨_, _, _, _, _, _, _, y⟩ := z
  exact y.elim
theorem d_newN {fi : FIX} (C : NewX X.prog X.w X.K X.mg X.base T k c x fi) (hr : RoomG (k + 1) X.A) (ha : PA X (a :: es) (liftA T ws)) (hg : Gl X x := by rfl) (hdb : (x == ("__debug__" : Str)) = false := by decide)
    (he : starEach (a :: es) X.env = (false, eval a X.env) :: starEach es X.env := by rfl) (hpl : (backTo pos (starEach es X.env)).any (·.1) = false := by rfl) : PE X (.Call (.Name x p) (a :: es) [] pos) (lift T (wCall (noX (mkFX c fi)) ws)) := by
  obtain ⟨g, fd, ps, M, G, hm, hb⟩ := C.ex
  have hc := makeX (e0 := ⟨fun _ => none, fun _ => none, fun _ => False, fun _ => False, []⟩) (Ed := fun _ _ => False) M G hr hb passFE
  refine d_call (g := T.ca c) (fun pins s σ H xs us Q I rv h => ?_) hm M.kp ha hg hdb he hpl
  obtain ⟨F, svs, Qd, h1, h2, h3, h4, h5⟩ := h
  exact hc pins s σ H xs us Q I rv ⟨F, svs, Qd, fun _ _ => False, h1, h2, h3, h4, h5, fun _ _ _ _ _ _ _ _ z => z.elim⟩
/-- .. with keywords, where it does not raise -/
structure StaKX (P : Program) (w : World) (K : PySem.W.Frag) (mg : Str → Option Value) (base : Heap) (T : Tb) (k c : Nat) (x m : Str) (ks : List Str) (is : List Nat) (dds : List D) (sp : FX) : Prop where
  ex : ∃ (p g : Addr) (fd : FuncData) (ps : List Str) (dvs : List V) (ds : List Value), SMet K (T.ca c) m p g ∧ ClX.CRead K (T.ca c) (.type "type") ∧ FnG P w K mg base (L2.CX P w) k g fd ps (liftSpX T sp) ∧ mg x = some (.ref (T.ca c)) ∧ PySem.W.keepIn K (.ref g) = true ∧ KB K fd ps 0 ks is ds ∧ Vals dvs ds ∧ ∀ F, IsL T F dvs dds
theorem callPN {ks : List Str} {is : List Nat} {dds : List D} {dvs : List V} {ds : List Value} (G : FnG X.prog X.w X.K X.mg X.base (L2.CX X.prog X.w) k g fd ps (liftSpX T f)) (hr : RoomG k X.A) (hb : KB X.K fd ps 0 ks is ds) (hd : Vals dvs ds) (hdd : ∀ F, IsL T F dvs dds) : CallRK X (.ref g) 0 ks (liftC T (permS is dds (noX f))) := by
  have hc := callPX (e0 := ⟨fun _ => none, fun _ => none, fun _ => False, fun _ => False, []⟩) (Ed := fun _ _ => False) G hr hb hd passFE hdd
  intro pins s σ H vs zs us ws Q I rv rz l1 l2 h
  obtain ⟨F, svs, Qd, h1, h2, h3, h4, h5⟩ := h
  exact hc pins s σ H vs zs us ws Q I rv rz l1 l2 ⟨F, svs, Qd, fun _ _ => False, h1, h2, h3, h4, h5, fun _ _ _ _ _ _ _ _ z => z.elim⟩
theorem d_staKN0 {ks : List Str} {is : List Nat} {dds : List D} {kws : List Keyword} {wk : WA} (C : StaKX X.prog X.w X.K X.mg X.base T k c x m ks is dds sp) (hr : RoomG k X.A) (hkw : PK X kws (liftA T wk)) (hg : Gl X x := by rfl) (hdb : (x == ("__debug__" : Str)) = false := by decide)
    (hall : (backToKw pos (keywordEach kws X.env)).all (·.1.isSome) = true := by rfl) (hks : (backToKw pos (keywordEach kws X.env)).filterMap (·.1) = ks := by rfl)
    (hpl : ((backTo pos (starEach [] X.env)).any (·.1) || (backToKw pos (keywordEach kws X.env)).any (·.1.isNone)) = false := by rfl)
    (ht : eval (.Call (.Attribute (.Name x px) m apos) [] kws pos) X.env = (do
      let ov ← eval (.Name x px) X.env
      standAt apos.atName
      let (f, first) ← holding [ov] (getMethod ov m pl)
      callWith pos f first (backTo pos (starEach [] X.env)) (backToKw pos (keywordEach kws X.env))) := by rfl) : PE X (.Call (.Attribute (.Name x px) m apos) [] kws pos) (lift T (wCallK 0 ks.length (permS is dds (noX sp)) wNil wk)) := by
  obtain ⟨p, g, fd, ps, dvs, ds, k1, rd, G, hm, hk, hb, hd, hdd⟩ := C.ex
  have hc := callPN G hr hb hd hdd
  constructor
  intro pins s σ H Q I h
  refine PySem.W.methodCall_KW (pl := pl) (ld_glob I hg hm ?_ hdb) ht
  obtain ⟨rest, hp⟩ := k1.rc
  refine PySem.W.method_cls I.kIn rd.ga (PySem.W.cls_bind I.kIn rd.rd k1.at_ (wpAny_call (PySem.W.sm_get (s := { s with toks := s.toks + 1 }) I.kIn hp (PySem.W.handed_on rfl ?_))))
  have I2 : Inv X pins σ H { s with toks := s.toks + 1 } := I.tok _
  have h2 : tCK 0 ks.length (liftC T (permS is dds (noX sp))) (fun σ H Q => Q [] H) (liftA T wk) σ H Q := by
    obtain ⟨e, F, δ, Qd, S, w, k⟩ := h
    exact ⟨e, F, δ, _, S, w, fun zs H2 F2 zsv S2 l2 r2 ⟨⟨_, q3⟩, q4, q5⟩ => ⟨rfl, by rw [resA_len r2, q3], use_sp S2 r2 q4 q5 fun v H' F' d S' l' i' q' => k v H' F' (.val d) S' (l2.trans l') i' q'⟩⟩
  refine PySem.W.callWith_KW0 (h₀ := X.base) I2.ok.mod.kin hk hall (thn (hkw.run pos pins _ σ H _ I2 h2) ?_) hpl
  rintro ws s2 ⟨zs, H2, I3, rz, l1, l2, q2⟩
  rw [hks]
  exact ⟨I3.kIn, hc pins s2 σ H2 [] zs [] ws Q I3 .nil rz l1 l2 q2⟩
end
end DD
/-! ### where a token is out: text.replace -/
namespace DD
open PySem PySem.Spec PyProof.Rows L2
theorem thnT {α : Type} {t : Sem α} {Q Q' : α → Shared → Prop} {P : Program} {w : World} {A : Around} {E : Value → Shared → Prop} {s : Shared} (h0 : 1 ≤ s.toks) (h : wpAny (model P w) A t Q E s) (hQ : ∀ a s', 1 ≤ s'.toks → Q a s' → Q' a s') : wpAny (model P w) A t Q' E s :=
  wpAny_mono (PySem.wpAny_toks_of h0 h) (fun a s' q => hQ a s' q.1 q.2) fun _ _ x => x.2
def PTT (X : Cx) (e : Expr) (t : TT) : Prop :=
  ∀ (pins : List (Addr × Obj)) (s : Shared) (σ : L2.St) (H : Hp) (Q : Bool → Hp → Prop), 1 ≤ s.toks → Inv X pins σ H s → t σ H Q → wpAny (model X.prog X.w) X.A (isTrue e X.env (eval e X.env)) (TP X pins σ Q) X.xe s
def PIt (X : Cx) (tg iter : Expr) (wi : TI) : Prop := PIT X tg iter wi
section
variable {P : Program} {w : World} {K : PySem.W.Frag} {mg : Str → Option Value} {base : Heap} {CX : CXT} {k j : Nat} {f : Addr} {fd : FuncData} {ps : List Str} {sp : Sp}
theorem fnG_ofT {qual nm : Str} {st : Stmt} {N : List Str} {dvs : List V} (F : FunX K nm qual st dvs f fd) (S : FnScope N ps (defScope st)) (hnc : ∀ y ∈ (defScope st).names, y.2 ≠ .cell) (hps : 1 ≤ ps.length) (len : ∀ vs H Q E, sp vs H Q E → vs.length = ps.length)
    (hbody : ∀ (cdv : Value) (A : Around) (outer : List Env) (s : Shared) (H : Hp) (vs : List V) (Q : VK) (E : XK), RoomG k (A.deeper (PyProof.Rows.envOfC qual (defScope st) s.heap.objs.size f cdv)) → sp vs H Q E →
      ∃ t, PSsT (cxOf CX P w K mg base N qual (defScope st) f cdv A outer s H E) (defBody st) t ∧ t { nx := fun _ H' => Q .non H', rt := Q } (L2.start N vs) H) : FnG P w K mg base CX (k + 1) f fd ps sp := by
  refine ⟨len, fun A outer s H args us vs Q E hr e0 hb r hsp => ?_⟩
  have hl := len _ _ _ _ hsp
  obtain ⟨oc, od, dV, kV, doc, pm, an, cdv, ct, osl, rfl, lk, hcd, _⟩ := F.ex
  have hul : us.length = ps.length := by rw [← r.length, hl]
  have KX : K.In s.heap := e0.mod.kin.keeps fun b o e => (e0.bs b o e).1
  have lim : s.heap.NoLimit := e0.mod.nolimit.keeps fun b o e => (e0.bs b o e).1
  have hloc : ∀ y ∈ ps.zip us, (defScope st).names.lookup y.1 = some .local := fun ⟨n, v⟩ hy => by
    rcases S.par n (List.of_mem_zip hy).1 with q | q
    · exact q
    · exact absurd rfl (hnc _ (PySem.mem_of_lookup q))
  refine codeAny_call_function hr.rm.depth (KX _ _ lk) rfl S.co S.gen rfl (PySem.W.codeRec_of KX hcd) (hb _ _ _ _ ?_)
  refine wpAny_newFunctionEnv hnc hloc (fun h1 hns hsb => ?_) S.kind
  have hz : (ps.zip us).length = ps.length := by rw [List.length_zip, hul, Nat.min_self]
  have keep : ∀ b o, s.heap.get? b = some o → h1.get? b = some o := fun b o e => hsb.extBut b o (Nat.ne_of_lt (Heap.lt_size e)) (Heap.get?_push_of_some _ e)
  have hcl : cellsFrom (s.heap.objs.size + 1) (defScope st).names [] = [] := cells_none _ _ _ hnc
  have hkl : ∀ y ∈ ps.zip us, (envOfC qual (defScope st) s.heap.objs.size f cdv).kindOf y.1 = some .local := fun y hy => by
    first
    | exact hloc y hy
    | (simp only [Env.kindOf]; exact hloc y hy)
    | (unfold Env.kindOf; rw [if_pos S.kind]; exact hloc y hy)
    | simpa [Env.kindOf, envOfC, newEnv, S.kind] using hloc y hy
  have hm : (bindL (envOfC qual (defScope st) s.heap.objs.size f cdv).kindOf (ps.zip us) fun _ => none) = fun x => (ps.zip us).reverse.lookup x := by
    funext y
    rw [bindL_loc _ _ hkl y]
    cases (ps.zip us).reverse.lookup y <;> rfl
  have x : InCallC s s.heap.objs.size (bindL (envOfC qual (defScope st) s.heap.objs.size f cdv).kindOf (ps.zip us) fun _ => none) (cellsFrom (s.heap.objs.size + 1) (defScope st).names [])
      (bindC (envOfC qual (defScope st) s.heap.objs.size f cdv).kindOf (ps.zip us) fun _ => none) ({ s with heap := h1, toks := s.toks + (ps.zip us).length } : Shared) := by
    rw [hm, hcl]
    exact ⟨⟨⟨_, _, rfl⟩, hns, keep, Nat.le_refl _⟩, fun n c hc => absurd hc (by simp), .nil, fun n c hc => absurd hc (by simp)⟩
  have henv : newEnv (defScope st) s.heap.objs.size mainGlobals [] (qual ++ ".<locals>.") (some f) cdv none builtinsNs = envOfC qual (defScope st) s.heap.objs.size f cdv := by
    unfold envOfC
    rw [hcl] <;> rfl
  have hto : 1 ≤ ({ s with heap := h1, toks := s.toks + (ps.zip us).length } : Shared).toks := by
    show 1 ≤ s.toks + (ps.zip us).length
    omega
  show ({ s with heap := h1, toks := s.toks + (ps.zip us).length } : Shared).heap.NoLimit ∧ codeAny (model P w) A (.func (defBody st) (newEnv (defScope st) s.heap.objs.size mainGlobals [] (qual ++ ".<locals>.") (some f) cdv none builtinsNs)) _ ({ s with heap := h1, toks := s.toks + (ps.zip us).length } : Shared)
  rw [henv]
  generalize ({ s with heap := h1, toks := s.toks + (ps.zip us).length } : Shared) = s1 at x hto ⊢
  refine ⟨lim.keeps x.toInCall.keep, codeAny_func ?_⟩
  obtain ⟨t, ht, hq⟩ := hbody cdv A outer s H vs Q E ⟨hr.rm.deeper _, hr.gd⟩ hsp
  have I : Inv (cxOf CX P w K mg base N qual (defScope st) f cdv A outer s H E) [] (start N vs) H s1 := inv_start S hr.rm.hd e0 hl r x
  refine wpAny_mono (ht [] s1 (start N vs) H _ hto I hq) (fun fl s' hs => ?_) fun e s' hs => hs
  have fin : ∀ {σ' : L2.St} {H' : Hp} {v : V} {u : Value}, Inv (cxOf CX P w K mg base N qual (defScope st) f cdv A outer s H E) [] σ' H' s' → RelV v u → Q v H' → CE outer P w H s Q u s' :=
    fun {σ' H' v u} J rv q => ⟨v, H', J.os, J.bare, J.base, J.hok, rv, q⟩
  cases fl with
  | ret u =>
    obtain ⟨v, σ', H', J, rv, q⟩ := hs
    exact fin J rv q
  | next =>
    obtain ⟨σ', H', J, q⟩ := hs
    exact fin (v := V.non) (u := Value.none) J rfl q
  | brk =>
    obtain ⟨_, _, _, q⟩ := hs
    exact False.elim q
  | cont =>
    obtain ⟨_, _, _, q⟩ := hs
    exact False.elim q
end
section
variable {X : Cx} {st : Stmt} {rest : List Stmt} {t u : TS}
theorem lc_coreT {pins : List (Addr × Obj)} {s : Shared} {σ : L2.St} {H : Hp} {Q : VK} {elt tg iter : Expr} {ifs : List Expr} {scope : Scope} {own : List (Str × Nat)} {pos pos' : Pos} {wi : TI} {g : TG} {tt : TT} {te : TE} {use : Option (Value → Sem Unit)} {Qf : Value → Shared → Prop}
    (hc : X.calm = true) (hN : X.N.Nodup) (I : Inv X pins σ H s) (hi : PIT X tg iter wi) (h0 : 1 ≤ s.toks) (ok : BlkOk X.N X.env.scope scope own)
    (hg : ∀ (s : Shared) (H : Hp) (C : Addr) (cl : List (Str × Addr)) (fp : List Addr), PG (X.blk s H scope (compEnvC scope cl C X.env) fp) tg g) (ht : ∀ (s : Shared) (H : Hp) (C : Addr) (cl : List (Str × Addr)) (fp : List Addr), PTs (X.blk s H scope (compEnvC scope cl C X.env) fp) ifs tt)
    (he : ∀ (s : Shared) (H : Hp) (C : Addr) (cl : List (Str × Addr)) (fp : List Addr), PE (X.blk s H scope (compEnvC scope cl C X.env) fp) elt te) (hs : ∀ x, foldedSetIterable iter X.env x = pure x)
    (h : tLc wi g tt te (own.map (·.2)) σ H Q)
    (hRR : ∀ D C s' m H', Inv X pins σ H' s' → Q (.ref D) H' → s'.heap.Ns C m → FpOk X pins H' C → compPost (model X.prog X.w) X.A X.xe use Qf (.ref D) C (.ok .next) s') :
    wpAny (model X.prog X.w) X.A (comprehension (.ListComp elt [⟨tg, iter, ifs, 0⟩] scope pos) scope X.env pos' (newList []) false (eval iter X.env) use) Qf X.xe s := by
  have hfree : ∀ y ∈ scope.names, y.2 = .free → ∃ c, X.env.cells.lookup y.1 = some c := fun y hy e => by
    rcases ok.free y hy e with k | k
    · exact I.ok.has _ (.inl k)
    · exact I.ok.has _ (.inr k)
  refine wpAny_comprehension_free (use := use) rfl hs (closure_ok hfree) ok.kind (fun y hy e => by rw [ok.uniq y hy, e])
    (thn (hi pins s σ H _ h0 I h) fun xv s1 hx => thn hx fun itv s2 h2 => ?_)
  obtain ⟨it, fp, tn, J, H2, e, I2, T, st2, f2, q⟩ := h2
  subst e
  refine wpAny_newObj_type (newEnv_comp ?_) (by show 0 ≤ sizeLine; decide)
  generalize hD : s2.heap.objs.size = D
  have hDn : H2 D = none := I2.hok.fresh (Nat.le_of_eq hD)
  obtain ⟨W, ⟨m0, w0⟩, turn⟩ := q D hDn
  -- the new list
  generalize hs3 : ({ s2 with heap := s2.heap.push { cls := .type "list", data := .seq ([] : List Value).toArray } } : Shared) = s3
  have I3 : Inv X pins σ (upd H2 D (.lst [])) s3 := by
    rw [← hs3]
    refine I2.laid (t' := s2.toks) (fun b o e => Heap.get?_push_of_some _ e) (Nat.le_of_eq hD) ⟨Nat.zero_le _, [], 0, .nil, ?_⟩
    rw [← hD]
    exact Heap.get?_push_size _ rfl
  have h3 : s3.heap = s2.heap.push { cls := .type "list", data := .seq ([] : List Value).toArray } := by rw [← hs3]
  have sz : ∀ b ∈ fp, b < s2.heap.objs.size := fun b hb => by
    obtain ⟨o, e, _⟩ := T.obj _ _ st2 b hb
    exact Heap.lt_size e
  have f3 : ∀ b ∈ fp, FpOk X pins (upd H2 D (.lst [])) b ∧ b < s3.heap.objs.size := fun b hb => by
    have hlt := sz b hb
    refine ⟨⟨?_, (f2 b hb).2⟩, by rw [h3, Heap.size_push]; exact Nat.lt_succ_of_lt hlt⟩
    rw [upd_ne (by rw [← hD]; exact Nat.ne_of_lt hlt)]
    exact (f2 b hb).1
  have st3 : tn 0 s3.heap := T.keep _ _ _ st2 fun b _ o e => by rw [h3]; exact Heap.get?_push_of_some _ e
  have I4 := block_start I3 ok hN f3
  have pg := hg s3 (upd H2 D (.lst [])) s3.heap.objs.size (cellsFrom (s3.heap.objs.size + 1) scope.names (cloFrom X.env.cells scope.names [])) fp
  have pt := ht s3 (upd H2 D (.lst [])) s3.heap.objs.size (cellsFrom (s3.heap.objs.size + 1) scope.names (cloFrom X.env.cells scope.names [])) fp
  have pe := he s3 (upd H2 D (.lst [])) s3.heap.objs.size (cellsFrom (s3.heap.objs.size + 1) scope.names (cloFrom X.env.cells scope.names [])) fp
  show codeAny _ _ (.compStart (.ListComp elt [⟨tg, iter, ifs, 0⟩] scope pos) 0 (.ref it) (.ref D) (compEnvC scope (cellsFrom (s3.heap.objs.size + 1) scope.names (cloFrom X.env.cells scope.names [])) s3.heap.objs.size X.env)) (compPost (model X.prog X.w) X.A X.xe use Qf (.ref D) s3.heap.objs.size) { s3 with heap := pushCells (s3.heap.push { cls := .type "dict", data := .dict #[] }) scope.names }
  have nfp : ∀ b ∈ fp, (upd H2 D (.lst [])) b = none := fun b hb => (f3 b hb).1.1
  generalize hce : compEnvC scope (cellsFrom (s3.heap.objs.size + 1) scope.names (cloFrom X.env.cells scope.names [])) s3.heap.objs.size X.env = ce at I4 pg pt pe ⊢
  have cL : ce.locals = s3.heap.objs.size := by subst hce; rfl
  generalize hH3 : upd H2 D (.lst []) = H3 at I3 I4 pg pt pe w0 nfp f3
  generalize hs4 : ({ s3 with heap := pushCells (s3.heap.push { cls := .type "dict", data := .dict #[] }) scope.names } : Shared) = s4 at I4 ⊢
  have st4 : tn 0 s4.heap := T.keep _ _ _ st3 fun b _ o e => by rw [← hs4]; exact pushCells_keeps _ _ _ _ (Heap.get?_push_of_some _ e)
  have stat : ∀ {σ' : L2.St} {H' : Hp} {s' : Shared}, Inv (X.blk s3 H3 scope ce fp) [] σ' H' s' → (∀ b ∈ fp, H' b = none) → ∀ b ∈ fp, FpOk (X.blk s3 H3 scope ce fp) [] H' b := fun {σ' H' s'} I' hn b hb =>
    ⟨hn b hb, (I'.ok.exf b hb).1, I'.ok.exfs b hb, .inl hb, fun x c e => (I'.ok.exf b hb).2 x c e, fun p hp => absurd (show p ∈ ([] : List (Addr × Obj)) ++ [] from hp) (by simp)⟩
  have loop : codeAny (model X.prog X.w) X.A (.compLoop (.ListComp elt [⟨tg, iter, ifs, 0⟩] scope pos) 0 (.ref it) (.ref D) ce) (compPost (model X.prog X.w) X.A X.xe use Qf (.ref D) s3.heap.objs.size) s4 := by
    refine compLoop_any (fun n s' => ∃ i H', Inv (X.blk s3 H3 scope ce fp) [] (wipe σ (own.map (·.2))) H' s' ∧ tn i s'.heap ∧ (∀ b ∈ fp, H' b = none) ∧ W i n H') ?_ m0 ⟨0, H3, I4, st4, nfp, w0⟩
    rintro n s5 ⟨i, H5, I5, st5, n5, w5⟩
    rcases turn i n H5 w5 with ⟨stop, qq⟩ | ⟨go, Nx, hNx, step⟩
    · have td := T.done (X.blk s3 H3 scope ce fp) rfl rfl rfl hc i [] s5 _ H5 (fun _ _ => False) I5 (stat I5 n5) st5 stop
      refine thnF td fun r s6 ⟨hr, I6⟩ => ?_
      subst hr
      -- back in the def's context
      have I7 : Inv X pins σ H5 s6 := I3.call' (ch := fp) I6.os I6.base I6.hok I6.bare fun b hb => ⟨(f3 b hb).1.2.2.2.1, (f3 b hb).1.2.1, (f3 b hb).1.2.2.2.2.1, (f3 b hb).1.2.2.2.2.2⟩
      have nC : H5 s3.heap.objs.size = none := by
        have z : H5 ce.locals = none := I6.free
        rw [cL] at z
        exact z
      obtain ⟨m, hn, _⟩ := I6.loc
      have hn : s6.heap.Ns ce.locals m := hn
      rw [cL] at hn
      exact hRR D s3.heap.objs.size s6 m H5 I7 qq hn (I3.fpOk (Nat.le_refl _) nC)
    · have ti := T.item (X.blk s3 H3 scope ce fp) rfl rfl rfl hc i [] s5 _ H5 (fun _ _ => False) I5 (stat I5 n5) st5 go
      refine thnF ti fun r s6 ⟨u, hr, h6⟩ => ?_
      subst hr
      refine thnF h6 fun _ s7 ⟨x, H7, I7, r7, y7, st7, n7⟩ => ?_
      have I7' := I7.pinned (stat I7 n7) (T.obj _ _ st7)
      refine thnF (pg.run _ s7 _ H7 x u _ I7' r7 (step x H7 y7)) fun _ s8 ⟨σ8, H8, I8, hw8, q8⟩ => ?_
      refine thnF (pt.run _ s8 σ8 H8 _ I8 q8) fun b s9 ⟨H9, I9, q9⟩ => ?_
      -- the turn's end
      have fin : ∀ {s' : Shared} {H' : Hp}, Inv (X.blk s3 H3 scope ce fp) ([] ++ pinsAt fp s7.heap) σ8 H' s' → Nx H' → ∃ m, m < n ∧ ∃ i H', Inv (X.blk s3 H3 scope ce fp) [] (wipe σ (own.map (·.2))) H' s' ∧ tn i s'.heap ∧ (∀ b ∈ fp, H' b = none) ∧ W i m H' := fun {s' H'} I' nx => by
        obtain ⟨m', hm, w'⟩ := hNx H' nx
        have pin' : ∀ b ∈ fp, ∀ o, s7.heap.get? b = some o → s'.heap.get? b = some o ∧ H' b = none := fun b hb o e =>
          let z := I'.pin (b, o) (List.mem_append_right _ (List.mem_append_right _ (mem_pinsAt hb e)))
          ⟨z.1, z.2.1⟩
        have hl : (wipe σ (own.map (·.2))).length = σ8.length := by rw [← hw8, wipe_length]
        refine ⟨m', hm, i + 1, H', (I'.unpinned (pins := [])).weak hl (fun j v e => ?_), T.keep _ _ _ st7 fun b hb o e => (pin' b hb o e).1, fun b hb => ?_, w'⟩
        · rw [← hw8] at e
          exact (wipe_some e).1
        · obtain ⟨o, e, _⟩ := T.obj _ _ st7 b hb
          exact (pin' b hb o e).2
      cases b with
      | false =>
        simp only [Bool.false_eq_true, if_false] at q9 ⊢
        exact fin I9 q9
      | true =>
        simp only [if_true] at q9 ⊢
        refine thnF (pe.run _ s9 σ8 H9 _ I9 q9) fun z s10 ⟨yv, H10, I10, r10, acc, hD10, hz10, nx⟩ => ?_
        exact app_ok (X := X.blk s3 H3 scope ce fp) I10 hD10 hz10 r10 fun s11 I11 => fin I11 nx
  exact codeAny_compStart_list loop (T.self X.A 0 _ _ _ st4 loop)
theorem pst_forT {tg iter : Expr} {body : List Stmt} {wi : TI} {g : TG} {tb : TS} {pos : Pos} (hp : PassesOwn (model X.prog X.w) X.A X.env X.xe) (hc : X.calm = true) (hi : PI X tg iter wi) (hg : PG X tg g) (hb : PSsT X body tb)
    (hs : ∀ x, foldedSetIterable iter X.env x = pure x := by intro _; rfl) : PST X (.For tg iter body [] pos) (tFor wi g tb) := by
  intro pins s σ H D h0 I h
  refine wpAny_For (thnT h0 (hi.run pins s σ H _ I h) fun v s1 k1 h1 => thnT k1 h1 fun itv s2 k2 h2 => ?_) hs
  obtain ⟨it, fp, tn, J, H2, e, I2, T, st2, f2, W, ⟨m0, w0⟩, turn⟩ := h2
  subst e
  have stat : ∀ {H' : Hp}, (∀ b ∈ fp, H' b = none) → ∀ b ∈ fp, FpOk X pins H' b := fun hn b hb => ⟨hn b hb, (f2 b hb).2⟩
  refine codeAny_forLoop_any (fun n s' => 1 ≤ s'.toks ∧ ∃ i σ' H', Inv X pins σ' H' s' ∧ tn i s'.heap ∧ (∀ b ∈ fp, H' b = none) ∧ W i n σ' H') ?_ m0 ⟨k2, 0, σ, H2, I2, st2, fun b hb => (f2 b hb).1, w0⟩
  rintro n s3 ⟨k3, i, σ3, H3, I3, st3, fr3, w3⟩
  rcases turn i n σ3 H3 w3 with ⟨stop, qn⟩ | ⟨go, N, hN, step⟩
  · refine wpAny_passesOwn hp (thn (T.done X rfl rfl rfl hc i pins s3 σ3 H3 X.xe I3 (stat fr3) st3 stop) fun r s4 ⟨hr, I4⟩ => ?_)
    subst hr
    exact wpAny_execs_nil ⟨σ3, H3, I4, qn⟩
  · refine wpAny_passesOwn hp (thnT k3 (T.item X rfl rfl rfl hc i pins s3 σ3 H3 X.xe I3 (stat fr3) st3 go) fun r s4 k4 ⟨u, hr, h4⟩ => ?_)
    subst hr
    refine wpAny_passesOwn hp (thnT k4 h4 fun _ s5 k5 ⟨x, H5, I5, r5, y5, st5, fr5⟩ => ?_)
    have I5' := I5.pinned (stat fr5) (T.obj _ _ st5)
    refine wpAny_passesOwn hp (thnT k5 (hg.run _ s5 σ3 H5 x u _ I5' r5 (step x H5 y5)) fun _ s6 k6 ⟨σ6, H6, I6, q6⟩ => ?_)
    refine wpAny_passesOwn hp (thnT k6 (hb _ s6 σ6 H6 _ k6 I6 q6) fun f s7 k7 q7 => ?_)
    have again : ∀ {σ7 : L2.St} {H7 : Hp}, Inv X (pins ++ pinsAt fp s5.heap) σ7 H7 s7 → N σ7 H7 → ∃ m, m < n ∧ 1 ≤ s7.toks ∧ ∃ i σ' H', Inv X pins σ' H' s7 ∧ tn i s7.heap ∧ (∀ b ∈ fp, H' b = none) ∧ W i m σ' H' := fun {σ7 H7} I7 n7 => by
      obtain ⟨m', hm, w7⟩ := hN σ7 H7 n7
      refine ⟨m', hm, k7, i + 1, σ7, H7, I7.unpinned, T.keep _ _ _ st5 fun b hb o e => (I7.pin (b, o) (List.mem_append_right _ (List.mem_append_right _ (mem_pinsAt hb e)))).1, fun b hb => ?_, w7⟩
      obtain ⟨o, e, d⟩ := T.obj _ _ st5 b hb
      exact (I7.pin (b, o) (List.mem_append_right _ (List.mem_append_right _ (mem_pinsAt hb e)))).2.1
    cases f with
    | next => obtain ⟨σ7, H7, I7, n7⟩ := q7; exact again I7 n7
    | cont => obtain ⟨σ7, H7, I7, n7⟩ := q7; exact again I7 n7
    | brk => obtain ⟨σ7, H7, I7, q7⟩ := q7; exact ⟨σ7, H7, I7.unpinned, q7⟩
    | ret v => obtain ⟨x7, σ7, H7, I7, r7, q7⟩ := q7; exact ⟨x7, σ7, H7, I7.unpinned, r7, q7⟩
end
section
variable {X : Cx} {T : Tb} {st : Stmt} {rest x y : List Stmt} {t u t' : TS} {e c l r a b tg iter elt : Expr} {es ifs : List Expr} {pos p p' : Pos} {te te' : TE} {ta ta' : TA} {tc : TT} {wa wb we : W} {ws : WA} {s1 s2 : WS} {wc wt : WT} {wi : WI} {q : Pat} {R : R2} {f : P2f}
theorem PST.weak (h : PST X st t) (k : ∀ D σ H, t' D σ H → t D σ H) : PST X st t' := fun pins s σ H D h0 I z => h pins s σ H D h0 I (k _ _ _ z)
theorem PSsT.weak (h : PSsT X rest t) (k : ∀ D σ H, t' D σ H → t D σ H) : PSsT X rest t' := fun pins s σ H D h0 I z => h pins s σ H D h0 I (k _ _ _ z)
theorem PET.weak (h : PET X e te) (k : ∀ σ H Q, te' σ H Q → te σ H Q) : PET X e te' := fun pins s σ H Q h0 I z => h pins s σ H Q h0 I (k _ _ _ z)
theorem PAT.weak (h : PAT X es ta) (k : ∀ σ H Q, ta' σ H Q → ta σ H Q) : PAT X es ta' := fun pos pins s σ H Q h0 I z => h pos pins s σ H Q h0 I (k _ _ _ z)
theorem PET.of (h : PE X e te) : PET X e te := fun pins s σ H Q _ I z => h.run pins s σ H Q I z
theorem PTT.of (h : PT X e tc) : PTT X e tc := fun pins s σ H Q _ I z => h.run pins s σ H Q I z
theorem PSsT.nox (h : PSsT X.nox rest t) : PSsT X rest t := fun pins s σ H D h0 I hw =>
  wpAny_mono (h pins s σ H D h0 (I.wish _) hw) (fun _ _ q => q.unwish) fun _ _ z => False.elim z
theorem sT_seq (h1 : PST X st (liftS T s1)) (h2 : PSsT X rest (liftS T s2)) : PSsT X (st :: rest) (liftS T (wSeq s1 s2)) := by
  refine PSsT.weak (psst_cons h1 h2) fun D σ H ⟨e, F, δ, Dd, S, w, k1, k2, k3, k4⟩ => ?_
  refine ⟨e, F, δ, { Dd with nx := s2 Dd }, S, w, fun σ' H' F' δ' S' l' q' => ?_, k2, k3, k4⟩
  exact ⟨e, F', δ', Dd, S', q', fun σ'' H'' F'' δ'' S'' l'' q'' => k1 σ'' H'' F'' δ'' S'' (l'.trans l'') q'', fun v σ'' H'' F'' δ'' sv S'' l'' r'' q'' => k2 v σ'' H'' F'' δ'' sv S'' (l'.trans l'') r'' q'',
    fun σ'' H'' F'' δ'' S'' l'' q'' => k3 σ'' H'' F'' δ'' S'' (l'.trans l'') q'', fun σ'' H'' F'' δ'' S'' l'' q'' => k4 σ'' H'' F'' δ'' S'' (l'.trans l'') q''⟩
theorem sT_one (h : PST X st (liftS T s1)) : PSsT X [st] (liftS T s1) := PSsT.weak (psst_cons h (PSsT.of pss_nil)) fun _ _ _ z => z
theorem sT_nil : PSsT X [] (liftS T wSkip) := PSsT.of s_nil
theorem wif_lift {D : Ends} {σ : L2.St} {H : Hp} (h : liftS T (wIfS wc s1 s2) D σ H) : tIfS (liftT T wc) (liftS T s1) (liftS T s2) D σ H := by
  obtain ⟨e, F, δ, Dd, S, w, k1, k2, k3, k4⟩ := h
  refine useT S w fun c H1 F1 S1 l1 q1 => ?_
  cases c
  all_goals
    exact ⟨e, F1, δ, Dd, S1, q1, fun σ'' H'' F'' δ'' S'' l'' q'' => k1 σ'' H'' F'' δ'' S'' (l1.trans l'') q'', fun v σ'' H'' F'' δ'' sv S'' l'' r'' q'' => k2 v σ'' H'' F'' δ'' sv S'' (l1.trans l'') r'' q'',
      fun σ'' H'' F'' δ'' S'' l'' q'' => k3 σ'' H'' F'' δ'' S'' (l1.trans l'') q'', fun σ'' H'' F'' δ'' S'' l'' q'' => k4 σ'' H'' F'' δ'' S'' (l1.trans l'') q''⟩
theorem sT_ifT (hc : PTT X c (liftT T wc)) (ha : PSsT X x (liftS T s1)) (hb : PSsT X y (liftS T s2)) : PST X (.If c x y pos) (liftS T (wIfS wc s1 s2)) := by
  intro pins s σ H D h0 I h
  refine wpAny_If (thnT h0 (hc pins s σ H _ h0 I (wif_lift h)) fun d z k1 ⟨H1, I1, q1⟩ => ?_)
  cases d with
  | true => exact ha pins z σ H1 D k1 I1 q1
  | false => exact hb pins z σ H1 D k1 I1 q1
theorem sT_if (hc : PT X c (liftT T wc)) (ha : PSsT X x (liftS T s1)) (hb : PSsT X y (liftS T s2)) : PST X (.If c x y pos) (liftS T (wIfS wc s1 s2)) := sT_ifT (PTT.of hc) ha hb
theorem sT_for {body : List Stmt} (hp : PassesOwn (model X.prog X.w) X.A X.env X.xe) (hc : X.calm = true) (hi : PI X tg a (liftI T wi)) (hg : PG X tg (liftG T q)) (hb : PSsT X body (liftS T s1))
    (hs : ∀ x, foldedSetIterable a X.env x = pure x := by intro _; rfl) : PST X (.For tg a body [] pos) (liftS T (wFor q wi s1)) := PST.weak (pst_forT hp hc hi hg hb hs) fun _ _ _ h => for_lift h
theorem sT_set (i : Nat) {x : Str} {pos' : Pos} (hN : X.N.Nodup) (ha : PET X a (lift T wa)) (hi : X.N[i]? = some x := by rfl) (hx : Loc X.env.scope x := by first | exact Or.inl rfl | exact Or.inr rfl) (hs : swapsWith a (some (.Name x pos')) pos.line X.env = pure false := by rfl) (hf : X.fn x = true ∨ X.env.scope.names.lookup x = some .local := by first | exact .inl rfl | exact .inr rfl) :
    PST X (.Assign [.Name x pos'] a pos) (liftS T (wAsg i wa)) := by
  intro pins s σ H D h0 I h
  have h2 : tAsg (lift T wa) (gName i) D σ H := by
    obtain ⟨e, F, δ, Dd, S, w, k1, k2, k3, k4⟩ := h
    refine ⟨e, F, δ, _, S, w, fun v H' F' sv S' l' r' q' => ?_⟩
    cases sv with
    | val d => exact k1 _ H' F' _ (S'.set r' (.inl rfl)) l' q'
    | own ds => exact k1 _ H' F' _ (S'.set r' (.inr ⟨ds, rfl⟩)) l' q'
    | bag => exact q'.elim
    | slf c ds => exact q'.elim
    | pr _ _ => exact q'.elim
    | exc _ _ => exact q'.elim
  refine wpAny_Assign_Name (thn (ha pins s σ H _ h0 I h2) fun v z ⟨y, H1, I1, r1, q1⟩ => ?_) hs
  exact store_ok I1 hN hi hx r1 (fun s2 I2 => ⟨_, H1, I2, q1⟩) hf
theorem sT_frz (is : List Nat) (h : PST X st (liftS T s1)) : PST X st (liftS T (wFrz is s1)) := PST.weak h fun D σ H ⟨e, F, δ, Dd, S, w, k1, k2, k3, k4⟩ => by
  obtain ⟨F1, l1, S1⟩ := S.frzD is
  exact ⟨e, F1, _, Dd, S1, w, fun σ'' H'' F'' δ'' S'' l'' q'' => k1 σ'' H'' F'' δ'' S'' (l1.trans l'') q'', fun v σ'' H'' F'' δ'' sv S'' l'' r'' q'' => k2 v σ'' H'' F'' δ'' sv S'' (l1.trans l'') r'' q'',
    fun σ'' H'' F'' δ'' S'' l'' q'' => k3 σ'' H'' F'' δ'' S'' (l1.trans l'') q'', fun σ'' H'' F'' δ'' S'' l'' q'' => k4 σ'' H'' F'' δ'' S'' (l1.trans l'') q''⟩
theorem aT_nil : PAT X [] (liftA T wNil) := PAT.weak pat_nil fun σ H Q ⟨e, F, δ, Qd, S, w, k⟩ => k [] H F [] S (Le.refl F) trivial w
theorem aT_cons (ha : PET X a (lift T wa)) (hr : PAT X es (liftA T ws)) (hs : starEach (a :: es) X.env = (false, eval a X.env) :: starEach es X.env := by rfl) : PAT X (a :: es) (liftA T (wCons wa ws)) :=
  PAT.weak (pat_cons ha hr hs) fun _ _ _ h => acons_lift rfl h
theorem dT_lst (h : PAT X es (liftA T ws)) : PET X (.List es pos) (lift T (wLst ws)) := by
  refine PET.weak (pet_lst h) fun σ H Q ⟨e, F, δ, Qd, S, w, k⟩ => ?_
  refine useA S w fun vs H1 F1 ds S1 l1 i1 ⟨z, w1⟩ => ⟨by rw [i1.len]; exact z, fun q hq => ?_⟩
  obtain ⟨S2, r2⟩ := res_own S1 hq i1
  exact k _ _ _ (.own ds) S2 l1 r2 w1
theorem dT_op {op : Operator} (ho : OpR X (binaryOp op) R) (hp : P2 T R f) (ha : PET X a (lift T wa)) (hb : PET X b (lift T wb)) : PET X (.BinOp a op b pos) (lift T (wOp f wa wb)) := by
  intro pins s σ H Q h0 I h
  refine wpAny_BinOp (thnT h0 (ha pins s σ H _ h0 I (lift_op hp h)) fun v z k1 ⟨x, H1, I1, r1, q1⟩ => thn (hb pins z σ H1 _ k1 I1 q1) fun u z2 ⟨y, H2, I2, r2, q2⟩ => ?_)
  exact ho pins z2 σ H2 x y v u _ I2 r1 r2 q2
theorem tT_cmp {op : CmpOp} (ho : OpR X (compareOp op) R) (hp : P2 T R f) (ha : PET X a (lift T wa)) (hb : PET X b (lift T wb)) (hm : behindInMarks op b = false := by first | exact nomark _ (by decide) (by decide) | rfl) : PTT X (.Compare a [op] [b] pos) (liftT T (wTB (wOp f wa wb))) := by
  intro pins s σ H Q h0 I h
  have h2 : tTest (tOp R (lift T wa) (lift T wb)) σ H Q := by
    obtain ⟨e, F, δ, Qd, S, w, k⟩ := h
    refine lift_op hp ⟨e, F, δ, _, S, w, fun v H1 F1 sv S1 l1 r1 q1 => ?_⟩
    split at q1
    · cases (show Is T F1 v _ from r1).blE
      exact ⟨_, rfl, k _ H1 F1 S1 l1 q1⟩
    · exact q1.elim
  refine wpAny_isTrue_Compare1 (thnT h0 (ha pins s σ H _ h0 I h2) fun v z k1 ⟨x, H1, I1, r1, q1⟩ => thn (hb pins z σ H1 _ k1 I1 q1) fun u z2 ⟨y, H2, I2, r2, q2⟩ =>
    thn (ho pins z2 σ H2 x y v u _ I2 r1 r2 q2) fun c z3 ⟨o, H3, I3, r3, k, e, q3⟩ => ?_) hm
  subst e
  cases r3
  exact wpAny_truthy_bool ⟨H3, I3, q3⟩
theorem iT_seq (ha : PET X a (lift T wa)) (hK : T.K = X.K := by rfl) : PIT X tg a (liftI T (wIt wa)) := by
  intro pins s σ H R h0 I ⟨e, F, δ, Qd, S, w, k⟩
  have h2 : lift T wa σ H fun x H1 => (∃ p, x = .ref p ∧ (∃ xs, SqL X.K H1 p xs) ∧ R (Itl X.K p) H1) ∨ (∃ p, x = .ref p ∧ (∃ xs, SqT X.K H1 p xs) ∧ R (Itt X.K p) H1) ∨ ∃ z, x = .str z ∧ R (Its z) H1 := by
    refine use (te := lift T wa) S w fun v H1 F1 d S1 l1 i1 q1 => ?_
    split at q1
    · obtain ⟨q, vs, rfl, h1, i1⟩ := i1.lstE
      exact .inl ⟨q, rfl, ⟨vs, SqL.of (S1.sub _ _ h1)⟩, k _ H1 F1 _ S1 l1 (walks_list h1 i1) q1⟩
    · obtain ⟨q, vs, rfl, h1, i1⟩ := i1.tupE
      rw [hK] at h1
      exact .inr (.inl ⟨q, rfl, ⟨vs, sqT_mono S1.sub h1⟩, k _ H1 F1 _ S1 l1 (walks_tup h1 i1) q1⟩)
    · cases i1.strE
      exact .inr (.inr ⟨_, rfl, k _ H1 F1 _ S1 l1 walks_str q1⟩)
    all_goals exact q1.elim
  exact thn (ha pins s σ H _ h0 I h2) fun u z ⟨x, H1, I1, r1, q1⟩ => IterR.or iter_lst (IterR.or iter_tpl iter_txt) pins z σ H1 x u R I1 r1 q1
theorem dT_lc {scope : Scope} {own : List (Str × Nat)} (hc : X.calm = true) (hN : X.N.Nodup) (hi : PIT X tg iter (liftI T wi)) (ok : BlkOk X.N X.env.scope scope own)
    (hg : ∀ (s : Shared) (H : Hp) (C : Addr) (cl : List (Str × Addr)) (fp : List Addr), PG (X.blk s H scope (compEnvC scope cl C X.env) fp) tg (liftG T q)) (ht : ∀ (s : Shared) (H : Hp) (C : Addr) (cl : List (Str × Addr)) (fp : List Addr), PTs (X.blk s H scope (compEnvC scope cl C X.env) fp) ifs (liftT T wt))
    (he : ∀ (s : Shared) (H : Hp) (C : Addr) (cl : List (Str × Addr)) (fp : List Addr), PE (X.blk s H scope (compEnvC scope cl C X.env) fp) elt (lift T we)) (hq : ∀ i ∈ q.slots, i ∈ own.map (·.2)) (hs : ∀ x, foldedSetIterable iter X.env x = pure x := by intro _; rfl) :
    PET X (.ListComp elt [⟨tg, iter, ifs, 0⟩] scope pos) (lift T (wLc q (own.map (·.2)) wi wt we)) := by
  intro pins s σ H Q h0 I h
  rw [eval_ListComp]
  refine lc_coreT hc hN I hi h0 ok hg ht he hs (lc_lift hq h) fun D C s' m H' I' q hn f => ⟨m, hn, fun h'' sb => ?_⟩
  obtain ⟨f0, f1, f2, f3, f4, f5⟩ := f
  exact ⟨.ref D, H', I'.turned (t' := s'.toks) (fun b o hb e => (sb.2 b hb).trans e) f0 f1 f3 f4 f5, rfl, q⟩
/-! ### text.replace(y, z), text.replace(y, z, 1), both texts written -/
/-- the first place where y stands is written anew -/
def repl1S (x y z : Str) : Str := if ((Builtin.Str.occurrences x y 0 x.length 1).isEmpty || (y.length == 0 && z.length == 0)) = true then x else Builtin.Str.glued z (Builtin.Str.partsBetween x (Builtin.Str.occurrences x y 0 x.length 1) y.length)
def repl1D (y z : Str) : P1f := fun d Q => match d with
  | .str x => x.length + 2 * z.length ≤ 16777216 ∧ Q (.val (.str (repl1S x y z)))
  | _ => False
def replD (y z : Str) : P1f := fun d Q => match d with
  | .str x => x.length + (x.length + 1) * z.length ≤ 16777216 ∧ Q (.val (.str (Txt.replace x y z)))
  | _ => False
theorem repl_strD {g : P1f} {L : Str → Prop} {Z : Str → Str} (hg : ∀ d Qd, g d Qd → ∃ x, d = .str x ∧ L x ∧ Qd (.val (.str (Z x)))) {σ : L2.St} {H : Hp} {Q : VK} (h : lift T (wUn g wa) σ H Q) :
    lift T wa σ H fun v H1 => ∃ x, v = .str x ∧ L x ∧ Q (.str (Z x)) H1 := by
  obtain ⟨e, F, δ, Qd, S, w, k⟩ := h
  refine use (te := lift T wa) S w fun v H1 F1 d S1 l1 i1 w1 => ?_
  obtain ⟨x, rfl, h1, h2⟩ := hg _ _ w1
  cases i1.strE
  exact ⟨x, rfl, h1, k _ H1 F1 (.val (.str (Z x))) S1 l1 (Is.str : Is T F1 (.str (Z x)) (.str (Z x))) h2⟩
theorem dT_repl {y z : Str} {j k : Nat} {c0 c1 apos : Pos} (ho : PE X a (lift T wa)) (hyz : (y == z) = false := by decide +kernel)
    (hst : starEach [.Constant (.str y) j c0, .Constant (.str z) k c1] X.env = [(false, eval (.Constant (.str y) j c0) X.env), (false, eval (.Constant (.str z) k c1) X.env)] := by rfl)
    (hbase : attributeBase a "replace" X.env (eval a X.env) = eval a X.env := by rfl) (hline : (apos.endLine == pos.line) = true := by rfl) :
    PET X (.Call (.Attribute a "replace" apos) [.Constant (.str y) j c0, .Constant (.str z) k c1] [] pos) (lift T (wUn (replD y z) wa)) := by
  intro pins s σ H Q h0 I h
  have h2 := repl_strD (L := fun x => x.length + (x.length + 1) * z.length ≤ 16777216) (Z := fun x => Txt.replace x y z) (fun d Qd g => by
    cases d with
    | str x => exact ⟨x, rfl, g.1, g.2⟩
    | _ => exact g.elim) h
  refine PySem.Call_method2 hbase hst hline (thnT h0 (ho.run pins s σ H _ I h2) fun v s1 k1 q => ?_)
  obtain ⟨v', H1, I1, r1, x, rfl, hb, q⟩ := q
  obtain ⟨tx, rfl⟩ := r1
  refine ⟨"str", _, PySem.F.plainAttrs_str, PySem.F.slot_str_replace, PySem.F.type_str_replace, typeIs_str _ _ _, (fun _ e => nomatch e), Calls.callWith_builtin rfl (Calls.evalArgs_plain (Calls.spliced_cons ?_))⟩
  refine Calls.Constant_str (Calls.spliced_cons (Calls.Constant_str (Calls.spliced_nil ?_)))
  exact PySem.SC.replace (by show s1.toks ≠ 0; omega) (by show s1.toks + 1 ≠ 0; omega) (by show s1.toks ≠ s1.toks + 1; omega) hyz hb fun t' k => ⟨.str _, H1, I1.tok k, ⟨t', rfl⟩, q⟩
end
section
open PySem.Builtin.Str
theorem occ1_len (x y : Str) : (occurrences x y 0 x.length 1).length ≤ 1 := StrLaws.occ_length_le x y 0 x.length 1
theorem gives_repl1 (x y z : Str) (t u v o : Tok)
    (hf : ((occurrences x y 0 x.length 1).isEmpty || (y.length == 0 && z.length == 0)) = false →
      (u == 0 || v == 0) = false ∧ (u == v) = false ∧ (y == z) = false ∧ tooLong (x.length + (occurrences x y 0 x.length 1).length * z.length) = false) :
    Gives (Builtin.«str.replace» ⟨[.str x t, .str y u, .str z v, .int 1 o], []⟩) (if ((occurrences x y 0 x.length 1).isEmpty || (y.length == 0 && z.length == 0)) = true then .val (.str x t) else .str (glued z (partsBetween x (occurrences x y 0 x.length 1) y.length))) := by
  show Gives (if ((occurrences x y 0 x.length 1).isEmpty || (y.length == 0 && z.length == 0)) = true then (do rule "str.replace.nothing"; ret (.str x t)) else
          (do let same ← isSame (.str y u) (.str z v)
              if same = true then (do rule "str.replace.old-is-new"; ret (.str x t)) else
              if tooLong (x.length + (occurrences x y 0 x.length 1).length * z.length) = true then unsupported "str.replace:memory" else
              retStr (glued z (partsBetween x (occurrences x y 0 x.length 1) y.length)))) _
  cases hc : ((occurrences x y 0 x.length 1).isEmpty || (y.length == 0 && z.length == 0))
  · obtain ⟨h0, huv, hyz, hl⟩ := hf hc
    rw [isSame_str_other y z u v h0 huv hyz, hl]
    exact .of_eq rfl
  · exact .rule (.of_eq rfl)
theorem call_repl1 {prog : Program} {w : World} {A : Around} {E : Value → Shared → Prop} {s : Shared} {x y z : Str} {t u v o : Tok} {Q : Value → Shared → Prop} (hu : u ≠ 0) (hv : v ≠ 0) (huv : u ≠ v) (hyz : (y == z) = false) (hb : x.length + 2 * z.length ≤ 16777216)
    (hq : ∀ t' k, Q (.str (repl1S x y z) t') { s with toks := k }) : wpAny (model prog w) A (call (.builtin "str.replace") [.str x t, .str y u, .str z v, .int 1 o]) Q E s := by
  have h1 := occ1_len x y
  have h2 : (occurrences x y 0 x.length 1).length * z.length ≤ 1 * z.length := Nat.mul_le_mul_right _ h1
  have hl : tooLong (x.length + (occurrences x y 0 x.length 1).length * z.length) = false := by
    unfold tooLong sizeLine
    exact decide_eq_false (by omega)
  refine call_gives PySem.F.slot_str_replace (typeIs_str _ _ _) PySem.F.entry_str_replace (PySem.F.args_str_replace_4 _ _ _ _)
    (gives_repl1 x y z t u v o fun _ => ⟨by simp [hu, hv], by simp [huv], hyz, hl⟩) ?_
  unfold repl1S at hq
  cases hc : ((occurrences x y 0 x.length 1).isEmpty || (y.length == 0 && z.length == 0))
  · rw [hc] at hq
    simp only [Bool.false_eq_true, if_false] at hq ⊢
    refine ⟨?_, hq _ _⟩
    have hy : (glued y (partsBetween x (occurrences x y 0 x.length 1) y.length)).length = x.length := by rw [StrLaws.glued_between_self]
    rw [size_glued, length_partsBetween, Nat.add_sub_cancel] at hy
    show (glued z _).length ≤ sizeLine
    rw [size_glued, length_partsBetween, Nat.add_sub_cancel]
    rw [sizeLine_eq]
    omega
  · rw [hc] at hq
    simp only [if_true] at hq ⊢
    exact hq t s.toks
end
section
variable {X : Cx} {T : Tb} {a : Expr} {pos : Pos} {wa : W}
theorem dT_repl1 {y z : Str} {j k i : Nat} {c0 c1 c2 apos : Pos} (ho : PE X a (lift T wa)) (hyz : (y == z) = false := by decide +kernel)
    (hst : starEach [.Constant (.str y) j c0, .Constant (.str z) k c1, .Constant (.int 1) i c2] X.env = [(false, eval (.Constant (.str y) j c0) X.env), (false, eval (.Constant (.str z) k c1) X.env), (false, eval (.Constant (.int 1) i c2) X.env)] := by rfl)
    (hbase : attributeBase a "replace" X.env (eval a X.env) = eval a X.env := by rfl) (hline : (apos.endLine == pos.line) = true := by rfl) :
    PET X (.Call (.Attribute a "replace" apos) [.Constant (.str y) j c0, .Constant (.str z) k c1, .Constant (.int 1) i c2] [] pos) (lift T (wUn (repl1D y z) wa)) := by
  intro pins s σ H Q h0 I h
  have h2 := repl_strD (L := fun x => x.length + 2 * z.length ≤ 16777216) (Z := fun x => repl1S x y z) (fun d Qd g => by
    cases d with
    | str x => exact ⟨x, rfl, g.1, g.2⟩
    | _ => exact g.elim) h
  refine wpAny_Call_method_lateS hbase (by rw [hst]; rfl) hline ?_
  rw [hst]
  refine thnT h0 (ho.run pins s σ H _ I h2) fun v s1 k1 q => ?_
  obtain ⟨v', H1, I1, r1, x, rfl, hb, q⟩ := q
  obtain ⟨tx, rfl⟩ := r1
  refine ⟨"str", _, PySem.F.plainAttrs_str, PySem.F.slot_str_replace, PySem.F.type_str_replace, typeIs_str _ _ _, (fun _ e => nomatch e), Calls.callWith_builtin rfl (Calls.evalArgs_plain (Calls.spliced_cons ?_))⟩
  refine Calls.Constant_str (pos := c0) (k := j) ?_
  refine Calls.spliced_cons ?_
  refine Calls.Constant_str (pos := c1) (k := k) ?_
  refine Calls.spliced_cons ?_
  refine wpAny_Constant_int (pos := c2) (k := i) ?_
  refine Calls.spliced_nil ?_
  exact call_repl1 (by show s1.toks ≠ 0; omega) (by show s1.toks + 1 ≠ 0; omega) (by show s1.toks ≠ s1.toks + 1; omega) hyz hb fun t' k => ⟨.str _, H1, I1.tok k, ⟨t', rfl⟩, q⟩
end
/-! ### a def with such a text -/
theorem fn_DT {P : Program} {w : World} {K : PySem.W.Frag} {mg : Str → Option Value} {base : Heap} {T : Tb} {nm qual : Str} {st : Stmt} {f : Addr} {fd : FuncData} {N ps : List Str} {k : Nat} {sp : FS} {wb : WS} {dvs : List V} (F : FunX K nm qual st dvs f fd) (S : FnScope N ps (defScope st)) (hnc : ∀ y ∈ (defScope st).names, y.2 ≠ .cell) (hps : 1 ≤ ps.length)
    (hb : ∀ (cdv : Value) (A : Around) (outer : List Env) (s : Shared) (H : Hp) (E : XK), RoomG k (A.deeper (PyProof.Rows.envOfC qual (defScope st) s.heap.objs.size f cdv)) → PSsT (cxOf CX0 P w K mg base N qual (defScope st) f cdv A outer s H E).nox (defBody st) (liftS T wb))
    (hw : ∀ svs Qd, sp svs Qd → svs.length = ps.length ∧ wb (endD Qd) (startD N.length svs)) : FnG P w K mg base CX0 (k + 1) f fd ps (liftSp T sp) := by
  refine fnG_ofT F S hnc hps (fun vs H Q E ⟨F0, svs, Qd, h1, h2, h3, h4, _⟩ => h2.len.trans (hw svs Qd h4).1) fun cdv A outer s H vs Q E hr ⟨F0, svs, Qd, h1, h2, h3, h4, h5⟩ => ⟨_, PSsT.nox (hb cdv A outer s H E hr), ?_⟩
  have S0 := sim_start (N := N) h1 h2 h3
  have grow : ∀ F' δ' σ' H', Sim T ⟨F0, H, bagsOf vs svs, T.tb, []⟩ F' δ' σ' H' → Grow T (bagsOf vs svs) F0 H F' H' := fun F' δ' σ' H' S' => ⟨S'.base, S'.sub, S'.new, fun b o q n nt => S'.keep b o q n nt, S'.bags, S'.tabs.1⟩
  refine ⟨_, F0, _, endD Qd, S0, (hw svs Qd h4).2, fun σ' H' F' δ' S' l' q' => ?_, fun v σ' H' F' δ' sv S' l' r' q' => ?_, fun σ' H' F' δ' S' l' q' => q'.elim, fun σ' H' F' δ' S' l' q' => q'.elim⟩
  · exact h5 .non H' F' .non (grow _ _ _ _ S') Is.non q'
  · obtain ⟨F2, d, l2, S2, i2, q2⟩ := r'.wd S' q'
    exact h5 v H' F2 d (grow _ _ _ _ S2) i2 q2
end DD
namespace K02
open PySem L2 DD
def top (i : Nat) : Stmt := PySem.Challenge.pw_anycreases_k02_texts_of_ratios.main.body.getD i (.Pass ⟨0, 0, 0, 0⟩)
def fl : Nat → List Str
  | 0 => ["top", "bottom"]
  | 1 => ["value"]
  | _ => []
def ncls : Nat := 1
def tb (K : PySem.W.Frag) (cs : List Addr) : Tb := ⟨K, fun c => cs.getD c 0, fl, fun _ => none, fun _ _ => .tup [], none, [(cs.getD 5 0, ((("_law_right" : Str) ++ ".<locals>.") ++ "<lambda>"))]⟩
def isX_ArithmeticError : Nat → Option Bool := fun c => ([(1, false)] : List (Nat × Bool)).lookup c
def isX_InvalidText : Nat → Option Bool := fun c => ([(1, true)] : List (Nat × Bool)).lookup c
def isX_LookupError : Nat → Option Bool := fun c => ([(1, false)] : List (Nat × Bool)).lookup c
def isX_QuestionError : Nat → Option Bool := fun c => ([(1, false)] : List (Nat × Bool)).lookup c
def isX_ShapeError : Nat → Option Bool := fun c => ([(1, true)] : List (Nat × Bool)).lookup c
def isX_SizeError : Nat → Option Bool := fun c => ([(1, false)] : List (Nat × Bool)).lookup c
def isX_ValueError : Nat → Option Bool := fun c => ([(1, true)] : List (Nat × Bool)).lookup c
def xfI_value : Nat → Option Nat := fun c => ([(1, 0)] : List (Nat × Nat)).lookup c
def isiB_Ratio : List (String × Bool) := [("NoneType", false), ("bool", false), ("int", false), ("str", false), ("list", false), ("tuple", false), ("dict", false)]
def isiC_Ratio : List (Nat × Bool) := [(0, true)]
def isiB_bool : List (String × Bool) := [("NoneType", false), ("bool", true), ("int", false), ("str", false), ("list", false), ("tuple", false), ("dict", false)]
def isiC_bool : List (Nat × Bool) := [(0, false)]
def isiB_int : List (String × Bool) := [("NoneType", false), ("bool", true), ("int", true), ("str", false), ("list", false), ("tuple", false), ("dict", false)]
def isiC_int : List (Nat × Bool) := [(0, false)]
def isiB_str : List (String × Bool) := [("NoneType", false), ("bool", false), ("int", false), ("str", true), ("list", false), ("tuple", false), ("dict", false)]
def isiC_str : List (Nat × Bool) := [(0, false)]
/-! ### the promises -/
/-- numbers of a size that is no trouble -/
def small (x : Int) : Prop := x.natAbs < 2 ^ 1000
/-- a Ratio as it stands -/
def rat (t b : Int) : D := .ins 0 [.int t, .int b]
def low (t b : Int) : Prop := 0 < b ∧ Int.gcd t b = 1
/-- the Ratio of t and b -/
def nrm (t b : Int) : D := rat (t / Int.gcd t b) (b / Int.gcd t b)
/-- what isinstance can be asked of -/
def okT : D → Prop
  | .scr _ => False
  | .fn _ => False
  | .ins c _ => c < ncls
  | _ => True
def isInt : D → Bool
  | .int _ => true
  | _ => false
/-- a fraction: an int, or a Ratio in lowest terms -/
def isFr : D → Option (Int × Int)
  | .int n => some (n, 1)
  | .ins 0 [.int t, .int b] => some (t, b)
  | _ => none
def frOk (d : D) (t b : Int) : Prop := isFr d = some (t, b) ∧ low t b ∧ small t ∧ small b
def isFrB (d : D) : Bool := match d with
  | .int _ => true
  | .ins c _ => c == 0
  | _ => false
def sp_is_integer : FS := fun svs Q => ∃ d, svs = [.val d] ∧ okT d ∧ Q (.bl (isInt d))
def sp_shared_factor : FS := fun svs Q => ∃ a b : Int, svs = [.val (.int a), .val (.int b)] ∧ Q (.int (Int.gcd a b))
def fi_Ratio : FI := fun svs Q => ∃ t b : Int, svs = [.val (.int t), .val (.int b)] ∧ 0 < b ∧ b.natAbs < 2 ^ 4000 ∧ Q [.int (t / Int.gcd t b), .int (b / Int.gcd t b)]
def sp_is_fraction : FS := fun svs Q => ∃ d, svs = [.val d] ∧ okT d ∧ Q (.bl (isFrB d))
def sp_as_ratio : FS := fun svs Q => ∃ d t b, svs = [.val d] ∧ frOk d t b ∧ Q (rat t b)
def cmpI (x y : Int) : Int := if x = y then 0 else if x < y then -1 else 1
def sp_order_of : FS := fun svs Q => ∃ d t b e u c, svs = [.val d, .val e] ∧ frOk d t b ∧ frOk e u c ∧ Q (.int (cmpI (t * c) (u * b)))
def sp_Ratio_compared : FS := sp_order_of
def sp_Ratio_add : FS := fun svs Q => ∃ t b e u c, svs = [.val (rat t b), .val e] ∧ frOk (rat t b) t b ∧ frOk e u c ∧ Q (nrm (t * c + u * b) (b * c))
def sp_Ratio_sub : FS := fun svs Q => ∃ t b e u c, svs = [.val (rat t b), .val e] ∧ frOk (rat t b) t b ∧ frOk e u c ∧ Q (nrm (t * c - u * b) (b * c))
def sp_Ratio_mul : FS := fun svs Q => ∃ t b e u c, svs = [.val (rat t b), .val e] ∧ frOk (rat t b) t b ∧ frOk e u c ∧ Q (nrm (t * u) (b * c))
def sp_Ratio_radd : FS := fun svs Q => ∃ t b e u c, svs = [.val (rat t b), .val e] ∧ frOk (rat t b) t b ∧ frOk e u c ∧ Q (nrm (u * b + t * c) (c * b))
def sp_Ratio_rsub : FS := fun svs Q => ∃ t b e u c, svs = [.val (rat t b), .val e] ∧ frOk (rat t b) t b ∧ frOk e u c ∧ Q (nrm (u * b - t * c) (c * b))
def sp_Ratio_rmul : FS := fun svs Q => ∃ t b e u c, svs = [.val (rat t b), .val e] ∧ frOk (rat t b) t b ∧ frOk e u c ∧ Q (nrm (u * t) (c * b))
def sp_Ratio_neg : FS := fun svs Q => ∃ t b, svs = [.val (rat t b)] ∧ low t b ∧ small t ∧ small b ∧ Q (rat (-t) b)
/-- == with another value of any kind -/
def sp_Ratio_eq : FS := fun svs Q => (∃ t b e u c, svs = [.val (rat t b), .val e] ∧ frOk e u c ∧ Q (.bl (t == u && b == c))) ∨ (∃ t b e, svs = [.val (rat t b), .val e] ∧ okT e ∧ isFrB e = false ∧ Q (.bl false))
/-- figures without noughts at their head -/
def figsB (l : List Nat) : Bool := !l.isEmpty && l.all (fun c => decide (48 ≤ c) && decide (c ≤ 57)) && (l == [48] || l.head? != some 48)
def sp_are_figures : FS := fun svs Q => ∃ s : Str, svs = [.val (.str s)] ∧ s.length ≤ 2100 ∧ Q (.bl (figsB s.cps.toList))
def valL (l : List Nat) : Nat := PySem.NumText.digitsVal l
/-- an int's text -/
def intL (i : Int) : List Nat := (if i < 0 then [45] else []) ++ TL.numL i.natAbs
def S (l : List Nat) : Str := ⟨l.toArray⟩
def mild (i : Int) : Prop := i.natAbs < 10 ^ 20
/-- a fraction's text -/
def writL (t b : Int) : List Nat := if b = 1 then intL t else intL t ++ 47 :: intL b
def sp_text_of : FS := fun svs Q => ∃ i : Int, svs = [.val (.int i)] ∧ mild i ∧ Q (.str (S (intL i)))
def sp_number_of : FS := fun svs Q => ∃ s : Str, svs = [.val (.str s)] ∧ s.length ≤ 39 ∧ figsB s.cps.toList = true ∧ Q (.int (valL s.cps.toList))
/-- what a text writes in any way -/
def bodyP (sg : Int) (a : List Nat) (o : Option (List Nat)) : Option (Int × Int) := if figsB a then (match o with
    | none => some (sg * valL a, 1)
    | some b => if figsB b && decide (0 < valL b) then some (sg * valL a, (valL b : Int)) else none) else none
def slashP (l : List Nat) : List Nat × Option (List Nat) := match TL.par [47] [] l with
  | some (a, b) => (a, some b)
  | none => (l, none)
def rawP (l : List Nat) : Option (Int × Int) := match l with
  | 45 :: r => bodyP (-1) (slashP r).1 (slashP r).2
  | r => bodyP 1 (slashP r).1 (slashP r).2
def nrmO : Option (Int × Int) → D
  | some (t, b) => nrm t b
  | none => .non
def sp_ratio_in : FS := fun svs Q => ∃ s : Str, svs = [.val (.str s)] ∧ s.length ≤ 19 ∧ Q (nrmO (rawP s.cps.toList))
def sp_Ratio_str : FS := fun svs Q => ∃ t b : Int, svs = [.val (rat t b)] ∧ mild t ∧ mild b ∧ Q (.str (S (writL t b)))
/-- the Ratio that is written just so -/
def readP (s : Str) : Option (Int × Int) := match rawP s.cps.toList with
  | some (t, b) => if writL (t / Int.gcd t b) (b / Int.gcd t b) = s.cps.toList then some (t / Int.gcd t b, b / Int.gcd t b) else none
  | none => none
def readD : D → Option (Int × Int)
  | .str s => readP s
  | _ => none
/-- the values that are handed over -/
def oddV (d : D) : Bool := match d with
  | .str s => decide (s.length ≤ 19)
  | .non => true
  | .int i => decide (i.natAbs < 1000)
  | .lst _ => okR 3 d
  | .tup _ => okR 3 d
  | _ => false
def spx_Ratio_read : FX := fun svs Q Ed => ∃ d, svs = [.val d] ∧ oddV d = true ∧ (readD d = none → Ed 1 [d]) ∧ ∀ t b, readD d = some (t, b) → Q (rat t b)
def sp__law_sort : FS1 := fun c ds Q => ∃ d, c = 1 ∧ ds = [d] ∧ oddV d = true ∧ szOk (shownD d).length ∧ Q (.lst [.str "InvalidText", .str (shownD d)])
def sp__law_bag : FO := fun svs Q => ∃ (ns : List Int) (k : Int), svs = [.val (.scr ns), .val (.int k)] ∧ (0 ≤ k ∧ k ≤ 100) ∧ ns.length ≤ 63 ∧ ∀ x y : Int, 0 ≤ x → 0 ≤ y → Q [.int x, .int y, .int 0]
def sp__law_draw : FS := fun svs Q => ∃ w : Int, svs = [.bag, .val (.int w)] ∧ (1 ≤ w ∧ w < 1073741824) ∧ ∀ r : Int, 0 ≤ r → r < w → Q (.int r)
def sp__law_one : FS := fun svs Q => ∃ ds, svs = [.bag, .val (.lst ds)] ∧ ds ≠ [] ∧ ds.length ≤ 1000 ∧ ∀ d ∈ ds, Q d
def sp__law_low : FS := fun svs Q => ∃ a b : Int, svs = [.val (.int a), .val (.int b)] ∧ (0 < b ∧ small a ∧ small b) ∧ Q (.tup [.int (a / Int.gcd a b), .int (b / Int.gcd a b)])
def sp__law_written : FS := fun svs Q => ∃ t b : Int, svs = [.val (.tup [.int t, .int b])] ∧ mild t ∧ mild b ∧ Q (.str (S (writL t b)))
def pairO : Option (Int × Int) → D
  | some (t, b) => .tup [.int t, .int b]
  | none => .non
def sp__law_read : FS := fun svs Q => ∃ s : Str, svs = [.val (.str s)] ∧ s.length ≤ 19 ∧ (∀ c ∈ s.cps.toList, c < 128) ∧ Q (pairO (readP s))
def sp__law_right : FS := fun svs Q => svs = [.bag] ∧ Q (.bl true)
def sp_law : FS := lawS 63
/-! ### what the defs come to, by the trees alone -/
def w_is_integer : WS := wRet (wAnd (wIsi isiB_int isiC_int (wVar 0)) (wNot (wIsi isiB_bool isiC_bool (wVar 0))))
def w_are_figures : WS := wSeq (wIfS (wTOr (wTB (wOp (cmpD false) (wVar 0) (wC (.str "")))) (wTNot (wTru (wN allD (wCons (wLc (.nm 1) [1] (wIt (wVar 0)) (wYes) (wOp (inW false) (wVar 1) (wC (.str "0123456789")))) (wNil)))))) (wRet (wC (.bl false))) (wSkip)) (wRet (wOr (wOp (cmpD false) (wVar 0) (wC (.str "0"))) (wOp (cmpD true) (wIxN 0 (wC (.int 0))) (wC (.str "0")))))
def w_text_of : WS := wSeq (wPar 1 2 (wN absD (wCons (wVar 0) (wNil))) (wC (.str ""))) (wSeq (wWhile (wTB (wOp geD (wVar 1) (wOp powD (wC (.int 10)) (wC (.int 40))))) (wSeq (wNever) (wNever))) (wRet (wOp addD (wOp addD (wIf (wTB (wOp ltD (wVar 0) (wC (.int 0)))) (wC (.str "-")) (wC (.str ""))) (wN strD (wCons (wVar 1) (wNil)))) (wVar 2))))
def w_number_of : WS := wSeq (wAsg 1 (wOp modD (wN lenD (wCons (wVar 0) (wNil))) (wC (.int 40)))) (wSeq (wAsg 2 (wIf (wTB (wOp gtD (wVar 1) (wC (.int 0)))) (wN intD (wCons (wSl (wVar 0) (wNoI) (wOptI (wVar 1))) (wNil))) (wC (.int 0)))) (wSeq (wFor (.nm 3) (wRng3 (wCons (wVar 1) (wCons (wN lenD (wCons (wVar 0) (wNil))) (wCons (wC (.int 40)) (wNil))))) (wAsg 2 (wOp addD (wOp mulT (wVar 2) (wOp powD (wC (.int 10)) (wC (.int 40)))) (wN intD (wCons (wSl (wVar 0) (wOptI (wVar 3)) (wOptI (wOp addD (wVar 3) (wC (.int 40))))) (wNil)))))) (wRet (wVar 2))))
def w_shared_factor : WS := wSeq (wPar 2 3 (wN absD (wCons (wVar 0) (wNil))) (wN absD (wCons (wVar 1) (wNil)))) (wSeq (wWhile (wTB (wOp gtD (wVar 3) (wC (.int 0)))) (wPar 2 3 (wVar 3) (wOp modD (wVar 2) (wVar 3)))) (wRet (wVar 2)))
def w_is_fraction : WS := wRet (wOr (wCall sp_is_integer (wCons (wVar 0) (wNil))) (wIsi isiB_Ratio isiC_Ratio (wVar 0)))
def w_Ratio_init (T : Tb) : WS := wSeq (wIfS (wTNot (wTru (wCall sp_is_integer (wCons (wVar 1) (wNil))))) (wNever) (wSkip)) (wSeq (wIfS (wTOr (wTNot (wTru (wCall sp_is_integer (wCons (wVar 2) (wNil))))) (wTB (wOp ltD (wVar 2) (wC (.int 1))))) (wNever) (wSkip)) (wSeq (wAsg 3 (wCall sp_shared_factor (wCons (wVar 1) (wCons (wVar 2) (wNil))))) (wSeq (wSetF 0 0 "top" T (wOp fdivD (wVar 1) (wVar 3))) (wSetF 0 0 "bottom" T (wOp fdivD (wVar 2) (wVar 3))))))
def w_as_ratio : WS := wRet (wIf (wTru (wIsi isiB_Ratio isiC_Ratio (wVar 0))) (wVar 0) (wCallK 1 ([] : List Str).length (permS [0, 1] [.int 1] (mkF 0 fi_Ratio)) (wCons (wVar 0) (wNil)) (wNil)))
def w_ratio_in : WS := wSeq (wAsg 1 (wIf (wTB (wOp (cmpD false) (wSl (wVar 0) (wNoI) (wOptI (wC (.int 1)))) (wC (.str "-")))) (wUn negD (wC (.int 1))) (wC (.int 1)))) (wSeq (wAsgT (.tp [.nm 2, .nm 3, .nm 4]) (wIf (wTB (wOp ltD (wVar 1) (wC (.int 0)))) (wBmS partD (wSl (wVar 0) (wOptI (wC (.int 1))) (wNoI)) (wCons (wC (.str "/")) (wNil))) (wBmS partD (wVar 0) (wCons (wC (.str "/")) (wNil))))) (wSeq (wIfS (wTOr (wTNot (wTru (wCall sp_are_figures (wCons (wVar 2) (wNil))))) (wTAnd (wTB (wOp (cmpD true) (wVar 3) (wC (.str "")))) (wTNot (wTru (wCall sp_are_figures (wCons (wVar 4) (wNil))))))) (wRet (wC .non)) (wSkip)) (wSeq (wAsg 5 (wIf (wTB (wOp (cmpD true) (wVar 3) (wC (.str "")))) (wCall sp_number_of (wCons (wVar 4) (wNil))) (wC (.int 1)))) (wRet (wIf (wTB (wOp gtD (wVar 5) (wC (.int 0)))) (wCall (mkF 0 fi_Ratio) (wCons (wOp mulT (wVar 1) (wCall sp_number_of (wCons (wVar 2) (wNil)))) (wCons (wVar 5) (wNil)))) (wC .non))))))
def w_Ratio_eq : WS := wSeq (wIfS (wTNot (wTru (wCall sp_is_fraction (wCons (wVar 1) (wNil))))) (wRet (wC (.bl false))) (wSkip)) (wSeq (wAsg 2 (wCall sp_as_ratio (wCons (wVar 1) (wNil)))) (wRet (wAnd (wOp (cmpD false) (wFld [(0, 0)] (wVar 0)) (wFld [(0, 0)] (wVar 2))) (wOp (cmpD false) (wFld [(0, 1)] (wVar 0)) (wFld [(0, 1)] (wVar 2))))))
def w_Ratio_str : WS := wSeq (wIfS (wTB (wOp (cmpD false) (wFld [(0, 1)] (wVar 0)) (wC (.int 1)))) (wRet (wUn fmtD (wCall sp_text_of (wCons (wFld [(0, 0)] (wVar 0)) (wNil))))) (wSkip)) (wRet (fJs [(wUn fmtD (wCall sp_text_of (wCons (wFld [(0, 0)] (wVar 0)) (wNil)))), (wC (.str "/")), (wUn fmtD (wCall sp_text_of (wCons (wFld [(0, 1)] (wVar 0)) (wNil))))] Str.empty))
def w_Ratio_read (Ed : EK) : WS := wSeq (wAsg 1 (wIf (wTru (wIsi isiB_str isiC_str (wVar 0))) (wCall sp_ratio_in (wCons (wVar 0) (wNil))) (wC .non))) (wSeq (wIfS (wTOr (wTB (wOp (isD false) (wVar 1) (wC .non))) (wTB (wOp (cmpD true) (wN (strT [(0, sp_Ratio_str)]) (wCons (wVar 1) (wNil))) (wVar 0)))) (wRaise 1 Ed (wCons (wVar 0) (wNil))) (wSkip)) (wRet (wVar 1)))
def w__law_bag : WS := wSeq (wPar 2 3 (wIf (wTB (wOp ltD (wVar 1) (wN (lenT []) (wCons (wVar 0) (wNil))))) (wN intD (wCons (wScrIx 0 (wVar 1)) (wNil))) (wC (.int 0))) (wOp mulT (wC (.int 70009)) (wOp addD (wVar 1) (wC (.int 5))))) (wSeq (wFor (.nm 4) (wIt (wSlX (wVar 0) (wNoI) (wOptI (wC (.int 7))))) (wAsg 3 (wOp modD (wN intD (wCons (wOp addD (wOp addD (wOp mulT (wVar 3) (wC (.int 28657))) (wOp modD (wN intD (wCons (wVar 4) (wNil))) (wC (.int 1000121)))) (wOp mulT (wC (.int 17)) (wVar 1))) (wNil))) (wC (.int 2147483549))))) (wSeq (wAsg 5 (wIf (wTOr (wTB (wOp ltD (wVar 2) (wC (.int 0)))) (wTB (wOp geD (wVar 2) (wOp powD (wC (.int 10)) (wC (.int 15)))))) (wN absD (wCons (wVar 2) (wNil))) (wC (.int 0)))) (wRet (wLst (wCons (wVar 5) (wCons (wOp modD (wN intD (wCons (wOp addD (wVar 3) (wOp mulT (wC (.int 50087)) (wOp modD (wN intD (wCons (wVar 2) (wNil))) (wC (.int 999931))))) (wNil))) (wC (.int 2147483549))) (wCons (wC (.int 0)) (wNil))))))))
def w__law_draw : WS := wSeq (wBagSet 0 (wC (.int 2)) (wOp addD (wBagIx 0 (wC (.int 2))) (wC (.int 1)))) (wSeq (wIfS (wTB (wOp gtD (wBagIx 0 (wC (.int 0))) (wC (.int 0)))) (wSeq (wAsg 2 (wOp modD (wN intD (wCons (wBagIx 0 (wC (.int 0))) (wNil))) (wVar 1))) (wSeq (wBagSet 0 (wC (.int 0)) (wOp fdivD (wBagIx 0 (wC (.int 0))) (wVar 1))) (wRet (wVar 2)))) (wSkip)) (wSeq (wAsg 3 (wOp addD (wN intD (wCons (wBagIx 0 (wC (.int 1))) (wNil))) (wOp mulT (wC (.int 99991)) (wBagIx 0 (wC (.int 2)))))) (wSeq (wAsg 4 (wOp addD (wOp modD (wN intD (wCons (wVar 3) (wNil))) (wC (.int 58979))) (wC (.int 41017)))) (wSeq (wBagSet 0 (wC (.int 1)) (wOp modD (wN intD (wCons (wOp addD (wOp addD (wOp mulT (wVar 3) (wVar 4)) (wOp mulT (wC (.int 11)) (wBagIx 0 (wC (.int 2))))) (wC (.int 19))) (wNil))) (wC (.int 2147483549)))) (wRet (wOp modD (wOp fdivD (wN intD (wCons (wBagIx 0 (wC (.int 1))) (wNil))) (wC (.int 509))) (wVar 1)))))))
def w__law_one : WS := wRet (wIxN 1 (wCall sp__law_draw (wCons (wVar 0) (wCons (wN lenD (wCons (wVar 1) (wNil))) (wNil)))))
def w__law_low : WS := wSeq (wPar 2 3 (wN absD (wCons (wVar 0) (wNil))) (wN absD (wCons (wVar 1) (wNil)))) (wSeq (wWhile (wTB (wOp gtD (wVar 3) (wC (.int 0)))) (wPar 2 3 (wVar 3) (wOp modD (wN intD (wCons (wVar 2) (wNil))) (wVar 3)))) (wSeq (wAsg 4 (wIf (wTB (wOp gtD (wVar 1) (wC (.int 0)))) (wVar 2) (wOp subD (wC (.int 0)) (wVar 2)))) (wRet (wTup (wCons (wOp fdivD (wVar 0) (wVar 4)) (wCons (wOp fdivD (wVar 1) (wVar 4)) (wNil)))))))
def w__law_sort : WS := wSeq (wAsg 1 (wLst (wCons (wIsX 0 isX_ShapeError) (wCons (wIsX 0 isX_QuestionError) (wCons (wIsX 0 isX_SizeError) (wNil)))))) (wSeq (wAsg 2 (wLst (wCons (wIsX 0 isX_ValueError) (wCons (wIsX 0 isX_LookupError) (wCons (wIsX 0 isX_ArithmeticError) (wNil)))))) (wSeq (wAsg 3 (wLst (wNil))) (wSeq (wIfS (wTru (wIsX 0 isX_InvalidText)) (wApp 3 (wLst (wCons (wC (.str "InvalidText")) (wCons (wN reprD (wCons (wXf 0 xfI_value) (wNil))) (wNil))))) (wSkip)) (wFrz [1, 2] (wRet (wIf (wTAnd (wTB (wOp (cmpD false) (wLenN 3) (wC (.int 1)))) (wTAnd (wTB (wOp (cmpD false) (wVar 1) (wVar 2))) (wTB (wOp (cmpD false) (wBmL countD (wVar 1) (wCons (wC (.bl true)) (wNil))) (wC (.int 1)))))) (wIxN 3 (wC (.int 0))) (wLst (wCons (wC (.str "other")) (wNil)))))))))
def w__law_written : WS := wRet (wIf (wTB (wOp (cmpD false) (wIxN 0 (wC (.int 1))) (wC (.int 1)))) (wN strD (wCons (wIxN 0 (wC (.int 0))) (wNil))) (wOp addD (wOp addD (wN strD (wCons (wIxN 0 (wC (.int 0))) (wNil))) (wC (.str "/"))) (wN strD (wCons (wIxN 0 (wC (.int 1))) (wNil)))))
def w__law_read : WS := wSeq (wAsg 1 (wBmS splitD (wVar 0) (wCons (wC (.str "/")) (wNil)))) (wSeq (wFrz [1] (wIfS (wTOr (wTB (wOp gtD (wLenN 1) (wC (.int 2)))) (wTB (wOp (cmpD true) (wLc (.nm 2) [2] (wIt (wVar 1)) (wTB (wOp (inW false) (wVar 2) (wLst (wCons (wC (.str "")) (wCons (wC (.str "-")) (wNil)))))) (wVar 2)) (wLst (wNil))))) (wRet (wC .non)) (wSkip))) (wSeq (wFrz [1] (wFor (.nm 2) (wIt (wVar 1)) (wSeq (wIfS (wTB (wOp (cmpD true) (wLc (.nm 3) [3] (wIt (wUn (repl1D "-" "") (wVar 2))) (wTB (wOp (inW true) (wVar 3) (wC (.str "0123456789")))) (wVar 3)) (wLst (wNil)))) (wRet (wC .non)) (wSkip)) (wIfS (wTAnd (wTB (wOp (inW false) (wC (.str "-")) (wVar 2))) (wTB (wOp (cmpD true) (wIxN 2 (wC (.int 0))) (wC (.str "-"))))) (wRet (wC .non)) (wSkip))))) (wSeq (wAsg 4 (wTup (wCons (wN intD (wCons (wIxN 1 (wC (.int 0))) (wNil))) (wCons (wIf (wTB (wOp gtD (wLenN 1) (wC (.int 1)))) (wN intD (wCons (wIxN 1 (wC (.int 1))) (wNil))) (wC (.int 1))) (wNil))))) (wSeq (wIfS (wTOr (wTB (wOp ltD (wIxN 4 (wC (.int 1))) (wC (.int 1)))) (wTOr (wTB (wOp (cmpD true) (wCall sp__law_low (wCons (wIxN 4 (wC (.int 0))) (wCons (wIxN 4 (wC (.int 1))) (wNil)))) (wVar 4))) (wTB (wOp (cmpD true) (wCall sp__law_written (wCons (wVar 4) (wNil))) (wVar 0))))) (wRet (wC .non)) (wSkip)) (wRet (wVar 4))))))
def w__law_right : WS := wSeq (wFor (.nm 1) (wRng1 (wCons (wC (.int 6)) (wNil))) (wSeq (wAsg 2 (wOp mulT (wCall sp__law_one (wCons (wVar 0) (wCons (wLst (wCons (wC (.int 0)) (wCons (wC (.int 7)) (wCons (wCall sp__law_draw (wCons (wVar 0) (wCons (wC (.int 99)) (wNil)))) (wCons (wCall sp__law_draw (wCons (wVar 0) (wCons (wOp powD (wC (.int 10)) (wC (.int 9))) (wNil)))) (wNil)))))) (wNil)))) (wCall sp__law_one (wCons (wVar 0) (wCons (wLst (wCons (wC (.int 1)) (wCons (wOp subD (wC (.int 0)) (wC (.int 1))) (wNil)))) (wNil)))))) (wSeq (wAsg 3 (wCall sp__law_low (wCons (wVar 2) (wCons (wOp addD (wC (.int 1)) (wCall sp__law_draw (wCons (wVar 0) (wCons (wC (.int 60)) (wNil))))) (wNil))))) (wSeq (wAsgT (.tp [.nm 4, .nm 5]) (wTup (wCons (wCall sp__law_written (wCons (wVar 3) (wNil))) (wCons (wCall (mkF 0 fi_Ratio) (wCons (wIxN 3 (wC (.int 0))) (wCons (wIxN 3 (wC (.int 1))) (wNil)))) (wNil))))) (wSeq (wIfS (wTB (wOp (eqT [(0, sp_Ratio_eq)] true) (wLst (wCons (wN (strT [(0, sp_Ratio_str)]) (wCons (wVar 5) (wNil))) (wCons (wN (strT [(0, sp_Ratio_str)]) (wCons (wCall (noX spx_Ratio_read) (wCons (wVar 4) (wNil))) (wNil))) (wCons (wOp (eqT [(0, sp_Ratio_eq)] false) (wCallK 0 (["text"] : List Str).length (permS [0] [] (noX spx_Ratio_read)) wNil (wCons (wVar 4) (wNil))) (wVar 5)) (wNil))))) (wLst (wCons (wVar 4) (wCons (wVar 4) (wCons (wC (.bl true)) (wNil))))))) (wRet (wC (.bl false))) (wSkip)) (wSeq (wPar 6 7 (wCall sp__law_draw (wCons (wVar 0) (wCons (wOp addD (wN lenD (wCons (wVar 4) (wNil))) (wC (.int 1))) (wNil)))) (wCall sp__law_one (wCons (wVar 0) (wCons (wLst (wCons (wC (.str "-")) (wCons (wC (.str "/")) (wCons (wC (.str "0")) (wCons (wC (.str "1")) (wCons (wC (.str "3")) (wCons (wC (.str " ")) (wCons (wC (.str "+")) (wCons (wC (.str ".")) (wCons (wC (.str "x")) (wNil))))))))))) (wNil))))) (wSeq (wAsg 8 (wLst (wCons (wOp addD (wOp addD (wSl (wVar 4) (wNoI) (wOptI (wVar 6))) (wVar 7)) (wSl (wVar 4) (wOptI (wVar 6)) (wNoI))) (wCons (wOp addD (wSl (wVar 4) (wNoI) (wOptI (wVar 6))) (wSl (wVar 4) (wOptI (wOp addD (wVar 6) (wC (.int 1)))) (wNoI))) (wCons (wOp addD (wOp addD (wSl (wVar 4) (wNoI) (wOptI (wVar 6))) (wVar 7)) (wSl (wVar 4) (wOptI (wOp addD (wVar 6) (wC (.int 1)))) (wNoI))) (wNil)))))) (wSeq (wFrz [8] (wAsg 4 (wCall sp__law_one (wCons (wVar 0) (wCons (wVar 8) (wNil)))))) (wSeq (wAsg 9 (wAns (fun Ed => wN1 (strT [(0, sp_Ratio_str)]) (wCallX spx_Ratio_read Ed (wCons (wVar 4) (wNil)))) sp__law_sort)) (wIfS (wTB (wOp (eqT [(0, sp_Ratio_eq)] true) (wVar 9) (wIf (wTB (wOp (isD false) (wCall sp__law_read (wCons (wVar 4) (wNil))) (wC .non))) (wLst (wCons (wC (.str "InvalidText")) (wCons (wN reprD (wCons (wVar 4) (wNil))) (wNil)))) (wLst (wCons (wC (.str "returned")) (wCons (wVar 4) (wNil))))))) (wRet (wC (.bl false))) (wSkip))))))))))) (wSeq (wAsg 10 (wLst (wCons (wC .non) (wCons (wC (.int 3)) (wCons (wC (.str "")) (wCons (wC (.str "-")) (wCons (wC (.str "/")) (wCons (wC (.str "1/")) (wCons (wC (.str "/2")) (wCons (wC (.str "0/3")) (wCons (wC (.str "2/4")) (wCons (wC (.str "3/1")) (wCons (wC (.str "1/0")) (wNil)))))))))))))) (wSeq (wFrz [10] (wAsg 11 (wCall sp__law_one (wCons (wVar 0) (wCons (wOp addD (wVar 10) (wLst (wCons (wC (.str "-0")) (wCons (wC (.str "+1")) (wCons (wC (.str " 1")) (wCons (wC (.str "1/-2")) (wCons (wTup (wCons (wC (.str "1")) (wNil))) (wCons (wLst (wNil)) (wNil))))))))) (wNil)))))) (wRet (wOp (eqT [(0, sp_Ratio_eq)] false) (wAns (fun Ed => wCallX spx_Ratio_read Ed (wCons (wVar 11) (wNil))) sp__law_sort) (wLst (wCons (wC (.str "InvalidText")) (wCons (wN reprD (wCons (wVar 11) (wNil))) (wNil))))))))
def w_law : WS := wRet (wN allD (wCons (wLc (.nm 1) [1] (wRng1 (wCons (wN max2D (wCons (wC (.int 2)) (wCons (wN min2D (wCons (wN (lenT []) (wCons (wVar 0) (wNil))) (wCons (wC (.int 6)) (wNil)))) (wNil)))) (wNil))) (wYes) (wBagCall sp__law_bag sp__law_right (wCons (wVar 0) (wCons (wVar 1) (wNil))))) (wNil)))
end K02
namespace K02
open PySem DD
theorem joinL_nil : ∀ ps : List (List Nat), TL.joinL [] ps = ps.flatten
  | [] => rfl
  | [p] => by simp [TL.joinL]
  | p :: q :: r => by
    have := joinL_nil (q :: r)
    simp only [TL.joinL, this, List.flatten_cons, List.append_assoc, List.nil_append]
theorem join_cps (ys : List Str) : (Txt.join (Str.ofString "") ys).cps.toList = (ys.map fun y => y.cps.toList).flatten := by
  have h := TL.tl_join (Str.ofString "") ys
  rw [← TL.join_eq] at h
  have e : TL.tl (Str.ofString "") = [] := by decide +kernel
  rw [e, joinL_nil] at h
  exact h
theorem str_ext {a b : Str} (h : a.cps.toList = b.cps.toList) : a = b := by
  obtain ⟨⟨a⟩⟩ := a
  obtain ⟨⟨b⟩⟩ := b
  simp only at h
  rw [h]
theorem str_len (s : Str) : s.length = s.cps.toList.length := (Array.length_toList).symm
theorem sum_ones : ∀ (xs : List Str), (∀ x ∈ xs, x.length = 1) → (xs.map (·.length)).sum = xs.length
  | [], _ => rfl
  | x :: xs, h => by
    rw [List.map_cons, List.sum_cons, sum_ones xs fun y hy => h y (List.mem_cons_of_mem _ hy), h x List.mem_cons_self, List.length_cons, Nat.add_comm]
theorem empty_len : (Str.ofString "").length = 0 := by decide +kernel
/-- the signs of a text, put together one by one -/
theorem join_ones (cs : List Nat) : Txt.join (Str.ofString "") (cs.map fun c => (⟨#[c]⟩ : Str)) = ⟨cs.toArray⟩ := by
  refine str_ext ?_
  rw [join_cps, List.map_map]
  show (cs.map fun c => [c]).flatten = cs
  induction cs with
  | nil => rfl
  | cons c cs ih => rw [List.map_cons, List.flatten_cons, ih]; rfl
theorem cut_to (z : Str) (m : Nat) : (L2.cutS z none (some (m : Int))).cps.toList = z.cps.toList.take m := by
  unfold L2.cutS
  rw [HT.sIx_none, HT.sIx_nat, Nat.sub_zero, List.drop_zero, str_len, List.take_eq_take_iff]
  omega
theorem cut_from (z : Str) (m : Nat) : (L2.cutS z (some (m : Int)) none).cps.toList = z.cps.toList.drop m := by
  unfold L2.cutS
  rw [HT.sIx_none, HT.sIx_nat, str_len]
  show (List.take _ (List.drop _ _)) = _
  rw [List.take_of_length_le (by rw [List.length_drop]; omega)]
  rcases Nat.le_total m z.cps.toList.length with h | h
  · rw [Nat.min_eq_left h]
  · rw [Nat.min_eq_right h, List.drop_of_length_le (Nat.le_refl _), List.drop_of_length_le h]
theorem rep_one (c m : Nat) : (repS ⟨#[c]⟩ m).cps.toList = List.replicate m c := by
  unfold repS
  show (List.replicate m [c]).flatten = _
  induction m with
  | zero => rfl
  | succ m ih => rw [List.replicate_succ, List.flatten_cons, ih, List.replicate_succ]; rfl
theorem repl1_par {x y z : Str} (hy : TL.tl y ≠ []) : TL.tl (repl1S x y z) = match TL.par (TL.tl y) [] (TL.tl x) with
    | some (a, b) => a ++ (TL.tl z ++ b)
    | none => TL.tl x := by
  have hp := TL.partition_par x y hy
  have hl : (y.length == 0) = false := by
    rw [TL.len_tl]
    cases e : TL.tl y with
    | nil => exact absurd e hy
    | cons c cs => rfl
  have h1 := occ1_len x y
  unfold Txt.partition at hp
  unfold repl1S
  cases ho : Builtin.Str.occurrences x y 0 x.length 1 with
  | nil =>
    rw [ho] at hp
    rw [if_pos (by rfl)]
    cases e : TL.par (TL.tl y) [] (TL.tl x) with
    | none => rfl
    | some p =>
      obtain ⟨a, b⟩ := p
      rw [e] at hp
      have : y = Str.empty := ((Prod.mk.inj (Prod.mk.inj hp).2).1).symm
      rw [this] at hl
      exact absurd hl (by decide +kernel)
  | cons i r =>
    rw [ho] at hp h1
    have hr : r = [] := by
      cases r with
      | nil => rfl
      | cons _ _ => simp at h1
    subst hr
    rw [if_neg (by rw [hl]; simp)]
    cases e : TL.par (TL.tl y) [] (TL.tl x) with
    | none =>
      rw [e] at hp
      have : y = Str.empty := (Prod.mk.inj (Prod.mk.inj hp).2).1
      rw [this] at hl
      exact absurd hl (by decide +kernel)
    | some p =>
      obtain ⟨a, b⟩ := p
      rw [e] at hp
      have e1 := (Prod.mk.inj hp).1
      have e2 := (Prod.mk.inj (Prod.mk.inj hp).2).2
      dsimp only
      have ea : TL.tl (Builtin.Str.strSub x 0 i) = a := by rw [e1]
      have eb : TL.tl (Builtin.Str.strSub x (i + y.length) x.length) = b := by rw [e2]
      rw [← ea, ← eb]
      show ((Builtin.Str.strSub x 0 i).cps ++ z.cps ++ (Builtin.Str.strSub x (i + y.length) x.length).cps).toList = _
      rw [Array.toList_append, Array.toList_append, List.append_assoc]
theorem isi_get {α : Type} {d : Nat} {n : Nat} (h : d < n) : True := trivial
theorem vc_is_integer : ∀ svs Qd, sp_is_integer svs Qd → svs.length = 1 ∧ w_is_integer (endD Qd) (startD 1 svs) := by
  rintro svs Qd ⟨d, rfl, hd, hq⟩
  refine ⟨rfl, ?_⟩; unfold w_is_integer; simp only [startD, List.getElem?_cons_zero, List.getElem?_cons_succ, List.set_cons_zero, List.set_cons_succ, List.length_cons, List.length_nil, List.map_cons, List.map_nil, List.replicate, List.append_assoc, List.nil_append, List.cons_append, List.append_nil, List.foldl_cons, List.foldl_nil, Nat.reduceAdd, Nat.reduceSub, String.reduceBEq, Nat.reduceBEq, String.reduceEq, beq_self_eq_true, List.lookup, if_true, if_false, Bool.false_eq_true, true_and, and_true, Bool.not_true, Bool.not_false, reduceIte]
  have hc : ∀ c, c < ncls → List.lookup c isiC_int = some false ∧ List.lookup c isiC_bool = some false := by decide
  cases d with
  | ins c ds =>
    dsimp only [wSeq, wSkip, wBrk, wCnt, wNever, wRet, wRetN, wExpr, wIfS, wAsg, sto, wTru, truD, wTAnd, wTOr, wTNot, wTB, wYes, wAnd, wOr, wNot, wIf, wChain, wC, wVar, wOp, wUn, wNil, wCons, allV, wN, wTup, wLst, wd, wRng1, wRng2, wEnum, wZip, wIt, wFor, wLc, wIsi, isiD, tyN, wFld, wSetF, wCall, wCallK, wMeth, wMethK, wMethK0, wBagCall, wBagIx, wBagSet, wScrIx, wSlX, slDX, wSl, slD, wOptI, wNoI, wIxN, wLenN, wListR, wTupR, wR1, wR2, wJoin, joinD, fJs, fmtD, wPar, wPar3, wAsgT, wApp, wExt, wSetI, ownAt, wAug, wFrz, frzD, frz1, wLook, wLookT, prim, addD, subD, mulD, mulT, fdivD, modD, powD, negD, ltD, leD, gtD, geD, ordD, cmpD, isD, inSD, eqT, binO, lenT, strT, negT, lenD, strD, absD, intD, max2D, min2D, allD, anyD, listD, tupleD, reprD, revD, ixD, rgD, permS, pick, dflt, mkF, endD, endO, endI, startD, Pat.put, Pat.putL, blkD, wipeD, keepVB, cntBag, inW, wBmS, wBmL, splitD, partD, sindexD, findD, lindexD, sumD, sortID, wRng3, wCD, wCIx, wDispIx, wDispL, wPr, wAsgP, notLD, notS, wLook2, ownsD, prim, endP, ↓DD.ixK_0, ↓DD.ixK_1, ↓DD.ixK_2, ↓DD.ixK_3, ↓DD.ixK_4, ↓DD.ixK_5, ↓DD.ixK_6, ↓DD.ixK_7, ↓DD.ixK_8, ↓DD.ixK_9, ↓DD.ixK_10, ↓DD.ixK_11, ↓DD.ixK_12, ↓DD.ixK_13, DD.ite_tt, DD.ite_ft, DD.itp_tt, DD.itp_ft, DD.map_c, DD.map_n, DD.set_c0, DD.set_cs, DD.get_c0, DD.get_cs, List.getElem?_cons_zero, List.getElem?_cons_succ, List.set_cons_zero, List.set_cons_succ, List.length_cons, List.length_nil, List.map_cons, List.map_nil, List.replicate, List.append_assoc, List.nil_append, List.cons_append, List.append_nil, List.foldl_cons, List.foldl_nil, Nat.reduceAdd, Nat.reduceSub, String.reduceBEq, Nat.reduceBEq, String.reduceEq, beq_self_eq_true, List.lookup, if_true, if_false, Bool.false_eq_true, true_and, and_true, Bool.not_true, Bool.not_false, reduceIte]
    rw [(hc c hd).1]
    exact hq
  | scr ns => exact hd.elim
  | fn n => exact hd.elim
  | _ => simp only [wSeq, wSkip, wBrk, wCnt, wNever, wRet, wRetN, wExpr, wIfS, wAsg, sto, wTru, truD, wTAnd, wTOr, wTNot, wTB, wYes, wAnd, wOr, wNot, wIf, wChain, wC, wVar, wOp, wUn, wNil, wCons, allV, wN, wTup, wLst, wd, wRng1, wRng2, wEnum, wZip, wIt, wFor, wLc, wIsi, isiD, tyN, wFld, wSetF, wCall, wCallK, wMeth, wMethK, wMethK0, wBagCall, wBagIx, wBagSet, wScrIx, wSlX, slDX, wSl, slD, wOptI, wNoI, wIxN, wLenN, wListR, wTupR, wR1, wR2, wJoin, joinD, fJs, fmtD, wPar, wPar3, wAsgT, wApp, wExt, wSetI, ownAt, wAug, wFrz, frzD, frz1, wLook, wLookT, prim, addD, subD, mulD, mulT, fdivD, modD, powD, negD, ltD, leD, gtD, geD, ordD, cmpD, isD, inSD, eqT, binO, lenT, strT, negT, lenD, strD, absD, intD, max2D, min2D, allD, anyD, listD, tupleD, reprD, revD, ixD, rgD, permS, pick, dflt, mkF, endD, endO, endI, startD, Pat.put, Pat.putL, blkD, wipeD, keepVB, cntBag, inW, wBmS, wBmL, splitD, partD, sindexD, findD, lindexD, sumD, sortID, wRng3, wCD, wCIx, wDispIx, wDispL, wPr, wAsgP, notLD, notS, wLook2, ownsD, prim, endP, ↓DD.ixK_0, ↓DD.ixK_1, ↓DD.ixK_2, ↓DD.ixK_3, ↓DD.ixK_4, ↓DD.ixK_5, ↓DD.ixK_6, ↓DD.ixK_7, ↓DD.ixK_8, ↓DD.ixK_9, ↓DD.ixK_10, ↓DD.ixK_11, ↓DD.ixK_12, ↓DD.ixK_13, DD.ite_tt, DD.ite_ft, DD.itp_tt, DD.itp_ft, DD.map_c, DD.map_n, DD.set_c0, DD.set_cs, DD.get_c0, DD.get_cs, List.getElem?_cons_zero, List.getElem?_cons_succ, List.set_cons_zero, List.set_cons_succ, List.length_cons, List.length_nil, List.map_cons, List.map_nil, List.replicate, List.append_assoc, List.nil_append, List.cons_append, List.append_nil, List.foldl_cons, List.foldl_nil, Nat.reduceAdd, Nat.reduceSub, String.reduceBEq, Nat.reduceBEq, String.reduceEq, beq_self_eq_true, List.lookup, if_true, if_false, Bool.false_eq_true, true_and, and_true, Bool.not_true, Bool.not_false, reduceIte, List.cons.injEq, SV.val.injEq, D.int.injEq, D.str.injEq, D.bl.injEq, D.tup.injEq, D.lst.injEq, D.ins.injEq, D.scr.injEq, exists_eq_left, exists_eq_left', exists_and_left, exists_const, and_self, reduceCtorEq, false_and, and_false, or_false, false_or, exists_false, and_assoc, Nat.zero_le, Nat.le_refl, okD, List.all_cons, List.all_nil, eqD, eqDs, Bool.and_true, Bool.true_and, Bool.and_self, decide_eq_true_eq, beq_iff_eq, Bool.and_eq_true, bne_iff_ne, ne_eq, not_true_eq_false, not_false_eq_true, isiB_int, isiC_int, isiB_bool, isiC_bool, tyN]; exact hq
theorem vc_is_fraction : ∀ svs Qd, sp_is_fraction svs Qd → svs.length = 1 ∧ w_is_fraction (endD Qd) (startD 1 svs) := by
  rintro svs Qd ⟨d, rfl, hd, hq⟩
  refine ⟨rfl, ?_⟩; unfold w_is_fraction; simp only [startD, List.getElem?_cons_zero, List.getElem?_cons_succ, List.set_cons_zero, List.set_cons_succ, List.length_cons, List.length_nil, List.map_cons, List.map_nil, List.replicate, List.append_assoc, List.nil_append, List.cons_append, List.append_nil, List.foldl_cons, List.foldl_nil, Nat.reduceAdd, Nat.reduceSub, String.reduceBEq, Nat.reduceBEq, String.reduceEq, beq_self_eq_true, List.lookup, if_true, if_false, Bool.false_eq_true, true_and, and_true, Bool.not_true, Bool.not_false, reduceIte]
  have hc : ∀ c, c < ncls → List.lookup c isiC_Ratio = some (c == 0) := by decide
  cases d with
  | ins c ds =>
    dsimp only [wSeq, wSkip, wBrk, wCnt, wNever, wRet, wRetN, wExpr, wIfS, wAsg, sto, wTru, truD, wTAnd, wTOr, wTNot, wTB, wYes, wAnd, wOr, wNot, wIf, wChain, wC, wVar, wOp, wUn, wNil, wCons, allV, wN, wTup, wLst, wd, wRng1, wRng2, wEnum, wZip, wIt, wFor, wLc, wIsi, isiD, tyN, wFld, wSetF, wCall, wCallK, wMeth, wMethK, wMethK0, wBagCall, wBagIx, wBagSet, wScrIx, wSlX, slDX, wSl, slD, wOptI, wNoI, wIxN, wLenN, wListR, wTupR, wR1, wR2, wJoin, joinD, fJs, fmtD, wPar, wPar3, wAsgT, wApp, wExt, wSetI, ownAt, wAug, wFrz, frzD, frz1, wLook, wLookT, prim, addD, subD, mulD, mulT, fdivD, modD, powD, negD, ltD, leD, gtD, geD, ordD, cmpD, isD, inSD, eqT, binO, lenT, strT, negT, lenD, strD, absD, intD, max2D, min2D, allD, anyD, listD, tupleD, reprD, revD, ixD, rgD, permS, pick, dflt, mkF, endD, endO, endI, startD, Pat.put, Pat.putL, blkD, wipeD, keepVB, cntBag, inW, wBmS, wBmL, splitD, partD, sindexD, findD, lindexD, sumD, sortID, wRng3, wCD, wCIx, wDispIx, wDispL, wPr, wAsgP, notLD, notS, wLook2, ownsD, prim, endP, ↓DD.ixK_0, ↓DD.ixK_1, ↓DD.ixK_2, ↓DD.ixK_3, ↓DD.ixK_4, ↓DD.ixK_5, ↓DD.ixK_6, ↓DD.ixK_7, ↓DD.ixK_8, ↓DD.ixK_9, ↓DD.ixK_10, ↓DD.ixK_11, ↓DD.ixK_12, ↓DD.ixK_13, DD.ite_tt, DD.ite_ft, DD.itp_tt, DD.itp_ft, DD.map_c, DD.map_n, DD.set_c0, DD.set_cs, DD.get_c0, DD.get_cs, List.getElem?_cons_zero, List.getElem?_cons_succ, List.set_cons_zero, List.set_cons_succ, List.length_cons, List.length_nil, List.map_cons, List.map_nil, List.replicate, List.append_assoc, List.nil_append, List.cons_append, List.append_nil, List.foldl_cons, List.foldl_nil, Nat.reduceAdd, Nat.reduceSub, String.reduceBEq, Nat.reduceBEq, String.reduceEq, beq_self_eq_true, List.lookup, if_true, if_false, Bool.false_eq_true, true_and, and_true, Bool.not_true, Bool.not_false, reduceIte]
    refine ⟨by decide, _, rfl, hd, ?_⟩
    dsimp only [isInt]
    rw [hc c hd]
    exact hq
  | scr ns => exact hd.elim
  | fn n => exact hd.elim
  | _ => simp only [wSeq, wSkip, wBrk, wCnt, wNever, wRet, wRetN, wExpr, wIfS, wAsg, sto, wTru, truD, wTAnd, wTOr, wTNot, wTB, wYes, wAnd, wOr, wNot, wIf, wChain, wC, wVar, wOp, wUn, wNil, wCons, allV, wN, wTup, wLst, wd, wRng1, wRng2, wEnum, wZip, wIt, wFor, wLc, wIsi, isiD, tyN, wFld, wSetF, wCall, wCallK, wMeth, wMethK, wMethK0, wBagCall, wBagIx, wBagSet, wScrIx, wSlX, slDX, wSl, slD, wOptI, wNoI, wIxN, wLenN, wListR, wTupR, wR1, wR2, wJoin, joinD, fJs, fmtD, wPar, wPar3, wAsgT, wApp, wExt, wSetI, ownAt, wAug, wFrz, frzD, frz1, wLook, wLookT, prim, addD, subD, mulD, mulT, fdivD, modD, powD, negD, ltD, leD, gtD, geD, ordD, cmpD, isD, inSD, eqT, binO, lenT, strT, negT, lenD, strD, absD, intD, max2D, min2D, allD, anyD, listD, tupleD, reprD, revD, ixD, rgD, permS, pick, dflt, mkF, endD, endO, endI, startD, Pat.put, Pat.putL, blkD, wipeD, keepVB, cntBag, inW, wBmS, wBmL, splitD, partD, sindexD, findD, lindexD, sumD, sortID, wRng3, wCD, wCIx, wDispIx, wDispL, wPr, wAsgP, notLD, notS, wLook2, ownsD, prim, endP, ↓DD.ixK_0, ↓DD.ixK_1, ↓DD.ixK_2, ↓DD.ixK_3, ↓DD.ixK_4, ↓DD.ixK_5, ↓DD.ixK_6, ↓DD.ixK_7, ↓DD.ixK_8, ↓DD.ixK_9, ↓DD.ixK_10, ↓DD.ixK_11, ↓DD.ixK_12, ↓DD.ixK_13, DD.ite_tt, DD.ite_ft, DD.itp_tt, DD.itp_ft, DD.map_c, DD.map_n, DD.set_c0, DD.set_cs, DD.get_c0, DD.get_cs, List.getElem?_cons_zero, List.getElem?_cons_succ, List.set_cons_zero, List.set_cons_succ, List.length_cons, List.length_nil, List.map_cons, List.map_nil, List.replicate, List.append_assoc, List.nil_append, List.cons_append, List.append_nil, List.foldl_cons, List.foldl_nil, Nat.reduceAdd, Nat.reduceSub, String.reduceBEq, Nat.reduceBEq, String.reduceEq, beq_self_eq_true, List.lookup, if_true, if_false, Bool.false_eq_true, true_and, and_true, Bool.not_true, Bool.not_false, reduceIte, List.cons.injEq, SV.val.injEq, D.int.injEq, D.str.injEq, D.bl.injEq, D.tup.injEq, D.lst.injEq, D.ins.injEq, D.scr.injEq, exists_eq_left, exists_eq_left', exists_and_left, exists_const, and_self, reduceCtorEq, false_and, and_false, or_false, false_or, exists_false, and_assoc, Nat.zero_le, Nat.le_refl, okD, List.all_cons, List.all_nil, eqD, eqDs, Bool.and_true, Bool.true_and, Bool.and_self, decide_eq_true_eq, beq_iff_eq, Bool.and_eq_true, bne_iff_ne, ne_eq, not_true_eq_false, not_false_eq_true, isiB_Ratio, isiC_Ratio, tyN, sp_is_integer, isInt]; exact ⟨hd, hq⟩
theorem lg {x : Int} {k : Nat} (h : x.natAbs < 2 ^ k) (h0 : 0 < k := by omega) : x.natAbs.log2 < k := by
  rcases Nat.eq_zero_or_pos x.natAbs with e | e
  · rw [e]; exact Nat.lt_of_le_of_lt (by decide) h0
  · exact (Nat.log2_lt (by omega)).mpr h
theorem mulOk_of {i j : Int} {m n : Nat} (h : i.natAbs < 2 ^ m) (h' : j.natAbs < 2 ^ n) (hm : 0 < m := by omega) (hn : 0 < n := by omega) (hs : m + n ≤ 1000000 := by omega) : MulOk i j := by
  have a := lg h hm
  have b := lg h' hn
  exact .inr (by unfold L2.CMulW; omega)
theorem small_mul {i j : Int} (h : small i) (h' : small j) : MulOk i j := mulOk_of h h'
theorem gcd_pos {t b : Int} (h : 0 < b) : (0 : Int) < (Int.gcd t b : Int) := by
  have : 0 < Int.gcd t b := Int.gcd_pos_of_ne_zero_right t (by omega)
  omega
theorem gcd_le {t b : Int} (h : 0 < b) : Int.gcd t b ≤ b.natAbs := Int.gcd_le_natAbs_right t (by omega)
theorem divOk_gcd {x t b : Int} (h : 0 < b) (hb : b.natAbs < 2 ^ 4000) : DivOk x (Int.gcd t b) := by
  have h1 := gcd_pos (t := t) h
  have h2 := gcd_le (t := t) h
  refine .inr ⟨h1, ?_⟩
  have := lg (x := (Int.gcd t b : Int)) (k := 4000) (by rw [Int.natAbs_natCast]; omega)
  omega
theorem vc_shared_factor : ∀ svs Qd, sp_shared_factor svs Qd → svs.length = 2 ∧ w_shared_factor (endD Qd) (startD 4 svs) := by
  rintro svs Qd ⟨a, b, rfl, hq⟩
  refine ⟨rfl, ?_⟩
  unfold w_shared_factor
  simp only [wSeq, wSkip, wBrk, wCnt, wNever, wRet, wRetN, wExpr, wIfS, wAsg, sto, wTru, truD, wTAnd, wTOr, wTNot, wTB, wYes, wAnd, wOr, wNot, wIf, wChain, wC, wVar, wOp, wUn, wNil, wCons, allV, wN, wTup, wLst, wd, wRng1, wRng2, wEnum, wZip, wIt, wFor, wLc, wIsi, isiD, tyN, wFld, wSetF, wCall, wCallK, wMeth, wMethK, wMethK0, wBagCall, wBagIx, wBagSet, wScrIx, wSlX, slDX, wSl, slD, wOptI, wNoI, wIxN, wLenN, wListR, wTupR, wR1, wR2, wJoin, joinD, fJs, fmtD, wPar, wPar3, wAsgT, wApp, wExt, wSetI, ownAt, wAug, wFrz, frzD, frz1, wLook, wLookT, prim, addD, subD, mulD, mulT, fdivD, modD, powD, negD, ltD, leD, gtD, geD, ordD, cmpD, isD, inSD, eqT, binO, lenT, strT, negT, lenD, strD, absD, intD, max2D, min2D, allD, anyD, listD, tupleD, reprD, revD, ixD, rgD, permS, pick, dflt, mkF, endD, endO, endI, startD, Pat.put, Pat.putL, blkD, wipeD, keepVB, cntBag, inW, wBmS, wBmL, splitD, partD, sindexD, findD, lindexD, sumD, sortID, wRng3, wCD, wCIx, wDispIx, wDispL, wPr, wAsgP, notLD, notS, wLook2, ownsD, prim, endP, ↓DD.ixK_0, ↓DD.ixK_1, ↓DD.ixK_2, ↓DD.ixK_3, ↓DD.ixK_4, ↓DD.ixK_5, ↓DD.ixK_6, ↓DD.ixK_7, ↓DD.ixK_8, ↓DD.ixK_9, ↓DD.ixK_10, ↓DD.ixK_11, ↓DD.ixK_12, ↓DD.ixK_13, DD.ite_tt, DD.ite_ft, DD.itp_tt, DD.itp_ft, DD.map_c, DD.map_n, DD.set_c0, DD.set_cs, DD.get_c0, DD.get_cs, List.getElem?_cons_zero, List.getElem?_cons_succ, List.set_cons_zero, List.set_cons_succ, List.length_cons, List.length_nil, List.map_cons, List.map_nil, List.replicate, List.append_assoc, List.nil_append, List.cons_append, List.append_nil, List.foldl_cons, List.foldl_nil, Nat.reduceAdd, Nat.reduceSub, String.reduceBEq, Nat.reduceBEq, String.reduceEq, beq_self_eq_true, List.lookup, if_true, if_false, Bool.false_eq_true, true_and, and_true, Bool.not_true, Bool.not_false, reduceIte, wWhile]
  have e0 : ∀ x : Int, (if x < 0 then -x else x) = (x.natAbs : Int) := fun x => by split <;> omega
  refine ⟨fun m δ => ∃ h l : Nat, l = m ∧ Nat.gcd h l = Int.gcd a b ∧ δ = [some (.val (.int a)), some (.val (.int b)), some (.val (.int h)), some (.val (.int l))], ⟨_, a.natAbs, b.natAbs, rfl, rfl, by rw [e0, e0]⟩, ?_⟩
  rintro m δ ⟨h, l, rfl, hg, rfl⟩
  simp only [wSeq, wSkip, wBrk, wCnt, wNever, wRet, wRetN, wExpr, wIfS, wAsg, sto, wTru, truD, wTAnd, wTOr, wTNot, wTB, wYes, wAnd, wOr, wNot, wIf, wChain, wC, wVar, wOp, wUn, wNil, wCons, allV, wN, wTup, wLst, wd, wRng1, wRng2, wEnum, wZip, wIt, wFor, wLc, wIsi, isiD, tyN, wFld, wSetF, wCall, wCallK, wMeth, wMethK, wMethK0, wBagCall, wBagIx, wBagSet, wScrIx, wSlX, slDX, wSl, slD, wOptI, wNoI, wIxN, wLenN, wListR, wTupR, wR1, wR2, wJoin, joinD, fJs, fmtD, wPar, wPar3, wAsgT, wApp, wExt, wSetI, ownAt, wAug, wFrz, frzD, frz1, wLook, wLookT, prim, addD, subD, mulD, mulT, fdivD, modD, powD, negD, ltD, leD, gtD, geD, ordD, cmpD, isD, inSD, eqT, binO, lenT, strT, negT, lenD, strD, absD, intD, max2D, min2D, allD, anyD, listD, tupleD, reprD, revD, ixD, rgD, permS, pick, dflt, mkF, endD, endO, endI, startD, Pat.put, Pat.putL, blkD, wipeD, keepVB, cntBag, inW, wBmS, wBmL, splitD, partD, sindexD, findD, lindexD, sumD, sortID, wRng3, wCD, wCIx, wDispIx, wDispL, wPr, wAsgP, notLD, notS, wLook2, ownsD, prim, endP, ↓DD.ixK_0, ↓DD.ixK_1, ↓DD.ixK_2, ↓DD.ixK_3, ↓DD.ixK_4, ↓DD.ixK_5, ↓DD.ixK_6, ↓DD.ixK_7, ↓DD.ixK_8, ↓DD.ixK_9, ↓DD.ixK_10, ↓DD.ixK_11, ↓DD.ixK_12, ↓DD.ixK_13, DD.ite_tt, DD.ite_ft, DD.itp_tt, DD.itp_ft, DD.map_c, DD.map_n, DD.set_c0, DD.set_cs, DD.get_c0, DD.get_cs, List.getElem?_cons_zero, List.getElem?_cons_succ, List.set_cons_zero, List.set_cons_succ, List.length_cons, List.length_nil, List.map_cons, List.map_nil, List.replicate, List.append_assoc, List.nil_append, List.cons_append, List.append_nil, List.foldl_cons, List.foldl_nil, Nat.reduceAdd, Nat.reduceSub, String.reduceBEq, Nat.reduceBEq, String.reduceEq, beq_self_eq_true, List.lookup, if_true, if_false, Bool.false_eq_true, true_and, and_true, Bool.not_true, Bool.not_false, reduceIte]
  split
  · rename_i hl
    have hl : 0 < l := by have := of_decide_eq_true hl; omega
    refine ⟨by omega, _, ?_, l, h % l, rfl, ?_, ?_⟩
    · exact Nat.mod_lt _ hl
    · rw [← hg, Nat.gcd_comm h l, Nat.gcd_rec l h, Nat.gcd_comm]
    · rw [Int.natCast_emod]
  · rename_i hl
    have hl : l = 0 := by
      have : ¬ (0 < (l : Int)) := fun z => hl (decide_eq_true z)
      omega
    subst hl
    rw [Nat.gcd_zero_right] at hg
    rw [hg]; exact hq
theorem vc_Ratio_init (T : Tb) (hT : T.fl = fl) : ∀ svs Qd, fi_Ratio svs Qd → svs.length + 1 = 3 ∧ w_Ratio_init T (endI 0 (T.fl 0).length Qd) (startD 4 (.slf 0 [] :: svs)) := by
  rintro svs Qd ⟨t, b, rfl, hb, hb2, hq⟩
  refine ⟨rfl, ?_⟩
  unfold w_Ratio_init
  simp only [wSeq, wSkip, wBrk, wCnt, wNever, wRet, wRetN, wExpr, wIfS, wAsg, sto, wTru, truD, wTAnd, wTOr, wTNot, wTB, wYes, wAnd, wOr, wNot, wIf, wChain, wC, wVar, wOp, wUn, wNil, wCons, allV, wN, wTup, wLst, wd, wRng1, wRng2, wEnum, wZip, wIt, wFor, wLc, wIsi, isiD, tyN, wFld, wSetF, wCall, wCallK, wMeth, wMethK, wMethK0, wBagCall, wBagIx, wBagSet, wScrIx, wSlX, slDX, wSl, slD, wOptI, wNoI, wIxN, wLenN, wListR, wTupR, wR1, wR2, wJoin, joinD, fJs, fmtD, wPar, wPar3, wAsgT, wApp, wExt, wSetI, ownAt, wAug, wFrz, frzD, frz1, wLook, wLookT, prim, addD, subD, mulD, mulT, fdivD, modD, powD, negD, ltD, leD, gtD, geD, ordD, cmpD, isD, inSD, eqT, binO, lenT, strT, negT, lenD, strD, absD, intD, max2D, min2D, allD, anyD, listD, tupleD, reprD, revD, ixD, rgD, permS, pick, dflt, mkF, endD, endO, endI, startD, Pat.put, Pat.putL, blkD, wipeD, keepVB, cntBag, inW, wBmS, wBmL, splitD, partD, sindexD, findD, lindexD, sumD, sortID, wRng3, wCD, wCIx, wDispIx, wDispL, wPr, wAsgP, notLD, notS, wLook2, ownsD, prim, endP, ↓DD.ixK_0, ↓DD.ixK_1, ↓DD.ixK_2, ↓DD.ixK_3, ↓DD.ixK_4, ↓DD.ixK_5, ↓DD.ixK_6, ↓DD.ixK_7, ↓DD.ixK_8, ↓DD.ixK_9, ↓DD.ixK_10, ↓DD.ixK_11, ↓DD.ixK_12, ↓DD.ixK_13, DD.ite_tt, DD.ite_ft, DD.itp_tt, DD.itp_ft, DD.map_c, DD.map_n, DD.set_c0, DD.set_cs, DD.get_c0, DD.get_cs, List.getElem?_cons_zero, List.getElem?_cons_succ, List.set_cons_zero, List.set_cons_succ, List.length_cons, List.length_nil, List.map_cons, List.map_nil, List.replicate, List.append_assoc, List.nil_append, List.cons_append, List.append_nil, List.foldl_cons, List.foldl_nil, Nat.reduceAdd, Nat.reduceSub, String.reduceBEq, Nat.reduceBEq, String.reduceEq, beq_self_eq_true, List.lookup, if_true, if_false, Bool.false_eq_true, true_and, and_true, Bool.not_true, Bool.not_false, reduceIte, List.cons.injEq, SV.val.injEq, D.int.injEq, D.str.injEq, D.bl.injEq, D.tup.injEq, D.lst.injEq, D.ins.injEq, D.scr.injEq, exists_eq_left, exists_eq_left', exists_and_left, exists_const, and_self, reduceCtorEq, false_and, and_false, or_false, false_or, exists_false, and_assoc, Nat.zero_le, Nat.le_refl, okD, List.all_cons, List.all_nil, eqD, eqDs, Bool.and_true, Bool.true_and, Bool.and_self, decide_eq_true_eq, beq_iff_eq, Bool.and_eq_true, bne_iff_ne, ne_eq, not_true_eq_false, not_false_eq_true, hT, fl, sp_is_integer, okT, isInt, sp_shared_factor]
  have hb3 : ¬ (b < 1) := by omega
  simp only [wSeq, wSkip, wBrk, wCnt, wNever, wRet, wRetN, wExpr, wIfS, wAsg, sto, wTru, truD, wTAnd, wTOr, wTNot, wTB, wYes, wAnd, wOr, wNot, wIf, wChain, wC, wVar, wOp, wUn, wNil, wCons, allV, wN, wTup, wLst, wd, wRng1, wRng2, wEnum, wZip, wIt, wFor, wLc, wIsi, isiD, tyN, wFld, wSetF, wCall, wCallK, wMeth, wMethK, wMethK0, wBagCall, wBagIx, wBagSet, wScrIx, wSlX, slDX, wSl, slD, wOptI, wNoI, wIxN, wLenN, wListR, wTupR, wR1, wR2, wJoin, joinD, fJs, fmtD, wPar, wPar3, wAsgT, wApp, wExt, wSetI, ownAt, wAug, wFrz, frzD, frz1, wLook, wLookT, prim, addD, subD, mulD, mulT, fdivD, modD, powD, negD, ltD, leD, gtD, geD, ordD, cmpD, isD, inSD, eqT, binO, lenT, strT, negT, lenD, strD, absD, intD, max2D, min2D, allD, anyD, listD, tupleD, reprD, revD, ixD, rgD, permS, pick, dflt, mkF, endD, endO, endI, startD, Pat.put, Pat.putL, blkD, wipeD, keepVB, cntBag, inW, wBmS, wBmL, splitD, partD, sindexD, findD, lindexD, sumD, sortID, wRng3, wCD, wCIx, wDispIx, wDispL, wPr, wAsgP, notLD, notS, wLook2, ownsD, prim, endP, ↓DD.ixK_0, ↓DD.ixK_1, ↓DD.ixK_2, ↓DD.ixK_3, ↓DD.ixK_4, ↓DD.ixK_5, ↓DD.ixK_6, ↓DD.ixK_7, ↓DD.ixK_8, ↓DD.ixK_9, ↓DD.ixK_10, ↓DD.ixK_11, ↓DD.ixK_12, ↓DD.ixK_13, DD.ite_tt, DD.ite_ft, DD.itp_tt, DD.itp_ft, DD.map_c, DD.map_n, DD.set_c0, DD.set_cs, DD.get_c0, DD.get_cs, List.getElem?_cons_zero, List.getElem?_cons_succ, List.set_cons_zero, List.set_cons_succ, List.length_cons, List.length_nil, List.map_cons, List.map_nil, List.replicate, List.append_assoc, List.nil_append, List.cons_append, List.append_nil, List.foldl_cons, List.foldl_nil, Nat.reduceAdd, Nat.reduceSub, String.reduceBEq, Nat.reduceBEq, String.reduceEq, beq_self_eq_true, List.lookup, if_true, if_false, Bool.false_eq_true, true_and, and_true, Bool.not_true, Bool.not_false, reduceIte, List.cons.injEq, SV.val.injEq, D.int.injEq, D.str.injEq, D.bl.injEq, D.tup.injEq, D.lst.injEq, D.ins.injEq, D.scr.injEq, exists_eq_left, exists_eq_left', exists_and_left, exists_const, and_self, reduceCtorEq, false_and, and_false, or_false, false_or, exists_false, and_assoc, Nat.zero_le, Nat.le_refl, okD, List.all_cons, List.all_nil, eqD, eqDs, Bool.and_true, Bool.true_and, Bool.and_self, decide_eq_true_eq, beq_iff_eq, Bool.and_eq_true, bne_iff_ne, ne_eq, not_true_eq_false, not_false_eq_true, hb3, decide_false]
  (repeat (refine And.intro (by first | assumption | exact True.intro | omega | exact divOk_gcd hb hb2 | exact ⟨True.intro, True.intro⟩ | exact Nat.zero_le 1 | exact Nat.le_refl 1 | exact Eq.refl 0 | exact szOk_of (by omega) | exact small4 (by assumption) | exact small_mul (by assumption) (by assumption)) ?_))
  exact hq
theorem isFr_cases {d : D} {t b : Int} (h : isFr d = some (t, b)) : (d = .int t ∧ b = 1) ∨ d = rat t b := by
  unfold isFr at h
  split at h
  · cases h; exact .inl ⟨rfl, rfl⟩
  · cases h; exact .inr rfl
  · cases h
theorem small_lt {x : Int} {k : Nat} (h : x.natAbs < 2 ^ k) (hk : k ≤ 1000) : small x := Nat.lt_of_lt_of_le h (Nat.pow_le_pow_right (by decide) hk)
theorem small_1 : small 1 := by unfold small; decide
theorem small4 {x : Int} (h : small x) : x.natAbs < 2 ^ 4000 := Nat.lt_of_lt_of_le h (Nat.pow_le_pow_right (by decide) (by decide))
theorem low_id {t b : Int} (h : low t b) : t / (Int.gcd t b : Int) = t ∧ b / (Int.gcd t b : Int) = b := by
  rw [h.2]; exact ⟨Int.ediv_one t, Int.ediv_one b⟩
theorem nrm_low {t b : Int} (h : low t b) : nrm t b = rat t b := by
  unfold nrm; rw [(low_id h).1, (low_id h).2]
theorem vc_as_ratio : ∀ svs Qd, sp_as_ratio svs Qd → svs.length = 1 ∧ w_as_ratio (endD Qd) (startD 1 svs) := by
  rintro svs Qd ⟨d, t, b, rfl, ⟨hf, hl, ht, hb⟩, hq⟩
  refine ⟨rfl, ?_⟩
  unfold w_as_ratio
  rcases isFr_cases hf with ⟨rfl, rfl⟩ | rfl
  · simp only [wSeq, wSkip, wBrk, wCnt, wNever, wRet, wRetN, wExpr, wIfS, wAsg, sto, wTru, truD, wTAnd, wTOr, wTNot, wTB, wYes, wAnd, wOr, wNot, wIf, wChain, wC, wVar, wOp, wUn, wNil, wCons, allV, wN, wTup, wLst, wd, wRng1, wRng2, wEnum, wZip, wIt, wFor, wLc, wIsi, isiD, tyN, wFld, wSetF, wCall, wCallK, wMeth, wMethK, wMethK0, wBagCall, wBagIx, wBagSet, wScrIx, wSlX, slDX, wSl, slD, wOptI, wNoI, wIxN, wLenN, wListR, wTupR, wR1, wR2, wJoin, joinD, fJs, fmtD, wPar, wPar3, wAsgT, wApp, wExt, wSetI, ownAt, wAug, wFrz, frzD, frz1, wLook, wLookT, prim, addD, subD, mulD, mulT, fdivD, modD, powD, negD, ltD, leD, gtD, geD, ordD, cmpD, isD, inSD, eqT, binO, lenT, strT, negT, lenD, strD, absD, intD, max2D, min2D, allD, anyD, listD, tupleD, reprD, revD, ixD, rgD, permS, pick, dflt, mkF, endD, endO, endI, startD, Pat.put, Pat.putL, blkD, wipeD, keepVB, cntBag, inW, wBmS, wBmL, splitD, partD, sindexD, findD, lindexD, sumD, sortID, wRng3, wCD, wCIx, wDispIx, wDispL, wPr, wAsgP, notLD, notS, wLook2, ownsD, prim, endP, ↓DD.ixK_0, ↓DD.ixK_1, ↓DD.ixK_2, ↓DD.ixK_3, ↓DD.ixK_4, ↓DD.ixK_5, ↓DD.ixK_6, ↓DD.ixK_7, ↓DD.ixK_8, ↓DD.ixK_9, ↓DD.ixK_10, ↓DD.ixK_11, ↓DD.ixK_12, ↓DD.ixK_13, DD.ite_tt, DD.ite_ft, DD.itp_tt, DD.itp_ft, DD.map_c, DD.map_n, DD.set_c0, DD.set_cs, DD.get_c0, DD.get_cs, List.getElem?_cons_zero, List.getElem?_cons_succ, List.set_cons_zero, List.set_cons_succ, List.length_cons, List.length_nil, List.map_cons, List.map_nil, List.replicate, List.append_assoc, List.nil_append, List.cons_append, List.append_nil, List.foldl_cons, List.foldl_nil, Nat.reduceAdd, Nat.reduceSub, String.reduceBEq, Nat.reduceBEq, String.reduceEq, beq_self_eq_true, List.lookup, if_true, if_false, Bool.false_eq_true, true_and, and_true, Bool.not_true, Bool.not_false, reduceIte, List.cons.injEq, SV.val.injEq, D.int.injEq, D.str.injEq, D.bl.injEq, D.tup.injEq, D.lst.injEq, D.ins.injEq, D.scr.injEq, exists_eq_left, exists_eq_left', exists_and_left, exists_const, and_self, reduceCtorEq, false_and, and_false, or_false, false_or, exists_false, and_assoc, Nat.zero_le, Nat.le_refl, okD, List.all_cons, List.all_nil, eqD, eqDs, Bool.and_true, Bool.true_and, Bool.and_self, decide_eq_true_eq, beq_iff_eq, Bool.and_eq_true, bne_iff_ne, ne_eq, not_true_eq_false, not_false_eq_true, isiB_Ratio, isiC_Ratio, tyN, fi_Ratio, wCallK]
    (repeat (refine And.intro (by first | assumption | exact True.intro | omega | exact (by decide) | exact ⟨True.intro, True.intro⟩ | exact Nat.zero_le 1 | exact Nat.le_refl 1 | exact Eq.refl 0 | exact szOk_of (by omega) | exact small4 (by assumption) | exact small_mul (by assumption) (by assumption)) ?_))
    rw [Int.gcd_one_right]
    simpa [rat] using hq
  · simp only [wSeq, wSkip, wBrk, wCnt, wNever, wRet, wRetN, wExpr, wIfS, wAsg, sto, wTru, truD, wTAnd, wTOr, wTNot, wTB, wYes, wAnd, wOr, wNot, wIf, wChain, wC, wVar, wOp, wUn, wNil, wCons, allV, wN, wTup, wLst, wd, wRng1, wRng2, wEnum, wZip, wIt, wFor, wLc, wIsi, isiD, tyN, wFld, wSetF, wCall, wCallK, wMeth, wMethK, wMethK0, wBagCall, wBagIx, wBagSet, wScrIx, wSlX, slDX, wSl, slD, wOptI, wNoI, wIxN, wLenN, wListR, wTupR, wR1, wR2, wJoin, joinD, fJs, fmtD, wPar, wPar3, wAsgT, wApp, wExt, wSetI, ownAt, wAug, wFrz, frzD, frz1, wLook, wLookT, prim, addD, subD, mulD, mulT, fdivD, modD, powD, negD, ltD, leD, gtD, geD, ordD, cmpD, isD, inSD, eqT, binO, lenT, strT, negT, lenD, strD, absD, intD, max2D, min2D, allD, anyD, listD, tupleD, reprD, revD, ixD, rgD, permS, pick, dflt, mkF, endD, endO, endI, startD, Pat.put, Pat.putL, blkD, wipeD, keepVB, cntBag, inW, wBmS, wBmL, splitD, partD, sindexD, findD, lindexD, sumD, sortID, wRng3, wCD, wCIx, wDispIx, wDispL, wPr, wAsgP, notLD, notS, wLook2, ownsD, prim, endP, ↓DD.ixK_0, ↓DD.ixK_1, ↓DD.ixK_2, ↓DD.ixK_3, ↓DD.ixK_4, ↓DD.ixK_5, ↓DD.ixK_6, ↓DD.ixK_7, ↓DD.ixK_8, ↓DD.ixK_9, ↓DD.ixK_10, ↓DD.ixK_11, ↓DD.ixK_12, ↓DD.ixK_13, DD.ite_tt, DD.ite_ft, DD.itp_tt, DD.itp_ft, DD.map_c, DD.map_n, DD.set_c0, DD.set_cs, DD.get_c0, DD.get_cs, List.getElem?_cons_zero, List.getElem?_cons_succ, List.set_cons_zero, List.set_cons_succ, List.length_cons, List.length_nil, List.map_cons, List.map_nil, List.replicate, List.append_assoc, List.nil_append, List.cons_append, List.append_nil, List.foldl_cons, List.foldl_nil, Nat.reduceAdd, Nat.reduceSub, String.reduceBEq, Nat.reduceBEq, String.reduceEq, beq_self_eq_true, List.lookup, if_true, if_false, Bool.false_eq_true, true_and, and_true, Bool.not_true, Bool.not_false, reduceIte, List.cons.injEq, SV.val.injEq, D.int.injEq, D.str.injEq, D.bl.injEq, D.tup.injEq, D.lst.injEq, D.ins.injEq, D.scr.injEq, exists_eq_left, exists_eq_left', exists_and_left, exists_const, and_self, reduceCtorEq, false_and, and_false, or_false, false_or, exists_false, and_assoc, Nat.zero_le, Nat.le_refl, okD, List.all_cons, List.all_nil, eqD, eqDs, Bool.and_true, Bool.true_and, Bool.and_self, decide_eq_true_eq, beq_iff_eq, Bool.and_eq_true, bne_iff_ne, ne_eq, not_true_eq_false, not_false_eq_true, rat, isiB_Ratio, isiC_Ratio, tyN]
    exact hq
theorem isFrB_of {d : D} {t b : Int} (h : isFr d = some (t, b)) : isFrB d = true := by
  rcases isFr_cases h with ⟨rfl, rfl⟩ | rfl <;> rfl
theorem okT_of {d : D} {t b : Int} (h : isFr d = some (t, b)) : okT d := by
  rcases isFr_cases h with ⟨rfl, rfl⟩ | rfl
  · trivial
  · show (0 : Nat) < _; decide
theorem ratFr (t b : Int) : isFr (rat t b) = some (t, b) := rfl
theorem mul_pos2 {b c : Int} (h : 0 < b) (h' : 0 < c) : 0 < b * c := Int.mul_pos h h'
theorem small_prod {b c : Int} (h : small b) (h' : small c) : (b * c).natAbs < 2 ^ 4000 := by
  rw [Int.natAbs_mul]
  calc b.natAbs * c.natAbs ≤ 2 ^ 1000 * 2 ^ 1000 := Nat.mul_le_mul (Nat.le_of_lt h) (Nat.le_of_lt h')
    _ < 2 ^ 4000 := by decide +kernel
theorem frOk_rat {d : D} {t b : Int} (h : frOk d t b) : frOk (rat t b) t b := ⟨rfl, h.2⟩
theorem par_short {S : List Nat} : ∀ {w acc a b : List Nat}, TL.par S acc w = some (a, b) → a.length ≤ acc.length + w.length ∧ b.length ≤ w.length
  | [], acc, a, b, h => by unfold TL.par at h; cases h
  | c :: r, acc, a, b, h => by
    unfold TL.par at h
    split at h
    · cases h
      exact ⟨by omega, by rw [List.length_drop]; omega⟩
    · have := par_short h
      rw [List.length_append, List.length_singleton] at this
      rw [List.length_cons]
      omega
theorem spl_short {S : List Nat} : ∀ {w : List Nat} {k : Nat} {acc p : List Nat}, p ∈ TL.spl S k acc w → p.length ≤ acc.length + w.length
  | [], k, acc, p, h => by
    rw [TL.spl_nil, List.mem_singleton] at h
    rw [h]; omega
  | c :: r, 0, acc, p, h => by
    unfold TL.spl at h
    split at h
    · rcases List.mem_cons.mp h with rfl | h
      · omega
      · have := spl_short h
        rw [List.length_nil] at this
        rw [List.length_cons]; omega
    · have := spl_short h
      rw [List.length_append, List.length_singleton] at this
      rw [List.length_cons]; omega
  | c :: r, k + 1, acc, p, h => by
    unfold TL.spl at h
    have := spl_short h
    rw [List.length_cons]; omega
theorem str_beq (a b : Str) : (a == b) = (a.cps.toList == b.cps.toList) := by
  rw [Bool.eq_iff_iff, beq_iff_eq, beq_iff_eq]
  exact ⟨fun h => by rw [h], str_ext⟩
theorem tl_empty : (Str.ofString "").cps.toList = [] := by decide +kernel
theorem tl_nought : (Str.ofString "0").cps.toList = [48] := by decide +kernel
theorem dig_in (c : Nat) : decide (c ∈ (Str.ofString "0123456789").cps.toList) = (decide (48 ≤ c) && decide (c ≤ 57)) := by
  have e : (Str.ofString "0123456789").cps.toList = [48, 49, 50, 51, 52, 53, 54, 55, 56, 57] := by decide +kernel
  rw [e, Bool.eq_iff_iff]
  simp only [List.mem_cons, List.not_mem_nil, or_false, decide_eq_true_eq, Bool.and_eq_true]
  omega
theorem vc_are_figures : ∀ svs Qd, sp_are_figures svs Qd → svs.length = 1 ∧ w_are_figures (endD Qd) (startD 2 svs) := by
  rintro svs Qd ⟨s, rfl, hl, hq⟩
  refine ⟨rfl, ?_⟩; unfold w_are_figures; simp only [startD, List.getElem?_cons_zero, List.getElem?_cons_succ, List.set_cons_zero, List.set_cons_succ, List.length_cons, List.length_nil, List.map_cons, List.map_nil, List.replicate, List.append_assoc, List.nil_append, List.cons_append, List.append_nil, List.foldl_cons, List.foldl_nil, Nat.reduceAdd, Nat.reduceSub, String.reduceBEq, Nat.reduceBEq, String.reduceEq, beq_self_eq_true, List.lookup, if_true, if_false, Bool.false_eq_true, true_and, and_true, Bool.not_true, Bool.not_false, reduceIte]
  refine seq_op fun K hK => ?_
  dsimp only [wSeq, wSkip, wBrk, wCnt, wNever, wRet, wRetN, wExpr, wIfS, wAsg, sto, wTru, truD, wTAnd, wTOr, wTNot, wTB, wYes, wAnd, wOr, wNot, wIf, wChain, wC, wVar, wOp, wUn, wNil, wCons, allV, wN, wTup, wLst, wd, wRng1, wRng2, wEnum, wZip, wIt, wFor, wLc, wIsi, isiD, tyN, wFld, wSetF, wCall, wCallK, wMeth, wMethK, wMethK0, wBagCall, wBagIx, wBagSet, wScrIx, wSlX, slDX, wSl, slD, wOptI, wNoI, wIxN, wLenN, wListR, wTupR, wR1, wR2, wJoin, joinD, fJs, fmtD, wPar, wPar3, wAsgT, wApp, wExt, wSetI, ownAt, wAug, wFrz, frzD, frz1, wLook, wLookT, prim, addD, subD, mulD, mulT, fdivD, modD, powD, negD, ltD, leD, gtD, geD, ordD, cmpD, isD, inSD, eqT, binO, lenT, strT, negT, lenD, strD, absD, intD, max2D, min2D, allD, anyD, listD, tupleD, reprD, revD, ixD, rgD, permS, pick, dflt, mkF, endD, endO, endI, startD, Pat.put, Pat.putL, blkD, wipeD, keepVB, cntBag, inW, wBmS, wBmL, splitD, partD, sindexD, findD, lindexD, sumD, sortID, wRng3, wCD, wCIx, wDispIx, wDispL, wPr, wAsgP, notLD, notS, wLook2, ownsD, prim, endP, ↓DD.ixK_0, ↓DD.ixK_1, ↓DD.ixK_2, ↓DD.ixK_3, ↓DD.ixK_4, ↓DD.ixK_5, ↓DD.ixK_6, ↓DD.ixK_7, ↓DD.ixK_8, ↓DD.ixK_9, ↓DD.ixK_10, ↓DD.ixK_11, ↓DD.ixK_12, ↓DD.ixK_13, DD.ite_tt, DD.ite_ft, DD.itp_tt, DD.itp_ft, DD.map_c, DD.map_n, DD.set_c0, DD.set_cs, DD.get_c0, DD.get_cs, List.getElem?_cons_zero, List.getElem?_cons_succ, List.set_cons_zero, List.set_cons_succ, List.length_cons, List.length_nil, List.map_cons, List.map_nil, List.replicate, List.append_assoc, List.nil_append, List.cons_append, List.append_nil, List.foldl_cons, List.foldl_nil, Nat.reduceAdd, Nat.reduceSub, String.reduceBEq, Nat.reduceBEq, String.reduceEq, beq_self_eq_true, List.lookup, if_true, if_false, Bool.false_eq_true, true_and, and_true, Bool.not_true, Bool.not_false, reduceIte, inSD]
  rw [str_beq, tl_empty]
  cases hs : s.cps.toList with
  | nil =>
    rw [hs] at hq
    exact hq
  | cons c0 r =>
    rw [hs] at hq
    rw [if_neg (by simp)]
    refine compL_map (fun x => match x with | .str t => .bl (t.cps.toList.all fun c => decide (48 ≤ c) && decide (c ≤ 57)) | x => x) _ _ (szOk_of (by rw [signs_len]; omega)) (fun y hy K2 hK2 => ?_) ?_
    · obtain ⟨c, hc, rfl⟩ := signs_mem hy
      simp only [wSeq, wSkip, wBrk, wCnt, wNever, wRet, wRetN, wExpr, wIfS, wAsg, sto, wTru, truD, wTAnd, wTOr, wTNot, wTB, wYes, wAnd, wOr, wNot, wIf, wChain, wC, wVar, wOp, wUn, wNil, wCons, allV, wN, wTup, wLst, wd, wRng1, wRng2, wEnum, wZip, wIt, wFor, wLc, wIsi, isiD, tyN, wFld, wSetF, wCall, wCallK, wMeth, wMethK, wMethK0, wBagCall, wBagIx, wBagSet, wScrIx, wSlX, slDX, wSl, slD, wOptI, wNoI, wIxN, wLenN, wListR, wTupR, wR1, wR2, wJoin, joinD, fJs, fmtD, wPar, wPar3, wAsgT, wApp, wExt, wSetI, ownAt, wAug, wFrz, frzD, frz1, wLook, wLookT, prim, addD, subD, mulD, mulT, fdivD, modD, powD, negD, ltD, leD, gtD, geD, ordD, cmpD, isD, inSD, eqT, binO, lenT, strT, negT, lenD, strD, absD, intD, max2D, min2D, allD, anyD, listD, tupleD, reprD, revD, ixD, rgD, permS, pick, dflt, mkF, endD, endO, endI, startD, Pat.put, Pat.putL, blkD, wipeD, keepVB, cntBag, inW, wBmS, wBmL, splitD, partD, sindexD, findD, lindexD, sumD, sortID, wRng3, wCD, wCIx, wDispIx, wDispL, wPr, wAsgP, notLD, notS, wLook2, ownsD, prim, endP, ↓DD.ixK_0, ↓DD.ixK_1, ↓DD.ixK_2, ↓DD.ixK_3, ↓DD.ixK_4, ↓DD.ixK_5, ↓DD.ixK_6, ↓DD.ixK_7, ↓DD.ixK_8, ↓DD.ixK_9, ↓DD.ixK_10, ↓DD.ixK_11, ↓DD.ixK_12, ↓DD.ixK_13, DD.ite_tt, DD.ite_ft, DD.itp_tt, DD.itp_ft, DD.map_c, DD.map_n, DD.set_c0, DD.set_cs, DD.get_c0, DD.get_cs, List.getElem?_cons_zero, List.getElem?_cons_succ, List.set_cons_zero, List.set_cons_succ, List.length_cons, List.length_nil, List.map_cons, List.map_nil, List.replicate, List.append_assoc, List.nil_append, List.cons_append, List.append_nil, List.foldl_cons, List.foldl_nil, Nat.reduceAdd, Nat.reduceSub, String.reduceBEq, Nat.reduceBEq, String.reduceEq, beq_self_eq_true, List.lookup, if_true, if_false, Bool.false_eq_true, true_and, and_true, Bool.not_true, Bool.not_false, reduceIte, List.cons.injEq, SV.val.injEq, D.int.injEq, D.str.injEq, D.bl.injEq, D.tup.injEq, D.lst.injEq, D.ins.injEq, D.scr.injEq, exists_eq_left, exists_eq_left', exists_and_left, exists_const, and_self, reduceCtorEq, false_and, and_false, or_false, false_or, exists_false, and_assoc, Nat.zero_le, Nat.le_refl, okD, List.all_cons, List.all_nil, eqD, eqDs, Bool.and_true, Bool.true_and, Bool.and_self, decide_eq_true_eq, beq_iff_eq, Bool.and_eq_true, bne_iff_ne, ne_eq, not_true_eq_false, not_false_eq_true, inSD]
      rw [occ_one, dig_in]
      simpa using hK2
    · have e : (signs s).map (fun x => match x with | .str t => D.bl (t.cps.toList.all fun c => decide (48 ≤ c) && decide (c ≤ 57)) | x => x) = (s.cps.toList.map fun c => (decide (48 ≤ c) && decide (c ≤ 57))).map D.bl := by
        unfold signs
        rw [List.map_map, List.map_map]
        refine List.map_congr_left fun c _ => ?_
        simp
      rw [e, bools_map]
      dsimp only [wSeq, wSkip, wBrk, wCnt, wNever, wRet, wRetN, wExpr, wIfS, wAsg, sto, wTru, truD, wTAnd, wTOr, wTNot, wTB, wYes, wAnd, wOr, wNot, wIf, wChain, wC, wVar, wOp, wUn, wNil, wCons, allV, wN, wTup, wLst, wd, wRng1, wRng2, wEnum, wZip, wIt, wFor, wLc, wIsi, isiD, tyN, wFld, wSetF, wCall, wCallK, wMeth, wMethK, wMethK0, wBagCall, wBagIx, wBagSet, wScrIx, wSlX, slDX, wSl, slD, wOptI, wNoI, wIxN, wLenN, wListR, wTupR, wR1, wR2, wJoin, joinD, fJs, fmtD, wPar, wPar3, wAsgT, wApp, wExt, wSetI, ownAt, wAug, wFrz, frzD, frz1, wLook, wLookT, prim, addD, subD, mulD, mulT, fdivD, modD, powD, negD, ltD, leD, gtD, geD, ordD, cmpD, isD, inSD, eqT, binO, lenT, strT, negT, lenD, strD, absD, intD, max2D, min2D, allD, anyD, listD, tupleD, reprD, revD, ixD, rgD, permS, pick, dflt, mkF, endD, endO, endI, startD, Pat.put, Pat.putL, blkD, wipeD, keepVB, cntBag, inW, wBmS, wBmL, splitD, partD, sindexD, findD, lindexD, sumD, sortID, wRng3, wCD, wCIx, wDispIx, wDispL, wPr, wAsgP, notLD, notS, wLook2, ownsD, prim, endP, ↓DD.ixK_0, ↓DD.ixK_1, ↓DD.ixK_2, ↓DD.ixK_3, ↓DD.ixK_4, ↓DD.ixK_5, ↓DD.ixK_6, ↓DD.ixK_7, ↓DD.ixK_8, ↓DD.ixK_9, ↓DD.ixK_10, ↓DD.ixK_11, ↓DD.ixK_12, ↓DD.ixK_13, DD.ite_tt, DD.ite_ft, DD.itp_tt, DD.itp_ft, DD.map_c, DD.map_n, DD.set_c0, DD.set_cs, DD.get_c0, DD.get_cs, List.getElem?_cons_zero, List.getElem?_cons_succ, List.set_cons_zero, List.set_cons_succ, List.length_cons, List.length_nil, List.map_cons, List.map_nil, List.replicate, List.append_assoc, List.nil_append, List.cons_append, List.append_nil, List.foldl_cons, List.foldl_nil, Nat.reduceAdd, Nat.reduceSub, String.reduceBEq, Nat.reduceBEq, String.reduceEq, beq_self_eq_true, List.lookup, if_true, if_false, Bool.false_eq_true, true_and, and_true, Bool.not_true, Bool.not_false, reduceIte]
      have e2 : (List.map (fun c => decide (48 ≤ c) && decide (c ≤ 57)) s.cps.toList).all id = (c0 :: r).all (fun c => decide (48 ≤ c) && decide (c ≤ 57)) := by
        rw [hs, List.all_map]; rfl
      rw [e2]
      unfold figsB at hq
      cases ha : (c0 :: r).all (fun c => decide (48 ≤ c) && decide (c ≤ 57)) with
      | false =>
        rw [ha] at hq
        simpa using hq
      | true =>
        rw [ha] at hq
        rw [if_neg (by simp)]
        refine hK _ ?_
        dsimp only [wSeq, wSkip, wBrk, wCnt, wNever, wRet, wRetN, wExpr, wIfS, wAsg, sto, wTru, truD, wTAnd, wTOr, wTNot, wTB, wYes, wAnd, wOr, wNot, wIf, wChain, wC, wVar, wOp, wUn, wNil, wCons, allV, wN, wTup, wLst, wd, wRng1, wRng2, wEnum, wZip, wIt, wFor, wLc, wIsi, isiD, tyN, wFld, wSetF, wCall, wCallK, wMeth, wMethK, wMethK0, wBagCall, wBagIx, wBagSet, wScrIx, wSlX, slDX, wSl, slD, wOptI, wNoI, wIxN, wLenN, wListR, wTupR, wR1, wR2, wJoin, joinD, fJs, fmtD, wPar, wPar3, wAsgT, wApp, wExt, wSetI, ownAt, wAug, wFrz, frzD, frz1, wLook, wLookT, prim, addD, subD, mulD, mulT, fdivD, modD, powD, negD, ltD, leD, gtD, geD, ordD, cmpD, isD, inSD, eqT, binO, lenT, strT, negT, lenD, strD, absD, intD, max2D, min2D, allD, anyD, listD, tupleD, reprD, revD, ixD, rgD, permS, pick, dflt, mkF, endD, endO, endI, startD, Pat.put, Pat.putL, blkD, wipeD, keepVB, cntBag, inW, wBmS, wBmL, splitD, partD, sindexD, findD, lindexD, sumD, sortID, wRng3, wCD, wCIx, wDispIx, wDispL, wPr, wAsgP, notLD, notS, wLook2, ownsD, prim, endP, ↓DD.ixK_0, ↓DD.ixK_1, ↓DD.ixK_2, ↓DD.ixK_3, ↓DD.ixK_4, ↓DD.ixK_5, ↓DD.ixK_6, ↓DD.ixK_7, ↓DD.ixK_8, ↓DD.ixK_9, ↓DD.ixK_10, ↓DD.ixK_11, ↓DD.ixK_12, ↓DD.ixK_13, DD.ite_tt, DD.ite_ft, DD.itp_tt, DD.itp_ft, DD.map_c, DD.map_n, DD.set_c0, DD.set_cs, DD.get_c0, DD.get_cs, List.getElem?_cons_zero, List.getElem?_cons_succ, List.set_cons_zero, List.set_cons_succ, List.length_cons, List.length_nil, List.map_cons, List.map_nil, List.replicate, List.append_assoc, List.nil_append, List.cons_append, List.append_nil, List.foldl_cons, List.foldl_nil, Nat.reduceAdd, Nat.reduceSub, String.reduceBEq, Nat.reduceBEq, String.reduceEq, beq_self_eq_true, List.lookup, if_true, if_false, Bool.false_eq_true, true_and, and_true, Bool.not_true, Bool.not_false, reduceIte]
        rw [str_beq, tl_nought, hs]
        have a0 : L2.atI (c0 :: r) 0 = some c0 := by unfold L2.atI L2.ixN; simp
        have hq' : Qd (.bl (((c0 :: r) == [48]) || (c0 :: r).head? != some 48)) := by simpa using hq
        rw [a0]
        dsimp only
        rw [str_beq, tl_nought]
        cases hb : ((c0 :: r) == [48]) with
        | true => rw [hb] at hq'; exact hq'
        | false =>
          rw [hb] at hq'
          refine ⟨szOk_of (by omega), ?_⟩
          have e3 : (!(#[c0] : Array Nat).toList == [48]) = ((c0 :: r).head? != some 48) := by
            rw [Bool.eq_iff_iff]; simp
          rw [e3]; exact hq'
theorem vc_Ratio_eq : ∀ svs Qd, sp_Ratio_eq svs Qd → svs.length = 2 ∧ w_Ratio_eq (endD Qd) (startD 3 svs) := by
  rintro svs Qd (⟨t, b, e, u, c, rfl, he, hq⟩ | ⟨t, b, e, rfl, ho, hf, hq⟩)
  · refine ⟨rfl, ?_⟩
    unfold w_Ratio_eq
    simp only [wSeq, wSkip, wBrk, wCnt, wNever, wRet, wRetN, wExpr, wIfS, wAsg, sto, wTru, truD, wTAnd, wTOr, wTNot, wTB, wYes, wAnd, wOr, wNot, wIf, wChain, wC, wVar, wOp, wUn, wNil, wCons, allV, wN, wTup, wLst, wd, wRng1, wRng2, wEnum, wZip, wIt, wFor, wLc, wIsi, isiD, tyN, wFld, wSetF, wCall, wCallK, wMeth, wMethK, wMethK0, wBagCall, wBagIx, wBagSet, wScrIx, wSlX, slDX, wSl, slD, wOptI, wNoI, wIxN, wLenN, wListR, wTupR, wR1, wR2, wJoin, joinD, fJs, fmtD, wPar, wPar3, wAsgT, wApp, wExt, wSetI, ownAt, wAug, wFrz, frzD, frz1, wLook, wLookT, prim, addD, subD, mulD, mulT, fdivD, modD, powD, negD, ltD, leD, gtD, geD, ordD, cmpD, isD, inSD, eqT, binO, lenT, strT, negT, lenD, strD, absD, intD, max2D, min2D, allD, anyD, listD, tupleD, reprD, revD, ixD, rgD, permS, pick, dflt, mkF, endD, endO, endI, startD, Pat.put, Pat.putL, blkD, wipeD, keepVB, cntBag, inW, wBmS, wBmL, splitD, partD, sindexD, findD, lindexD, sumD, sortID, wRng3, wCD, wCIx, wDispIx, wDispL, wPr, wAsgP, notLD, notS, wLook2, ownsD, prim, endP, ↓DD.ixK_0, ↓DD.ixK_1, ↓DD.ixK_2, ↓DD.ixK_3, ↓DD.ixK_4, ↓DD.ixK_5, ↓DD.ixK_6, ↓DD.ixK_7, ↓DD.ixK_8, ↓DD.ixK_9, ↓DD.ixK_10, ↓DD.ixK_11, ↓DD.ixK_12, ↓DD.ixK_13, DD.ite_tt, DD.ite_ft, DD.itp_tt, DD.itp_ft, DD.map_c, DD.map_n, DD.set_c0, DD.set_cs, DD.get_c0, DD.get_cs, List.getElem?_cons_zero, List.getElem?_cons_succ, List.set_cons_zero, List.set_cons_succ, List.length_cons, List.length_nil, List.map_cons, List.map_nil, List.replicate, List.append_assoc, List.nil_append, List.cons_append, List.append_nil, List.foldl_cons, List.foldl_nil, Nat.reduceAdd, Nat.reduceSub, String.reduceBEq, Nat.reduceBEq, String.reduceEq, beq_self_eq_true, List.lookup, if_true, if_false, Bool.false_eq_true, true_and, and_true, Bool.not_true, Bool.not_false, reduceIte, sp_is_fraction, sp_as_ratio]
    refine ⟨by omega, e, rfl, okT_of he.1, ?_⟩
    rw [isFrB_of he.1]
    simp only [wSeq, wSkip, wBrk, wCnt, wNever, wRet, wRetN, wExpr, wIfS, wAsg, sto, wTru, truD, wTAnd, wTOr, wTNot, wTB, wYes, wAnd, wOr, wNot, wIf, wChain, wC, wVar, wOp, wUn, wNil, wCons, allV, wN, wTup, wLst, wd, wRng1, wRng2, wEnum, wZip, wIt, wFor, wLc, wIsi, isiD, tyN, wFld, wSetF, wCall, wCallK, wMeth, wMethK, wMethK0, wBagCall, wBagIx, wBagSet, wScrIx, wSlX, slDX, wSl, slD, wOptI, wNoI, wIxN, wLenN, wListR, wTupR, wR1, wR2, wJoin, joinD, fJs, fmtD, wPar, wPar3, wAsgT, wApp, wExt, wSetI, ownAt, wAug, wFrz, frzD, frz1, wLook, wLookT, prim, addD, subD, mulD, mulT, fdivD, modD, powD, negD, ltD, leD, gtD, geD, ordD, cmpD, isD, inSD, eqT, binO, lenT, strT, negT, lenD, strD, absD, intD, max2D, min2D, allD, anyD, listD, tupleD, reprD, revD, ixD, rgD, permS, pick, dflt, mkF, endD, endO, endI, startD, Pat.put, Pat.putL, blkD, wipeD, keepVB, cntBag, inW, wBmS, wBmL, splitD, partD, sindexD, findD, lindexD, sumD, sortID, wRng3, wCD, wCIx, wDispIx, wDispL, wPr, wAsgP, notLD, notS, wLook2, ownsD, prim, endP, ↓DD.ixK_0, ↓DD.ixK_1, ↓DD.ixK_2, ↓DD.ixK_3, ↓DD.ixK_4, ↓DD.ixK_5, ↓DD.ixK_6, ↓DD.ixK_7, ↓DD.ixK_8, ↓DD.ixK_9, ↓DD.ixK_10, ↓DD.ixK_11, ↓DD.ixK_12, ↓DD.ixK_13, DD.ite_tt, DD.ite_ft, DD.itp_tt, DD.itp_ft, DD.map_c, DD.map_n, DD.set_c0, DD.set_cs, DD.get_c0, DD.get_cs, List.getElem?_cons_zero, List.getElem?_cons_succ, List.set_cons_zero, List.set_cons_succ, List.length_cons, List.length_nil, List.map_cons, List.map_nil, List.replicate, List.append_assoc, List.nil_append, List.cons_append, List.append_nil, List.foldl_cons, List.foldl_nil, Nat.reduceAdd, Nat.reduceSub, String.reduceBEq, Nat.reduceBEq, String.reduceEq, beq_self_eq_true, List.lookup, if_true, if_false, Bool.false_eq_true, true_and, and_true, Bool.not_true, Bool.not_false, reduceIte]
    refine ⟨by omega, e, u, c, rfl, he, ?_⟩
    simp only [wSeq, wSkip, wBrk, wCnt, wNever, wRet, wRetN, wExpr, wIfS, wAsg, sto, wTru, truD, wTAnd, wTOr, wTNot, wTB, wYes, wAnd, wOr, wNot, wIf, wChain, wC, wVar, wOp, wUn, wNil, wCons, allV, wN, wTup, wLst, wd, wRng1, wRng2, wEnum, wZip, wIt, wFor, wLc, wIsi, isiD, tyN, wFld, wSetF, wCall, wCallK, wMeth, wMethK, wMethK0, wBagCall, wBagIx, wBagSet, wScrIx, wSlX, slDX, wSl, slD, wOptI, wNoI, wIxN, wLenN, wListR, wTupR, wR1, wR2, wJoin, joinD, fJs, fmtD, wPar, wPar3, wAsgT, wApp, wExt, wSetI, ownAt, wAug, wFrz, frzD, frz1, wLook, wLookT, prim, addD, subD, mulD, mulT, fdivD, modD, powD, negD, ltD, leD, gtD, geD, ordD, cmpD, isD, inSD, eqT, binO, lenT, strT, negT, lenD, strD, absD, intD, max2D, min2D, allD, anyD, listD, tupleD, reprD, revD, ixD, rgD, permS, pick, dflt, mkF, endD, endO, endI, startD, Pat.put, Pat.putL, blkD, wipeD, keepVB, cntBag, inW, wBmS, wBmL, splitD, partD, sindexD, findD, lindexD, sumD, sortID, wRng3, wCD, wCIx, wDispIx, wDispL, wPr, wAsgP, notLD, notS, wLook2, ownsD, prim, endP, ↓DD.ixK_0, ↓DD.ixK_1, ↓DD.ixK_2, ↓DD.ixK_3, ↓DD.ixK_4, ↓DD.ixK_5, ↓DD.ixK_6, ↓DD.ixK_7, ↓DD.ixK_8, ↓DD.ixK_9, ↓DD.ixK_10, ↓DD.ixK_11, ↓DD.ixK_12, ↓DD.ixK_13, DD.ite_tt, DD.ite_ft, DD.itp_tt, DD.itp_ft, DD.map_c, DD.map_n, DD.set_c0, DD.set_cs, DD.get_c0, DD.get_cs, List.getElem?_cons_zero, List.getElem?_cons_succ, List.set_cons_zero, List.set_cons_succ, List.length_cons, List.length_nil, List.map_cons, List.map_nil, List.replicate, List.append_assoc, List.nil_append, List.cons_append, List.append_nil, List.foldl_cons, List.foldl_nil, Nat.reduceAdd, Nat.reduceSub, String.reduceBEq, Nat.reduceBEq, String.reduceEq, beq_self_eq_true, List.lookup, if_true, if_false, Bool.false_eq_true, true_and, and_true, Bool.not_true, Bool.not_false, reduceIte, List.cons.injEq, SV.val.injEq, D.int.injEq, D.str.injEq, D.bl.injEq, D.tup.injEq, D.lst.injEq, D.ins.injEq, D.scr.injEq, exists_eq_left, exists_eq_left', exists_and_left, exists_const, and_self, reduceCtorEq, false_and, and_false, or_false, false_or, exists_false, and_assoc, Nat.zero_le, Nat.le_refl, okD, List.all_cons, List.all_nil, eqD, eqDs, Bool.and_true, Bool.true_and, Bool.and_self, decide_eq_true_eq, beq_iff_eq, Bool.and_eq_true, bne_iff_ne, ne_eq, not_true_eq_false, not_false_eq_true, rat, okD, eqD]
    by_cases h : t = u
    · subst h; simpa using hq
    · have : (t == u) = false := by simpa using h
      rw [this] at hq
      simpa [h] using hq
  · refine ⟨rfl, ?_⟩
    unfold w_Ratio_eq
    simp only [wSeq, wSkip, wBrk, wCnt, wNever, wRet, wRetN, wExpr, wIfS, wAsg, sto, wTru, truD, wTAnd, wTOr, wTNot, wTB, wYes, wAnd, wOr, wNot, wIf, wChain, wC, wVar, wOp, wUn, wNil, wCons, allV, wN, wTup, wLst, wd, wRng1, wRng2, wEnum, wZip, wIt, wFor, wLc, wIsi, isiD, tyN, wFld, wSetF, wCall, wCallK, wMeth, wMethK, wMethK0, wBagCall, wBagIx, wBagSet, wScrIx, wSlX, slDX, wSl, slD, wOptI, wNoI, wIxN, wLenN, wListR, wTupR, wR1, wR2, wJoin, joinD, fJs, fmtD, wPar, wPar3, wAsgT, wApp, wExt, wSetI, ownAt, wAug, wFrz, frzD, frz1, wLook, wLookT, prim, addD, subD, mulD, mulT, fdivD, modD, powD, negD, ltD, leD, gtD, geD, ordD, cmpD, isD, inSD, eqT, binO, lenT, strT, negT, lenD, strD, absD, intD, max2D, min2D, allD, anyD, listD, tupleD, reprD, revD, ixD, rgD, permS, pick, dflt, mkF, endD, endO, endI, startD, Pat.put, Pat.putL, blkD, wipeD, keepVB, cntBag, inW, wBmS, wBmL, splitD, partD, sindexD, findD, lindexD, sumD, sortID, wRng3, wCD, wCIx, wDispIx, wDispL, wPr, wAsgP, notLD, notS, wLook2, ownsD, prim, endP, ↓DD.ixK_0, ↓DD.ixK_1, ↓DD.ixK_2, ↓DD.ixK_3, ↓DD.ixK_4, ↓DD.ixK_5, ↓DD.ixK_6, ↓DD.ixK_7, ↓DD.ixK_8, ↓DD.ixK_9, ↓DD.ixK_10, ↓DD.ixK_11, ↓DD.ixK_12, ↓DD.ixK_13, DD.ite_tt, DD.ite_ft, DD.itp_tt, DD.itp_ft, DD.map_c, DD.map_n, DD.set_c0, DD.set_cs, DD.get_c0, DD.get_cs, List.getElem?_cons_zero, List.getElem?_cons_succ, List.set_cons_zero, List.set_cons_succ, List.length_cons, List.length_nil, List.map_cons, List.map_nil, List.replicate, List.append_assoc, List.nil_append, List.cons_append, List.append_nil, List.foldl_cons, List.foldl_nil, Nat.reduceAdd, Nat.reduceSub, String.reduceBEq, Nat.reduceBEq, String.reduceEq, beq_self_eq_true, List.lookup, if_true, if_false, Bool.false_eq_true, true_and, and_true, Bool.not_true, Bool.not_false, reduceIte, sp_is_fraction, sp_as_ratio]
    refine ⟨by omega, e, rfl, ho, ?_⟩
    rw [hf]
    simp only [wSeq, wSkip, wBrk, wCnt, wNever, wRet, wRetN, wExpr, wIfS, wAsg, sto, wTru, truD, wTAnd, wTOr, wTNot, wTB, wYes, wAnd, wOr, wNot, wIf, wChain, wC, wVar, wOp, wUn, wNil, wCons, allV, wN, wTup, wLst, wd, wRng1, wRng2, wEnum, wZip, wIt, wFor, wLc, wIsi, isiD, tyN, wFld, wSetF, wCall, wCallK, wMeth, wMethK, wMethK0, wBagCall, wBagIx, wBagSet, wScrIx, wSlX, slDX, wSl, slD, wOptI, wNoI, wIxN, wLenN, wListR, wTupR, wR1, wR2, wJoin, joinD, fJs, fmtD, wPar, wPar3, wAsgT, wApp, wExt, wSetI, ownAt, wAug, wFrz, frzD, frz1, wLook, wLookT, prim, addD, subD, mulD, mulT, fdivD, modD, powD, negD, ltD, leD, gtD, geD, ordD, cmpD, isD, inSD, eqT, binO, lenT, strT, negT, lenD, strD, absD, intD, max2D, min2D, allD, anyD, listD, tupleD, reprD, revD, ixD, rgD, permS, pick, dflt, mkF, endD, endO, endI, startD, Pat.put, Pat.putL, blkD, wipeD, keepVB, cntBag, inW, wBmS, wBmL, splitD, partD, sindexD, findD, lindexD, sumD, sortID, wRng3, wCD, wCIx, wDispIx, wDispL, wPr, wAsgP, notLD, notS, wLook2, ownsD, prim, endP, ↓DD.ixK_0, ↓DD.ixK_1, ↓DD.ixK_2, ↓DD.ixK_3, ↓DD.ixK_4, ↓DD.ixK_5, ↓DD.ixK_6, ↓DD.ixK_7, ↓DD.ixK_8, ↓DD.ixK_9, ↓DD.ixK_10, ↓DD.ixK_11, ↓DD.ixK_12, ↓DD.ixK_13, DD.ite_tt, DD.ite_ft, DD.itp_tt, DD.itp_ft, DD.map_c, DD.map_n, DD.set_c0, DD.set_cs, DD.get_c0, DD.get_cs, List.getElem?_cons_zero, List.getElem?_cons_succ, List.set_cons_zero, List.set_cons_succ, List.length_cons, List.length_nil, List.map_cons, List.map_nil, List.replicate, List.append_assoc, List.nil_append, List.cons_append, List.append_nil, List.foldl_cons, List.foldl_nil, Nat.reduceAdd, Nat.reduceSub, String.reduceBEq, Nat.reduceBEq, String.reduceEq, beq_self_eq_true, List.lookup, if_true, if_false, Bool.false_eq_true, true_and, and_true, Bool.not_true, Bool.not_false, reduceIte]
    exact hq
end K02
namespace K02
open PySem DD
/-! ### texts of fractions -/
theorem S_tl (l : List Nat) : (S l).cps.toList = l := rfl
theorem S_len (l : List Nat) : (S l).length = l.length := rfl
theorem S_eta (s : Str) : S s.cps.toList = s := str_ext rfl
theorem str_int (i : Int) : (Str.ofString (toString i)).cps.toList = intL i := by
  unfold intL
  match i with
  | .ofNat n => rw [if_neg (by show ¬ ((n : Int) < 0); omega)]; exact TL.tl_num n
  | .negSucc m =>
    rw [if_pos (Int.negSucc_lt_zero m)]
    have e : toString (Int.negSucc m) = "-" ++ Nat.repr (m + 1) := rfl
    rw [e, PyProof.Rows.signs_ofString]
    show (("-" ++ Nat.repr (m + 1)).toList.map Char.toNat) = _
    rw [String.toList_append, List.map_append, Nat.toList_repr]
    rfl
theorem num_head {n : Nat} (h : 0 < n) : (TL.numL n).head? ≠ some 48 := by
  induction n using Nat.strongRecOn with
  | _ n ih =>
    by_cases hn : n < 10
    · rw [TL.numL_lt hn]; simp; omega
    · rw [TL.numL_step (by omega)]
      have z := ih (n / 10) (by omega) (by omega)
      have ne := TL.numL_ne (n / 10)
      cases e : TL.numL (n / 10) with
      | nil => exact absurd e ne
      | cons c cs => rw [e] at z; simpa using z
theorem num_zero : TL.numL 0 = [48] := TL.numL_lt (by omega)
theorem num_figs (n : Nat) : figsB (TL.numL n) = true := by
  unfold figsB
  have h1 := TL.numL_ne n
  have h2 := TL.numL_digits n
  rw [Bool.and_eq_true, Bool.and_eq_true]
  refine ⟨⟨?_, ?_⟩, ?_⟩
  · cases e : TL.numL n with
    | nil => exact absurd e h1
    | cons _ _ => rfl
  · refine List.all_eq_true.mpr fun c hc => ?_
    have := h2 c hc
    simp; omega
  · by_cases hn : n = 0
    · rw [hn, num_zero]; decide
    · have := num_head (n := n) (by omega)
      simp [this]
theorem num_val (n : Nat) : valL (TL.numL n) = n := TL.numL_val n
theorem num_not {n c : Nat} (h : c < 48 ∨ 57 < c) : c ∉ TL.numL n := TL.numL_free h
theorem int_pos {i : Int} (h : 0 ≤ i) : intL i = TL.numL i.natAbs := by unfold intL; rw [if_neg (by omega)]; rfl
theorem int_neg {i : Int} (h : i < 0) : intL i = 45 :: TL.numL i.natAbs := by unfold intL; rw [if_pos h]; rfl
theorem int_47 (i : Int) : 47 ∉ intL i := by
  rcases Int.lt_or_le i 0 with h | h
  · rw [int_neg h]
    intro z
    rcases List.mem_cons.mp z with z | z
    · omega
    · exact num_not (by omega) z
  · rw [int_pos h]; exact num_not (by omega)
theorem num_45 (n : Nat) : ∃ c cs, TL.numL n = c :: cs ∧ c ≠ 45 := by
  cases e : TL.numL n with
  | nil => exact absurd e (TL.numL_ne n)
  | cons c cs =>
    refine ⟨c, cs, rfl, fun z => ?_⟩
    have := TL.numL_digits n c (by rw [e]; exact List.mem_cons_self)
    omega
theorem raw_neg (r : List Nat) : rawP (45 :: r) = bodyP (-1) (slashP r).1 (slashP r).2 := rfl
theorem raw_pos {c : Nat} {r : List Nat} (h : c ≠ 45) : rawP (c :: r) = bodyP 1 (slashP (c :: r)).1 (slashP (c :: r)).2 := by
  unfold rawP
  split
  · rename_i z; exact absurd (List.cons.inj z).1 h
  · rfl
theorem slash_no {l : List Nat} (h : 47 ∉ l) : slashP l = (l, none) := by
  unfold slashP
  rw [TL.par_none1 h]
theorem slash_at {l r : List Nat} (h : 47 ∉ l) : slashP (l ++ 47 :: r) = (l, some r) := by
  unfold slashP
  have := TL.par_part1 (s := 47) (S := []) (p := l) (rest := r) (acc := []) h
  rw [show l ++ 47 :: r = l ++ ([47] ++ r) from rfl, this]
  rfl
theorem body_num (sg : Int) (n : Nat) : bodyP sg (TL.numL n) none = some (sg * n, 1) := by
  unfold bodyP
  rw [num_figs, num_val]; rfl
theorem body_two (sg : Int) (n m : Nat) (h : 0 < m) : bodyP sg (TL.numL n) (some (TL.numL m)) = some (sg * n, (m : Int)) := by
  unfold bodyP
  rw [num_figs, num_val]
  dsimp only
  rw [num_figs, num_val, if_pos rfl, if_pos (by simpa using h)]
theorem raw_writ {t b : Int} (hb : 0 < b) : rawP (writL t b) = some (t, b) := by
  have go : ∀ (sg : Int) (n : Nat), (∀ r, rawP (intL t ++ r) = bodyP sg (slashP (TL.numL n ++ r)).1 (slashP (TL.numL n ++ r)).2) → sg * (n : Int) = t → rawP (writL t b) = some (t, b) := by
    intro sg n h e
    unfold writL
    by_cases h1 : b = 1
    · rw [if_pos h1]
      have := h []
      rw [List.append_nil, List.append_nil, slash_no (num_not (by omega)), body_num, e] at this
      rw [this, h1]
    · rw [if_neg h1, h, slash_at (num_not (by omega)), int_pos (by omega), body_two _ _ _ (by omega), e]
      rw [show ((b.natAbs : Nat) : Int) = b by omega]
  rcases Int.lt_or_le t 0 with h | h
  · refine go (-1) t.natAbs (fun r => ?_) (by omega)
    rw [int_neg h]; exact raw_neg _
  · refine go 1 t.natAbs (fun r => ?_) (by omega)
    rw [int_pos h]
    obtain ⟨c, cs, e, hc⟩ := num_45 t.natAbs
    rw [e]; exact raw_pos hc
theorem read_writ {t b : Int} (h : low t b) {s : Str} (hs : s.cps.toList = writL t b) : readP s = some (t, b) := by
  unfold readP
  rw [hs, raw_writ h.1]
  dsimp only
  rw [h.2]
  simp
/-- what is read: lowest terms, and the text as it is written -/
theorem read_some {s : Str} {t b : Int} (h : readP s = some (t, b)) : s.cps.toList = writL t b ∧ ∃ x y, rawP s.cps.toList = some (x, y) ∧ t = x / Int.gcd x y ∧ b = y / Int.gcd x y := by
  unfold readP at h
  cases e : rawP s.cps.toList with
  | none => rw [e] at h; cases h
  | some p =>
    obtain ⟨x, y⟩ := p
    rw [e] at h
    dsimp only at h
    split at h
    · rename_i hw
      obtain ⟨e1, e2⟩ := Prod.mk.inj (Option.some.inj h)
      rw [e1, e2] at hw
      exact ⟨hw.symm, x, y, rfl, e1.symm, e2.symm⟩
    · cases h
theorem val_lt : ∀ (l : List Nat) (a : Nat), (∀ c ∈ l, c ≤ 57) → l.foldl (fun acc c => acc * 10 + (c - 48)) a < (a + 1) * 10 ^ l.length
  | [], a, _ => by simp
  | c :: l, a, h => by
    have hc := h c List.mem_cons_self
    rw [List.foldl_cons, List.length_cons, Nat.pow_succ]
    refine Nat.lt_of_lt_of_le (val_lt l _ fun x hx => h x (List.mem_cons_of_mem _ hx)) ?_
    rw [show (a + 1) * (10 ^ l.length * 10) = ((a + 1) * 10) * 10 ^ l.length by rw [Nat.mul_assoc, Nat.mul_comm 10]]
    exact Nat.mul_le_mul_right _ (by omega)
theorem figs_lt {l : List Nat} (h : figsB l = true) : valL l < 10 ^ l.length := by
  have := val_lt l 0 (fun c hc => by
    unfold figsB at h
    rw [Bool.and_eq_true, Bool.and_eq_true] at h
    have := List.all_eq_true.mp h.1.2 c hc
    simp at this; omega)
  unfold valL PySem.NumText.digitsVal
  simpa using this
theorem body_le {sg : Int} {a : List Nat} {o : Option (List Nat)} {x y : Int} {n : Nat} (hs : sg = 1 ∨ sg = -1) (ha : a.length ≤ n) (ho : ∀ b, o = some b → b.length ≤ n) (h : bodyP sg a o = some (x, y)) : (0 < y ∧ x.natAbs < 10 ^ n ∧ y.natAbs < 10 ^ n + 1) := by
  have pw : ∀ {m : Nat}, m ≤ n → 10 ^ m ≤ 10 ^ n := fun hm => Nat.pow_le_pow_right (by omega) hm
  unfold bodyP at h
  split at h
  · rename_i hf
    have h1 := figs_lt hf
    have h2 := pw ha
    have hx : ∀ z : Int, z = sg * (valL a : Int) → z.natAbs = valL a := by rintro z rfl; rcases hs with rfl | rfl <;> omega
    split at h
    · obtain ⟨e1, e2⟩ := Prod.mk.inj (Option.some.inj h)
      have := hx x e1.symm
      have : 0 < 10 ^ n := Nat.pow_pos (by omega)
      omega
    · rename_i b
      split at h
      · rename_i hb
        rw [Bool.and_eq_true, decide_eq_true_eq] at hb
        obtain ⟨e1, e2⟩ := Prod.mk.inj (Option.some.inj h)
        have := hx x e1.symm
        have h3 := figs_lt hb.1
        have h4 := pw (ho b rfl)
        omega
      · cases h
  · cases h
theorem par_le (l : List Nat) : (slashP l).1.length ≤ l.length ∧ ∀ b, (slashP l).2 = some b → b.length ≤ l.length := by
  unfold slashP
  cases e : TL.par [47] [] l with
  | none => exact ⟨Nat.le_refl _, fun b h => nomatch h⟩
  | some p =>
    obtain ⟨a, b⟩ := p
    have := par_short e
    exact ⟨by simpa using this.1, fun c h => by cases h; exact this.2⟩
theorem raw_le {l : List Nat} {x y : Int} (h : rawP l = some (x, y)) : 0 < y ∧ x.natAbs < 10 ^ l.length ∧ y.natAbs < 10 ^ l.length + 1 := by
  cases l with
  | nil =>
    have : rawP [] = none := by decide
    rw [this] at h; cases h
  | cons c r =>
    by_cases hc : c = 45
    · subst hc
      rw [raw_neg] at h
      have := par_le r
      exact body_le (.inr rfl) (n := r.length + 1) (by omega) (fun b hb => by have := this.2 b hb; omega) h
    · rw [raw_pos hc] at h
      exact body_le (.inl rfl) (par_le _).1 (par_le _).2 h
theorem low_of {x y : Int} (hy : 0 < y) : low (x / Int.gcd x y) (y / Int.gcd x y) ∧ (x / Int.gcd x y).natAbs ≤ x.natAbs ∧ (y / Int.gcd x y).natAbs ≤ y.natAbs := by
  have hg : (0 : Int) < (Int.gcd x y : Int) := gcd_pos hy
  have dx : (Int.gcd x y : Int) ∣ x := Int.gcd_dvd_left ..
  have dy : (Int.gcd x y : Int) ∣ y := Int.gcd_dvd_right ..
  refine ⟨⟨?_, ?_⟩, ?_, ?_⟩
  · exact Int.ediv_pos_of_pos_of_dvd hy (by omega) dy
  · exact Int.gcd_ediv_gcd_ediv_gcd (by omega)
  · exact Int.natAbs_ediv_le_natAbs ..
  · exact Int.natAbs_ediv_le_natAbs ..
theorem read_ok {s : Str} {t b : Int} (hl : s.length ≤ 19) (h : readP s = some (t, b)) : low t b ∧ mild t ∧ mild b := by
  obtain ⟨_, x, y, e, rfl, rfl⟩ := read_some h
  obtain ⟨h1, h2, h3⟩ := raw_le e
  obtain ⟨l1, l2, l3⟩ := low_of (x := x) h1
  have : (10 : Nat) ^ s.cps.toList.length ≤ 10 ^ 19 := Nat.pow_le_pow_right (by omega) (by rw [← str_len]; exact hl)
  have e19 : (10 : Nat) ^ 19 = 10000000000000000000 := by decide
  have e20 : (10 : Nat) ^ 20 = 100000000000000000000 := by decide
  unfold mild
  refine ⟨l1, ?_, ?_⟩ <;> omega
end K02
namespace K02
open PySem DD
theorem tl_slash : TL.tl (Str.ofString "/") = [47] := by decide +kernel
theorem part_slash (u : Str) : Txt.partition u (Str.ofString "/") = (match (slashP u.cps.toList).2 with
    | some b => (S (slashP u.cps.toList).1, Str.ofString "/", S b)
    | none => (u, Str.empty, Str.empty)) := by
  rw [TL.partition_par u _ (by rw [tl_slash]; simp), tl_slash]
  unfold slashP
  show _ = match (match TL.par [47] [] (TL.tl u) with | some (a, b) => (a, some b) | none => (u.cps.toList, none)).2 with | some b => _ | none => _
  cases TL.par [47] [] (TL.tl u) <;> rfl
theorem vc_text_of : ∀ svs Qd, sp_text_of svs Qd → svs.length = 1 ∧ w_text_of (endD Qd) (startD 4 svs) := by
  rintro svs Qd ⟨i, rfl, hi, hq⟩
  refine ⟨rfl, ?_⟩; unfold w_text_of; simp only [startD, List.getElem?_cons_zero, List.getElem?_cons_succ, List.set_cons_zero, List.set_cons_succ, List.length_cons, List.length_nil, List.map_cons, List.map_nil, List.replicate, List.append_assoc, List.nil_append, List.cons_append, List.append_nil, List.foldl_cons, List.foldl_nil, Nat.reduceAdd, Nat.reduceSub, String.reduceBEq, Nat.reduceBEq, String.reduceEq, beq_self_eq_true, List.lookup, if_true, if_false, Bool.false_eq_true, true_and, and_true, Bool.not_true, Bool.not_false, reduceIte]
  refine seq_op fun K hK => ?_
  dsimp only [wSeq, wSkip, wBrk, wCnt, wNever, wRet, wRetN, wExpr, wIfS, wAsg, sto, wTru, truD, wTAnd, wTOr, wTNot, wTB, wYes, wAnd, wOr, wNot, wIf, wChain, wC, wVar, wOp, wUn, wNil, wCons, allV, wN, wTup, wLst, wd, wRng1, wRng2, wEnum, wZip, wIt, wFor, wLc, wIsi, isiD, tyN, wFld, wSetF, wCall, wCallK, wMeth, wMethK, wMethK0, wBagCall, wBagIx, wBagSet, wScrIx, wSlX, slDX, wSl, slD, wOptI, wNoI, wIxN, wLenN, wListR, wTupR, wR1, wR2, wJoin, joinD, fJs, fmtD, wPar, wPar3, wAsgT, wApp, wExt, wSetI, ownAt, wAug, wFrz, frzD, frz1, wLook, wLookT, prim, addD, subD, mulD, mulT, fdivD, modD, powD, negD, ltD, leD, gtD, geD, ordD, cmpD, isD, inSD, eqT, binO, lenT, strT, negT, lenD, strD, absD, intD, max2D, min2D, allD, anyD, listD, tupleD, reprD, revD, ixD, rgD, permS, pick, dflt, mkF, endD, endO, endI, startD, Pat.put, Pat.putL, blkD, wipeD, keepVB, cntBag, inW, wBmS, wBmL, splitD, partD, sindexD, findD, lindexD, sumD, sortID, wRng3, wCD, wCIx, wDispIx, wDispL, wPr, wAsgP, notLD, notS, wLook2, ownsD, prim, endP, ↓DD.ixK_0, ↓DD.ixK_1, ↓DD.ixK_2, ↓DD.ixK_3, ↓DD.ixK_4, ↓DD.ixK_5, ↓DD.ixK_6, ↓DD.ixK_7, ↓DD.ixK_8, ↓DD.ixK_9, ↓DD.ixK_10, ↓DD.ixK_11, ↓DD.ixK_12, ↓DD.ixK_13, DD.ite_tt, DD.ite_ft, DD.itp_tt, DD.itp_ft, DD.map_c, DD.map_n, DD.set_c0, DD.set_cs, DD.get_c0, DD.get_cs, List.getElem?_cons_zero, List.getElem?_cons_succ, List.set_cons_zero, List.set_cons_succ, List.length_cons, List.length_nil, List.map_cons, List.map_nil, List.replicate, List.append_assoc, List.nil_append, List.cons_append, List.append_nil, List.foldl_cons, List.foldl_nil, Nat.reduceAdd, Nat.reduceSub, String.reduceBEq, Nat.reduceBEq, String.reduceEq, beq_self_eq_true, List.lookup, if_true, if_false, Bool.false_eq_true, true_and, and_true, Bool.not_true, Bool.not_false, reduceIte]
  refine hK _ ?_
  clear hK K
  refine seq_op fun K hK => ?_
  refine ⟨fun m δ => m = 0 ∧ δ = _, ⟨0, rfl, rfl⟩, ?_⟩
  rintro m δ' ⟨rfl, rfl⟩
  dsimp only [wSeq, wSkip, wBrk, wCnt, wNever, wRet, wRetN, wExpr, wIfS, wAsg, sto, wTru, truD, wTAnd, wTOr, wTNot, wTB, wYes, wAnd, wOr, wNot, wIf, wChain, wC, wVar, wOp, wUn, wNil, wCons, allV, wN, wTup, wLst, wd, wRng1, wRng2, wEnum, wZip, wIt, wFor, wLc, wIsi, isiD, tyN, wFld, wSetF, wCall, wCallK, wMeth, wMethK, wMethK0, wBagCall, wBagIx, wBagSet, wScrIx, wSlX, slDX, wSl, slD, wOptI, wNoI, wIxN, wLenN, wListR, wTupR, wR1, wR2, wJoin, joinD, fJs, fmtD, wPar, wPar3, wAsgT, wApp, wExt, wSetI, ownAt, wAug, wFrz, frzD, frz1, wLook, wLookT, prim, addD, subD, mulD, mulT, fdivD, modD, powD, negD, ltD, leD, gtD, geD, ordD, cmpD, isD, inSD, eqT, binO, lenT, strT, negT, lenD, strD, absD, intD, max2D, min2D, allD, anyD, listD, tupleD, reprD, revD, ixD, rgD, permS, pick, dflt, mkF, endD, endO, endI, startD, Pat.put, Pat.putL, blkD, wipeD, keepVB, cntBag, inW, wBmS, wBmL, splitD, partD, sindexD, findD, lindexD, sumD, sortID, wRng3, wCD, wCIx, wDispIx, wDispL, wPr, wAsgP, notLD, notS, wLook2, ownsD, prim, endP, ↓DD.ixK_0, ↓DD.ixK_1, ↓DD.ixK_2, ↓DD.ixK_3, ↓DD.ixK_4, ↓DD.ixK_5, ↓DD.ixK_6, ↓DD.ixK_7, ↓DD.ixK_8, ↓DD.ixK_9, ↓DD.ixK_10, ↓DD.ixK_11, ↓DD.ixK_12, ↓DD.ixK_13, DD.ite_tt, DD.ite_ft, DD.itp_tt, DD.itp_ft, DD.map_c, DD.map_n, DD.set_c0, DD.set_cs, DD.get_c0, DD.get_cs, List.getElem?_cons_zero, List.getElem?_cons_succ, List.set_cons_zero, List.set_cons_succ, List.length_cons, List.length_nil, List.map_cons, List.map_nil, List.replicate, List.append_assoc, List.nil_append, List.cons_append, List.append_nil, List.foldl_cons, List.foldl_nil, Nat.reduceAdd, Nat.reduceSub, String.reduceBEq, Nat.reduceBEq, String.reduceEq, beq_self_eq_true, List.lookup, if_true, if_false, Bool.false_eq_true, true_and, and_true, Bool.not_true, Bool.not_false, reduceIte]
  unfold mild at hi
  have e20 : (10 : Nat) ^ 20 = 100000000000000000000 := by decide
  have e40 : (10 : Int) ^ Int.toNat 40 = 10000000000000000000000000000000000000000 := by decide
  refine ⟨⟨by decide, by decide, by decide⟩, ?_⟩
  rw [e40]
  have ea : (if i < 0 then -i else i) = (i.natAbs : Int) := by split <;> omega
  rw [ea, if_neg (by rw [decide_eq_true_eq]; omega)]
  refine hK _ ?_
  clear hK K
  dsimp only [wSeq, wSkip, wBrk, wCnt, wNever, wRet, wRetN, wExpr, wIfS, wAsg, sto, wTru, truD, wTAnd, wTOr, wTNot, wTB, wYes, wAnd, wOr, wNot, wIf, wChain, wC, wVar, wOp, wUn, wNil, wCons, allV, wN, wTup, wLst, wd, wRng1, wRng2, wEnum, wZip, wIt, wFor, wLc, wIsi, isiD, tyN, wFld, wSetF, wCall, wCallK, wMeth, wMethK, wMethK0, wBagCall, wBagIx, wBagSet, wScrIx, wSlX, slDX, wSl, slD, wOptI, wNoI, wIxN, wLenN, wListR, wTupR, wR1, wR2, wJoin, joinD, fJs, fmtD, wPar, wPar3, wAsgT, wApp, wExt, wSetI, ownAt, wAug, wFrz, frzD, frz1, wLook, wLookT, prim, addD, subD, mulD, mulT, fdivD, modD, powD, negD, ltD, leD, gtD, geD, ordD, cmpD, isD, inSD, eqT, binO, lenT, strT, negT, lenD, strD, absD, intD, max2D, min2D, allD, anyD, listD, tupleD, reprD, revD, ixD, rgD, permS, pick, dflt, mkF, endD, endO, endI, startD, Pat.put, Pat.putL, blkD, wipeD, keepVB, cntBag, inW, wBmS, wBmL, splitD, partD, sindexD, findD, lindexD, sumD, sortID, wRng3, wCD, wCIx, wDispIx, wDispL, wPr, wAsgP, notLD, notS, wLook2, ownsD, prim, endP, ↓DD.ixK_0, ↓DD.ixK_1, ↓DD.ixK_2, ↓DD.ixK_3, ↓DD.ixK_4, ↓DD.ixK_5, ↓DD.ixK_6, ↓DD.ixK_7, ↓DD.ixK_8, ↓DD.ixK_9, ↓DD.ixK_10, ↓DD.ixK_11, ↓DD.ixK_12, ↓DD.ixK_13, DD.ite_tt, DD.ite_ft, DD.itp_tt, DD.itp_ft, DD.map_c, DD.map_n, DD.set_c0, DD.set_cs, DD.get_c0, DD.get_cs, List.getElem?_cons_zero, List.getElem?_cons_succ, List.set_cons_zero, List.set_cons_succ, List.length_cons, List.length_nil, List.map_cons, List.map_nil, List.replicate, List.append_assoc, List.nil_append, List.cons_append, List.append_nil, List.foldl_cons, List.foldl_nil, Nat.reduceAdd, Nat.reduceSub, String.reduceBEq, Nat.reduceBEq, String.reduceEq, beq_self_eq_true, List.lookup, if_true, if_false, Bool.false_eq_true, true_and, and_true, Bool.not_true, Bool.not_false, reduceIte]
  have lg : i.natAbs.log2 < 1920 := by
    by_cases h0 : i.natAbs = 0
    · rw [h0]; decide
    · exact (Nat.log2_lt h0).mpr (Nat.lt_of_lt_of_le hi (by rw [e20]; exact Nat.le_trans (m := 2 ^ 100) (by decide) (Nat.pow_le_pow_right (by decide) (by decide))))
  have hz : (Str.ofString (toString (i.natAbs : Int))).length ≤ 20 := by
    rw [str_len]
    show (TL.tl (Str.ofString (toString ((i.natAbs : Nat) : Int)))).length ≤ 20
    rw [TL.tl_num]; exact TL.numL_len (by decide) hi
  have en : (Str.ofString (toString (i.natAbs : Int))).cps.toList = TL.numL i.natAbs := TL.tl_num _
  have fin : ∀ y : Str, y.cps.toList = intL i → Qd (.str y) := fun y hy => by
    have : y = S (intL i) := str_ext hy
    rw [this]; exact hq
  have e1 : (Str.ofString "-").cps.toList = [45] := by decide +kernel
  have l1 : (Str.ofString "-").length = 1 := by decide +kernel
  have l0 : (Str.ofString "").length = 0 := by decide +kernel
  have app : ∀ a b : Str, (a ++ b).cps.toList = a.cps.toList ++ b.cps.toList := fun a b => Array.toList_append
  have al : ∀ a b : Str, (a ++ b).length = a.length + b.length := fun a b => by rw [str_len, app, List.length_append, ← str_len, ← str_len]
  split
  · rename_i h
    rw [decide_eq_true_eq] at h
    refine ⟨lg, szOk_of (by omega), szOk_of (by rw [al]; omega), fin _ ?_⟩
    rw [app, app, e1, en, tl_empty, int_neg h]; simp
  · rename_i h
    rw [decide_eq_true_eq] at h
    refine ⟨lg, szOk_of (by omega), szOk_of (by rw [al]; omega), fin _ ?_⟩
    rw [app, app, en, tl_empty, int_pos (by omega)]; simp
theorem figs_all {l : List Nat} (h : figsB l = true) : PySem.NumText.AllDigits l ∧ l ≠ [] := by
  unfold figsB at h
  rw [Bool.and_eq_true, Bool.and_eq_true] at h
  refine ⟨fun c hc => ?_, ?_⟩
  · have := List.all_eq_true.mp h.1.2 c hc
    simp at this; omega
  · rintro rfl; exact absurd h.1.1 (by decide)
theorem rg0 (i : Int) : Builtin.Range.rangeSize i i 40 = 0 := by
  unfold Builtin.Range.rangeSize
  rw [if_pos (by decide), if_neg (by omega)]
theorem val_19 {l : List Nat} (h : figsB l = true) (hl : l.length ≤ 19) : valL l < 10000000000000000000 := Nat.lt_of_lt_of_le (figs_lt h) (Nat.le_trans (Nat.pow_le_pow_right (by omega) hl) (by decide))
theorem vc_number_of : ∀ svs Qd, sp_number_of svs Qd → svs.length = 1 ∧ w_number_of (endD Qd) (startD 4 svs) := by
  rintro svs Qd ⟨s, rfl, hl, hf, hq⟩
  refine ⟨rfl, ?_⟩; unfold w_number_of; simp only [startD, List.getElem?_cons_zero, List.getElem?_cons_succ, List.set_cons_zero, List.set_cons_succ, List.length_cons, List.length_nil, List.map_cons, List.map_nil, List.replicate, List.append_assoc, List.nil_append, List.cons_append, List.append_nil, List.foldl_cons, List.foldl_nil, Nat.reduceAdd, Nat.reduceSub, String.reduceBEq, Nat.reduceBEq, String.reduceEq, beq_self_eq_true, List.lookup, if_true, if_false, Bool.false_eq_true, true_and, and_true, Bool.not_true, Bool.not_false, reduceIte]
  refine seq_op fun K hK => ?_
  dsimp only [wSeq, wSkip, wBrk, wCnt, wNever, wRet, wRetN, wExpr, wIfS, wAsg, sto, wTru, truD, wTAnd, wTOr, wTNot, wTB, wYes, wAnd, wOr, wNot, wIf, wChain, wC, wVar, wOp, wUn, wNil, wCons, allV, wN, wTup, wLst, wd, wRng1, wRng2, wEnum, wZip, wIt, wFor, wLc, wIsi, isiD, tyN, wFld, wSetF, wCall, wCallK, wMeth, wMethK, wMethK0, wBagCall, wBagIx, wBagSet, wScrIx, wSlX, slDX, wSl, slD, wOptI, wNoI, wIxN, wLenN, wListR, wTupR, wR1, wR2, wJoin, joinD, fJs, fmtD, wPar, wPar3, wAsgT, wApp, wExt, wSetI, ownAt, wAug, wFrz, frzD, frz1, wLook, wLookT, prim, addD, subD, mulD, mulT, fdivD, modD, powD, negD, ltD, leD, gtD, geD, ordD, cmpD, isD, inSD, eqT, binO, lenT, strT, negT, lenD, strD, absD, intD, max2D, min2D, allD, anyD, listD, tupleD, reprD, revD, ixD, rgD, permS, pick, dflt, mkF, endD, endO, endI, startD, Pat.put, Pat.putL, blkD, wipeD, keepVB, cntBag, inW, wBmS, wBmL, splitD, partD, sindexD, findD, lindexD, sumD, sortID, wRng3, wCD, wCIx, wDispIx, wDispL, wPr, wAsgP, notLD, notS, wLook2, ownsD, prim, endP, ↓DD.ixK_0, ↓DD.ixK_1, ↓DD.ixK_2, ↓DD.ixK_3, ↓DD.ixK_4, ↓DD.ixK_5, ↓DD.ixK_6, ↓DD.ixK_7, ↓DD.ixK_8, ↓DD.ixK_9, ↓DD.ixK_10, ↓DD.ixK_11, ↓DD.ixK_12, ↓DD.ixK_13, DD.ite_tt, DD.ite_ft, DD.itp_tt, DD.itp_ft, DD.map_c, DD.map_n, DD.set_c0, DD.set_cs, DD.get_c0, DD.get_cs, List.getElem?_cons_zero, List.getElem?_cons_succ, List.set_cons_zero, List.set_cons_succ, List.length_cons, List.length_nil, List.map_cons, List.map_nil, List.replicate, List.append_assoc, List.nil_append, List.cons_append, List.append_nil, List.foldl_cons, List.foldl_nil, Nat.reduceAdd, Nat.reduceSub, String.reduceBEq, Nat.reduceBEq, String.reduceEq, beq_self_eq_true, List.lookup, if_true, if_false, Bool.false_eq_true, true_and, and_true, Bool.not_true, Bool.not_false, reduceIte]
  have hne : 0 < s.length := by
    rw [str_len]
    cases e : s.cps.toList with
    | nil => rw [e] at hf; exact absurd hf (by decide)
    | cons _ _ => simp
  refine ⟨szOk_of (by omega), by decide, hK _ ?_⟩
  clear hK K
  rw [show (s.length : Int) % 40 = s.length by omega]
  refine seq_op fun K hK => ?_
  dsimp only [wSeq, wSkip, wBrk, wCnt, wNever, wRet, wRetN, wExpr, wIfS, wAsg, sto, wTru, truD, wTAnd, wTOr, wTNot, wTB, wYes, wAnd, wOr, wNot, wIf, wChain, wC, wVar, wOp, wUn, wNil, wCons, allV, wN, wTup, wLst, wd, wRng1, wRng2, wEnum, wZip, wIt, wFor, wLc, wIsi, isiD, tyN, wFld, wSetF, wCall, wCallK, wMeth, wMethK, wMethK0, wBagCall, wBagIx, wBagSet, wScrIx, wSlX, slDX, wSl, slD, wOptI, wNoI, wIxN, wLenN, wListR, wTupR, wR1, wR2, wJoin, joinD, fJs, fmtD, wPar, wPar3, wAsgT, wApp, wExt, wSetI, ownAt, wAug, wFrz, frzD, frz1, wLook, wLookT, prim, addD, subD, mulD, mulT, fdivD, modD, powD, negD, ltD, leD, gtD, geD, ordD, cmpD, isD, inSD, eqT, binO, lenT, strT, negT, lenD, strD, absD, intD, max2D, min2D, allD, anyD, listD, tupleD, reprD, revD, ixD, rgD, permS, pick, dflt, mkF, endD, endO, endI, startD, Pat.put, Pat.putL, blkD, wipeD, keepVB, cntBag, inW, wBmS, wBmL, splitD, partD, sindexD, findD, lindexD, sumD, sortID, wRng3, wCD, wCIx, wDispIx, wDispL, wPr, wAsgP, notLD, notS, wLook2, ownsD, prim, endP, ↓DD.ixK_0, ↓DD.ixK_1, ↓DD.ixK_2, ↓DD.ixK_3, ↓DD.ixK_4, ↓DD.ixK_5, ↓DD.ixK_6, ↓DD.ixK_7, ↓DD.ixK_8, ↓DD.ixK_9, ↓DD.ixK_10, ↓DD.ixK_11, ↓DD.ixK_12, ↓DD.ixK_13, DD.ite_tt, DD.ite_ft, DD.itp_tt, DD.itp_ft, DD.map_c, DD.map_n, DD.set_c0, DD.set_cs, DD.get_c0, DD.get_cs, List.getElem?_cons_zero, List.getElem?_cons_succ, List.set_cons_zero, List.set_cons_succ, List.length_cons, List.length_nil, List.map_cons, List.map_nil, List.replicate, List.append_assoc, List.nil_append, List.cons_append, List.append_nil, List.foldl_cons, List.foldl_nil, Nat.reduceAdd, Nat.reduceSub, String.reduceBEq, Nat.reduceBEq, String.reduceEq, beq_self_eq_true, List.lookup, if_true, if_false, Bool.false_eq_true, true_and, and_true, Bool.not_true, Bool.not_false, reduceIte]
  rw [if_pos (decide_eq_true (by omega))]
  have ec : L2.cutS s none (some (s.length : Int)) = s := by
    refine str_ext ?_
    rw [cut_to, str_len, List.take_length]
  rw [ec]
  obtain ⟨f1, f2⟩ := figs_all hf
  have ei : intText? s = some (valL s.cps.toList : Int) := PySem.intText_digits f1 f2 (by omega)
  rw [ei]
  refine ⟨szOk_of (by omega), by omega, hK _ ?_⟩
  clear hK K
  refine seq_op fun K hK => ?_
  dsimp only [wSeq, wSkip, wBrk, wCnt, wNever, wRet, wRetN, wExpr, wIfS, wAsg, sto, wTru, truD, wTAnd, wTOr, wTNot, wTB, wYes, wAnd, wOr, wNot, wIf, wChain, wC, wVar, wOp, wUn, wNil, wCons, allV, wN, wTup, wLst, wd, wRng1, wRng2, wEnum, wZip, wIt, wFor, wLc, wIsi, isiD, tyN, wFld, wSetF, wCall, wCallK, wMeth, wMethK, wMethK0, wBagCall, wBagIx, wBagSet, wScrIx, wSlX, slDX, wSl, slD, wOptI, wNoI, wIxN, wLenN, wListR, wTupR, wR1, wR2, wJoin, joinD, fJs, fmtD, wPar, wPar3, wAsgT, wApp, wExt, wSetI, ownAt, wAug, wFrz, frzD, frz1, wLook, wLookT, prim, addD, subD, mulD, mulT, fdivD, modD, powD, negD, ltD, leD, gtD, geD, ordD, cmpD, isD, inSD, eqT, binO, lenT, strT, negT, lenD, strD, absD, intD, max2D, min2D, allD, anyD, listD, tupleD, reprD, revD, ixD, rgD, permS, pick, dflt, mkF, endD, endO, endI, startD, Pat.put, Pat.putL, blkD, wipeD, keepVB, cntBag, inW, wBmS, wBmL, splitD, partD, sindexD, findD, lindexD, sumD, sortID, wRng3, wCD, wCIx, wDispIx, wDispL, wPr, wAsgP, notLD, notS, wLook2, ownsD, prim, endP, ↓DD.ixK_0, ↓DD.ixK_1, ↓DD.ixK_2, ↓DD.ixK_3, ↓DD.ixK_4, ↓DD.ixK_5, ↓DD.ixK_6, ↓DD.ixK_7, ↓DD.ixK_8, ↓DD.ixK_9, ↓DD.ixK_10, ↓DD.ixK_11, ↓DD.ixK_12, ↓DD.ixK_13, DD.ite_tt, DD.ite_ft, DD.itp_tt, DD.itp_ft, DD.map_c, DD.map_n, DD.set_c0, DD.set_cs, DD.get_c0, DD.get_cs, List.getElem?_cons_zero, List.getElem?_cons_succ, List.set_cons_zero, List.set_cons_succ, List.length_cons, List.length_nil, List.map_cons, List.map_nil, List.replicate, List.append_assoc, List.nil_append, List.cons_append, List.append_nil, List.foldl_cons, List.foldl_nil, Nat.reduceAdd, Nat.reduceSub, String.reduceBEq, Nat.reduceBEq, String.reduceEq, beq_self_eq_true, List.lookup, if_true, if_false, Bool.false_eq_true, true_and, and_true, Bool.not_true, Bool.not_false, reduceIte]
  refine ⟨szOk_of (by omega), 0, ⟨by decide, by decide, ?_, ?_⟩, ?_⟩
  · unfold Builtin.Range.small
    rw [rg0]
    have f : ∀ i : Int, -100 ≤ i → i ≤ 100 → Builtin.Range.rangeFitsLong i = true := fun i h1 h2 => by
      unfold Builtin.Range.rangeFitsLong
      rw [Bool.and_eq_true, decide_eq_true_eq, decide_eq_true_eq]
      have : (2 : Int) ^ 63 = 9223372036854775808 := by decide
      omega
    rw [f _ (by omega) (by omega), f 40 (by omega) (by omega), f 0 (by omega) (by omega)]
    rfl
  · rw [rg0]; rfl
  · exact hK _ hq
theorem vc_ratio_in : ∀ svs Qd, sp_ratio_in svs Qd → svs.length = 1 ∧ w_ratio_in (endD Qd) (startD 6 svs) := by
  rintro svs Qd ⟨s, rfl, hl, hq⟩
  refine ⟨rfl, ?_⟩; unfold w_ratio_in; simp only [startD, List.getElem?_cons_zero, List.getElem?_cons_succ, List.set_cons_zero, List.set_cons_succ, List.length_cons, List.length_nil, List.map_cons, List.map_nil, List.replicate, List.append_assoc, List.nil_append, List.cons_append, List.append_nil, List.foldl_cons, List.foldl_nil, Nat.reduceAdd, Nat.reduceSub, String.reduceBEq, Nat.reduceBEq, String.reduceEq, beq_self_eq_true, List.lookup, if_true, if_false, Bool.false_eq_true, true_and, and_true, Bool.not_true, Bool.not_false, reduceIte]
  refine seq_op fun K hK => ?_
  dsimp only [wSeq, wSkip, wBrk, wCnt, wNever, wRet, wRetN, wExpr, wIfS, wAsg, sto, wTru, truD, wTAnd, wTOr, wTNot, wTB, wYes, wAnd, wOr, wNot, wIf, wChain, wC, wVar, wOp, wUn, wNil, wCons, allV, wN, wTup, wLst, wd, wRng1, wRng2, wEnum, wZip, wIt, wFor, wLc, wIsi, isiD, tyN, wFld, wSetF, wCall, wCallK, wMeth, wMethK, wMethK0, wBagCall, wBagIx, wBagSet, wScrIx, wSlX, slDX, wSl, slD, wOptI, wNoI, wIxN, wLenN, wListR, wTupR, wR1, wR2, wJoin, joinD, fJs, fmtD, wPar, wPar3, wAsgT, wApp, wExt, wSetI, ownAt, wAug, wFrz, frzD, frz1, wLook, wLookT, prim, addD, subD, mulD, mulT, fdivD, modD, powD, negD, ltD, leD, gtD, geD, ordD, cmpD, isD, inSD, eqT, binO, lenT, strT, negT, lenD, strD, absD, intD, max2D, min2D, allD, anyD, listD, tupleD, reprD, revD, ixD, rgD, permS, pick, dflt, mkF, endD, endO, endI, startD, Pat.put, Pat.putL, blkD, wipeD, keepVB, cntBag, inW, wBmS, wBmL, splitD, partD, sindexD, findD, lindexD, sumD, sortID, wRng3, wCD, wCIx, wDispIx, wDispL, wPr, wAsgP, notLD, notS, wLook2, ownsD, prim, endP, ↓DD.ixK_0, ↓DD.ixK_1, ↓DD.ixK_2, ↓DD.ixK_3, ↓DD.ixK_4, ↓DD.ixK_5, ↓DD.ixK_6, ↓DD.ixK_7, ↓DD.ixK_8, ↓DD.ixK_9, ↓DD.ixK_10, ↓DD.ixK_11, ↓DD.ixK_12, ↓DD.ixK_13, DD.ite_tt, DD.ite_ft, DD.itp_tt, DD.itp_ft, DD.map_c, DD.map_n, DD.set_c0, DD.set_cs, DD.get_c0, DD.get_cs, List.getElem?_cons_zero, List.getElem?_cons_succ, List.set_cons_zero, List.set_cons_succ, List.length_cons, List.length_nil, List.map_cons, List.map_nil, List.replicate, List.append_assoc, List.nil_append, List.cons_append, List.append_nil, List.foldl_cons, List.foldl_nil, Nat.reduceAdd, Nat.reduceSub, String.reduceBEq, Nat.reduceBEq, String.reduceEq, beq_self_eq_true, List.lookup, if_true, if_false, Bool.false_eq_true, true_and, and_true, Bool.not_true, Bool.not_false, reduceIte]
  refine ⟨szOk_of (by omega), ?_⟩
  have rest : ∀ (sg : Int) (u : Str), (sg = 1 ∨ sg = -1) → rawP s.cps.toList = bodyP sg (slashP u.cps.toList).1 (slashP u.cps.toList).2 → u.length ≤ 19 → u = (if sg < 0 then L2.cutS s (some 1) none else s) → K [some (SV.val (D.str s)), some (SV.val (D.int sg)), none, none, none, none] := by
    intro sg u hsg hr hu hl2
    refine hK _ ?_
    clear hK K
    refine seq_op fun K hK => ?_
    dsimp only [wSeq, wSkip, wBrk, wCnt, wNever, wRet, wRetN, wExpr, wIfS, wAsg, sto, wTru, truD, wTAnd, wTOr, wTNot, wTB, wYes, wAnd, wOr, wNot, wIf, wChain, wC, wVar, wOp, wUn, wNil, wCons, allV, wN, wTup, wLst, wd, wRng1, wRng2, wEnum, wZip, wIt, wFor, wLc, wIsi, isiD, tyN, wFld, wSetF, wCall, wCallK, wMeth, wMethK, wMethK0, wBagCall, wBagIx, wBagSet, wScrIx, wSlX, slDX, wSl, slD, wOptI, wNoI, wIxN, wLenN, wListR, wTupR, wR1, wR2, wJoin, joinD, fJs, fmtD, wPar, wPar3, wAsgT, wApp, wExt, wSetI, ownAt, wAug, wFrz, frzD, frz1, wLook, wLookT, prim, addD, subD, mulD, mulT, fdivD, modD, powD, negD, ltD, leD, gtD, geD, ordD, cmpD, isD, inSD, eqT, binO, lenT, strT, negT, lenD, strD, absD, intD, max2D, min2D, allD, anyD, listD, tupleD, reprD, revD, ixD, rgD, permS, pick, dflt, mkF, endD, endO, endI, startD, Pat.put, Pat.putL, blkD, wipeD, keepVB, cntBag, inW, wBmS, wBmL, splitD, partD, sindexD, findD, lindexD, sumD, sortID, wRng3, wCD, wCIx, wDispIx, wDispL, wPr, wAsgP, notLD, notS, wLook2, ownsD, prim, endP, ↓DD.ixK_0, ↓DD.ixK_1, ↓DD.ixK_2, ↓DD.ixK_3, ↓DD.ixK_4, ↓DD.ixK_5, ↓DD.ixK_6, ↓DD.ixK_7, ↓DD.ixK_8, ↓DD.ixK_9, ↓DD.ixK_10, ↓DD.ixK_11, ↓DD.ixK_12, ↓DD.ixK_13, DD.ite_tt, DD.ite_ft, DD.itp_tt, DD.itp_ft, DD.map_c, DD.map_n, DD.set_c0, DD.set_cs, DD.get_c0, DD.get_cs, List.getElem?_cons_zero, List.getElem?_cons_succ, List.set_cons_zero, List.set_cons_succ, List.length_cons, List.length_nil, List.map_cons, List.map_nil, List.replicate, List.append_assoc, List.nil_append, List.cons_append, List.append_nil, List.foldl_cons, List.foldl_nil, Nat.reduceAdd, Nat.reduceSub, String.reduceBEq, Nat.reduceBEq, String.reduceEq, beq_self_eq_true, List.lookup, if_true, if_false, Bool.false_eq_true, true_and, and_true, Bool.not_true, Bool.not_false, reduceIte]
    have r2 : K [some (SV.val (D.str s)), some (SV.val (D.int sg)), some (SV.val (D.str (Txt.partition u (Str.ofString "/")).1)), some (SV.val (D.str (Txt.partition u (Str.ofString "/")).2.1)), some (SV.val (D.str (Txt.partition u (Str.ofString "/")).2.2)), none] := by
      refine hK _ ?_
      clear hK K hl2
      rw [part_slash]
      rw [hr] at hq
      have hle := par_le u.cps.toList
      rw [← str_len] at hle
      refine seq_op fun K0 hK0 => ?_
      cases ho : (slashP u.cps.toList).2 with
      | none =>
        have es : (slashP u.cps.toList).1 = u.cps.toList := by
          unfold slashP at ho ⊢
          cases e : TL.par [47] [] u.cps.toList with
          | none => rfl
          | some p => rw [e] at ho; cases ho
        rw [ho, es] at hq
        have fin : figsB u.cps.toList = true → K0 [some (SV.val (D.str s)), some (SV.val (D.int sg)), some (SV.val (D.str u)), some (SV.val (D.str Str.empty)), some (SV.val (D.str Str.empty)), none] := by
          intro hf
          refine hK0 _ ?_
          clear hK0 K0
          unfold bodyP at hq
          rw [if_pos hf] at hq
          refine seq_op fun K hK => ?_
          dsimp only [wSeq, wSkip, wBrk, wCnt, wNever, wRet, wRetN, wExpr, wIfS, wAsg, sto, wTru, truD, wTAnd, wTOr, wTNot, wTB, wYes, wAnd, wOr, wNot, wIf, wChain, wC, wVar, wOp, wUn, wNil, wCons, allV, wN, wTup, wLst, wd, wRng1, wRng2, wEnum, wZip, wIt, wFor, wLc, wIsi, isiD, tyN, wFld, wSetF, wCall, wCallK, wMeth, wMethK, wMethK0, wBagCall, wBagIx, wBagSet, wScrIx, wSlX, slDX, wSl, slD, wOptI, wNoI, wIxN, wLenN, wListR, wTupR, wR1, wR2, wJoin, joinD, fJs, fmtD, wPar, wPar3, wAsgT, wApp, wExt, wSetI, ownAt, wAug, wFrz, frzD, frz1, wLook, wLookT, prim, addD, subD, mulD, mulT, fdivD, modD, powD, negD, ltD, leD, gtD, geD, ordD, cmpD, isD, inSD, eqT, binO, lenT, strT, negT, lenD, strD, absD, intD, max2D, min2D, allD, anyD, listD, tupleD, reprD, revD, ixD, rgD, permS, pick, dflt, mkF, endD, endO, endI, startD, Pat.put, Pat.putL, blkD, wipeD, keepVB, cntBag, inW, wBmS, wBmL, splitD, partD, sindexD, findD, lindexD, sumD, sortID, wRng3, wCD, wCIx, wDispIx, wDispL, wPr, wAsgP, notLD, notS, wLook2, ownsD, prim, endP, ↓DD.ixK_0, ↓DD.ixK_1, ↓DD.ixK_2, ↓DD.ixK_3, ↓DD.ixK_4, ↓DD.ixK_5, ↓DD.ixK_6, ↓DD.ixK_7, ↓DD.ixK_8, ↓DD.ixK_9, ↓DD.ixK_10, ↓DD.ixK_11, ↓DD.ixK_12, ↓DD.ixK_13, DD.ite_tt, DD.ite_ft, DD.itp_tt, DD.itp_ft, DD.map_c, DD.map_n, DD.set_c0, DD.set_cs, DD.get_c0, DD.get_cs, List.getElem?_cons_zero, List.getElem?_cons_succ, List.set_cons_zero, List.set_cons_succ, List.length_cons, List.length_nil, List.map_cons, List.map_nil, List.replicate, List.append_assoc, List.nil_append, List.cons_append, List.append_nil, List.foldl_cons, List.foldl_nil, Nat.reduceAdd, Nat.reduceSub, String.reduceBEq, Nat.reduceBEq, String.reduceEq, beq_self_eq_true, List.lookup, if_true, if_false, Bool.false_eq_true, true_and, and_true, Bool.not_true, Bool.not_false, reduceIte]
          rw [if_neg (by decide)]
          refine hK _ ?_
          clear hK K
          dsimp only [wSeq, wSkip, wBrk, wCnt, wNever, wRet, wRetN, wExpr, wIfS, wAsg, sto, wTru, truD, wTAnd, wTOr, wTNot, wTB, wYes, wAnd, wOr, wNot, wIf, wChain, wC, wVar, wOp, wUn, wNil, wCons, allV, wN, wTup, wLst, wd, wRng1, wRng2, wEnum, wZip, wIt, wFor, wLc, wIsi, isiD, tyN, wFld, wSetF, wCall, wCallK, wMeth, wMethK, wMethK0, wBagCall, wBagIx, wBagSet, wScrIx, wSlX, slDX, wSl, slD, wOptI, wNoI, wIxN, wLenN, wListR, wTupR, wR1, wR2, wJoin, joinD, fJs, fmtD, wPar, wPar3, wAsgT, wApp, wExt, wSetI, ownAt, wAug, wFrz, frzD, frz1, wLook, wLookT, prim, addD, subD, mulD, mulT, fdivD, modD, powD, negD, ltD, leD, gtD, geD, ordD, cmpD, isD, inSD, eqT, binO, lenT, strT, negT, lenD, strD, absD, intD, max2D, min2D, allD, anyD, listD, tupleD, reprD, revD, ixD, rgD, permS, pick, dflt, mkF, endD, endO, endI, startD, Pat.put, Pat.putL, blkD, wipeD, keepVB, cntBag, inW, wBmS, wBmL, splitD, partD, sindexD, findD, lindexD, sumD, sortID, wRng3, wCD, wCIx, wDispIx, wDispL, wPr, wAsgP, notLD, notS, wLook2, ownsD, prim, endP, ↓DD.ixK_0, ↓DD.ixK_1, ↓DD.ixK_2, ↓DD.ixK_3, ↓DD.ixK_4, ↓DD.ixK_5, ↓DD.ixK_6, ↓DD.ixK_7, ↓DD.ixK_8, ↓DD.ixK_9, ↓DD.ixK_10, ↓DD.ixK_11, ↓DD.ixK_12, ↓DD.ixK_13, DD.ite_tt, DD.ite_ft, DD.itp_tt, DD.itp_ft, DD.map_c, DD.map_n, DD.set_c0, DD.set_cs, DD.get_c0, DD.get_cs, List.getElem?_cons_zero, List.getElem?_cons_succ, List.set_cons_zero, List.set_cons_succ, List.length_cons, List.length_nil, List.map_cons, List.map_nil, List.replicate, List.append_assoc, List.nil_append, List.cons_append, List.append_nil, List.foldl_cons, List.foldl_nil, Nat.reduceAdd, Nat.reduceSub, String.reduceBEq, Nat.reduceBEq, String.reduceEq, beq_self_eq_true, List.lookup, if_true, if_false, Bool.false_eq_true, true_and, and_true, Bool.not_true, Bool.not_false, reduceIte, sp_number_of]
          rw [if_pos (by decide)]
          exact ⟨by decide, _, rfl, by omega, hf, DD.MulOk.left (by rcases hsg with rfl | rfl <;> exact ⟨by decide, by decide⟩), by decide, rfl, _, _, rfl, by decide, Nat.lt_of_lt_of_le (m := 2 ^ 1) (by decide) (Nat.pow_le_pow_right (by decide) (by decide)), hq⟩
        dsimp only [wSeq, wSkip, wBrk, wCnt, wNever, wRet, wRetN, wExpr, wIfS, wAsg, sto, wTru, truD, wTAnd, wTOr, wTNot, wTB, wYes, wAnd, wOr, wNot, wIf, wChain, wC, wVar, wOp, wUn, wNil, wCons, allV, wN, wTup, wLst, wd, wRng1, wRng2, wEnum, wZip, wIt, wFor, wLc, wIsi, isiD, tyN, wFld, wSetF, wCall, wCallK, wMeth, wMethK, wMethK0, wBagCall, wBagIx, wBagSet, wScrIx, wSlX, slDX, wSl, slD, wOptI, wNoI, wIxN, wLenN, wListR, wTupR, wR1, wR2, wJoin, joinD, fJs, fmtD, wPar, wPar3, wAsgT, wApp, wExt, wSetI, ownAt, wAug, wFrz, frzD, frz1, wLook, wLookT, prim, addD, subD, mulD, mulT, fdivD, modD, powD, negD, ltD, leD, gtD, geD, ordD, cmpD, isD, inSD, eqT, binO, lenT, strT, negT, lenD, strD, absD, intD, max2D, min2D, allD, anyD, listD, tupleD, reprD, revD, ixD, rgD, permS, pick, dflt, mkF, endD, endO, endI, startD, Pat.put, Pat.putL, blkD, wipeD, keepVB, cntBag, inW, wBmS, wBmL, splitD, partD, sindexD, findD, lindexD, sumD, sortID, wRng3, wCD, wCIx, wDispIx, wDispL, wPr, wAsgP, notLD, notS, wLook2, ownsD, prim, endP, ↓DD.ixK_0, ↓DD.ixK_1, ↓DD.ixK_2, ↓DD.ixK_3, ↓DD.ixK_4, ↓DD.ixK_5, ↓DD.ixK_6, ↓DD.ixK_7, ↓DD.ixK_8, ↓DD.ixK_9, ↓DD.ixK_10, ↓DD.ixK_11, ↓DD.ixK_12, ↓DD.ixK_13, DD.ite_tt, DD.ite_ft, DD.itp_tt, DD.itp_ft, DD.map_c, DD.map_n, DD.set_c0, DD.set_cs, DD.get_c0, DD.get_cs, List.getElem?_cons_zero, List.getElem?_cons_succ, List.set_cons_zero, List.set_cons_succ, List.length_cons, List.length_nil, List.map_cons, List.map_nil, List.replicate, List.append_assoc, List.nil_append, List.cons_append, List.append_nil, List.foldl_cons, List.foldl_nil, Nat.reduceAdd, Nat.reduceSub, String.reduceBEq, Nat.reduceBEq, String.reduceEq, beq_self_eq_true, List.lookup, if_true, if_false, Bool.false_eq_true, true_and, and_true, Bool.not_true, Bool.not_false, reduceIte, sp_are_figures]
        refine ⟨by decide, _, rfl, by omega, ?_⟩
        cases hf : figsB u.cps.toList with
        | false =>
          unfold bodyP at hq
          rw [hf] at hq
          exact hq
        | true =>
          rw [if_neg (by decide), if_neg (by decide)]
          exact fin hf
      | some b =>
        rw [ho] at hq
        dsimp only [wSeq, wSkip, wBrk, wCnt, wNever, wRet, wRetN, wExpr, wIfS, wAsg, sto, wTru, truD, wTAnd, wTOr, wTNot, wTB, wYes, wAnd, wOr, wNot, wIf, wChain, wC, wVar, wOp, wUn, wNil, wCons, allV, wN, wTup, wLst, wd, wRng1, wRng2, wEnum, wZip, wIt, wFor, wLc, wIsi, isiD, tyN, wFld, wSetF, wCall, wCallK, wMeth, wMethK, wMethK0, wBagCall, wBagIx, wBagSet, wScrIx, wSlX, slDX, wSl, slD, wOptI, wNoI, wIxN, wLenN, wListR, wTupR, wR1, wR2, wJoin, joinD, fJs, fmtD, wPar, wPar3, wAsgT, wApp, wExt, wSetI, ownAt, wAug, wFrz, frzD, frz1, wLook, wLookT, prim, addD, subD, mulD, mulT, fdivD, modD, powD, negD, ltD, leD, gtD, geD, ordD, cmpD, isD, inSD, eqT, binO, lenT, strT, negT, lenD, strD, absD, intD, max2D, min2D, allD, anyD, listD, tupleD, reprD, revD, ixD, rgD, permS, pick, dflt, mkF, endD, endO, endI, startD, Pat.put, Pat.putL, blkD, wipeD, keepVB, cntBag, inW, wBmS, wBmL, splitD, partD, sindexD, findD, lindexD, sumD, sortID, wRng3, wCD, wCIx, wDispIx, wDispL, wPr, wAsgP, notLD, notS, wLook2, ownsD, prim, endP, ↓DD.ixK_0, ↓DD.ixK_1, ↓DD.ixK_2, ↓DD.ixK_3, ↓DD.ixK_4, ↓DD.ixK_5, ↓DD.ixK_6, ↓DD.ixK_7, ↓DD.ixK_8, ↓DD.ixK_9, ↓DD.ixK_10, ↓DD.ixK_11, ↓DD.ixK_12, ↓DD.ixK_13, DD.ite_tt, DD.ite_ft, DD.itp_tt, DD.itp_ft, DD.map_c, DD.map_n, DD.set_c0, DD.set_cs, DD.get_c0, DD.get_cs, List.getElem?_cons_zero, List.getElem?_cons_succ, List.set_cons_zero, List.set_cons_succ, List.length_cons, List.length_nil, List.map_cons, List.map_nil, List.replicate, List.append_assoc, List.nil_append, List.cons_append, List.append_nil, List.foldl_cons, List.foldl_nil, Nat.reduceAdd, Nat.reduceSub, String.reduceBEq, Nat.reduceBEq, String.reduceEq, beq_self_eq_true, List.lookup, if_true, if_false, Bool.false_eq_true, true_and, and_true, Bool.not_true, Bool.not_false, reduceIte, sp_are_figures]
        refine ⟨by decide, _, rfl, by rw [S_len]; omega, ?_⟩
        rw [S_tl]
        unfold bodyP at hq
        cases hf : figsB (slashP u.cps.toList).1 with
        | false => rw [hf] at hq; exact hq
        | true =>
          rw [hf, if_pos rfl] at hq
          rw [if_neg (by decide), if_pos (by decide)]
          have hb := hle.2 b ho
          refine ⟨by decide, _, rfl, by rw [S_len]; omega, ?_⟩
          rw [S_tl]
          dsimp only at hq
          cases hg : figsB b with
          | false => rw [hg] at hq; exact hq
          | true =>
            rw [hg] at hq
            rw [if_neg (by decide)]
            refine hK0 _ ?_
            clear hK0 K0
            refine seq_op fun K hK => ?_
            dsimp only [wSeq, wSkip, wBrk, wCnt, wNever, wRet, wRetN, wExpr, wIfS, wAsg, sto, wTru, truD, wTAnd, wTOr, wTNot, wTB, wYes, wAnd, wOr, wNot, wIf, wChain, wC, wVar, wOp, wUn, wNil, wCons, allV, wN, wTup, wLst, wd, wRng1, wRng2, wEnum, wZip, wIt, wFor, wLc, wIsi, isiD, tyN, wFld, wSetF, wCall, wCallK, wMeth, wMethK, wMethK0, wBagCall, wBagIx, wBagSet, wScrIx, wSlX, slDX, wSl, slD, wOptI, wNoI, wIxN, wLenN, wListR, wTupR, wR1, wR2, wJoin, joinD, fJs, fmtD, wPar, wPar3, wAsgT, wApp, wExt, wSetI, ownAt, wAug, wFrz, frzD, frz1, wLook, wLookT, prim, addD, subD, mulD, mulT, fdivD, modD, powD, negD, ltD, leD, gtD, geD, ordD, cmpD, isD, inSD, eqT, binO, lenT, strT, negT, lenD, strD, absD, intD, max2D, min2D, allD, anyD, listD, tupleD, reprD, revD, ixD, rgD, permS, pick, dflt, mkF, endD, endO, endI, startD, Pat.put, Pat.putL, blkD, wipeD, keepVB, cntBag, inW, wBmS, wBmL, splitD, partD, sindexD, findD, lindexD, sumD, sortID, wRng3, wCD, wCIx, wDispIx, wDispL, wPr, wAsgP, notLD, notS, wLook2, ownsD, prim, endP, ↓DD.ixK_0, ↓DD.ixK_1, ↓DD.ixK_2, ↓DD.ixK_3, ↓DD.ixK_4, ↓DD.ixK_5, ↓DD.ixK_6, ↓DD.ixK_7, ↓DD.ixK_8, ↓DD.ixK_9, ↓DD.ixK_10, ↓DD.ixK_11, ↓DD.ixK_12, ↓DD.ixK_13, DD.ite_tt, DD.ite_ft, DD.itp_tt, DD.itp_ft, DD.map_c, DD.map_n, DD.set_c0, DD.set_cs, DD.get_c0, DD.get_cs, List.getElem?_cons_zero, List.getElem?_cons_succ, List.set_cons_zero, List.set_cons_succ, List.length_cons, List.length_nil, List.map_cons, List.map_nil, List.replicate, List.append_assoc, List.nil_append, List.cons_append, List.append_nil, List.foldl_cons, List.foldl_nil, Nat.reduceAdd, Nat.reduceSub, String.reduceBEq, Nat.reduceBEq, String.reduceEq, beq_self_eq_true, List.lookup, if_true, if_false, Bool.false_eq_true, true_and, and_true, Bool.not_true, Bool.not_false, reduceIte, sp_number_of]
            rw [if_pos (by decide)]
            refine ⟨by decide, _, rfl, by rw [S_len]; omega, hg, ?_⟩
            rw [S_tl]
            refine hK _ ?_
            clear hK K
            dsimp only [wSeq, wSkip, wBrk, wCnt, wNever, wRet, wRetN, wExpr, wIfS, wAsg, sto, wTru, truD, wTAnd, wTOr, wTNot, wTB, wYes, wAnd, wOr, wNot, wIf, wChain, wC, wVar, wOp, wUn, wNil, wCons, allV, wN, wTup, wLst, wd, wRng1, wRng2, wEnum, wZip, wIt, wFor, wLc, wIsi, isiD, tyN, wFld, wSetF, wCall, wCallK, wMeth, wMethK, wMethK0, wBagCall, wBagIx, wBagSet, wScrIx, wSlX, slDX, wSl, slD, wOptI, wNoI, wIxN, wLenN, wListR, wTupR, wR1, wR2, wJoin, joinD, fJs, fmtD, wPar, wPar3, wAsgT, wApp, wExt, wSetI, ownAt, wAug, wFrz, frzD, frz1, wLook, wLookT, prim, addD, subD, mulD, mulT, fdivD, modD, powD, negD, ltD, leD, gtD, geD, ordD, cmpD, isD, inSD, eqT, binO, lenT, strT, negT, lenD, strD, absD, intD, max2D, min2D, allD, anyD, listD, tupleD, reprD, revD, ixD, rgD, permS, pick, dflt, mkF, endD, endO, endI, startD, Pat.put, Pat.putL, blkD, wipeD, keepVB, cntBag, inW, wBmS, wBmL, splitD, partD, sindexD, findD, lindexD, sumD, sortID, wRng3, wCD, wCIx, wDispIx, wDispL, wPr, wAsgP, notLD, notS, wLook2, ownsD, prim, endP, ↓DD.ixK_0, ↓DD.ixK_1, ↓DD.ixK_2, ↓DD.ixK_3, ↓DD.ixK_4, ↓DD.ixK_5, ↓DD.ixK_6, ↓DD.ixK_7, ↓DD.ixK_8, ↓DD.ixK_9, ↓DD.ixK_10, ↓DD.ixK_11, ↓DD.ixK_12, ↓DD.ixK_13, DD.ite_tt, DD.ite_ft, DD.itp_tt, DD.itp_ft, DD.map_c, DD.map_n, DD.set_c0, DD.set_cs, DD.get_c0, DD.get_cs, List.getElem?_cons_zero, List.getElem?_cons_succ, List.set_cons_zero, List.set_cons_succ, List.length_cons, List.length_nil, List.map_cons, List.map_nil, List.replicate, List.append_assoc, List.nil_append, List.cons_append, List.append_nil, List.foldl_cons, List.foldl_nil, Nat.reduceAdd, Nat.reduceSub, String.reduceBEq, Nat.reduceBEq, String.reduceEq, beq_self_eq_true, List.lookup, if_true, if_false, Bool.false_eq_true, true_and, and_true, Bool.not_true, Bool.not_false, reduceIte, sp_number_of]
            have vb := val_19 hg (by omega)
            by_cases h0 : 0 < valL b
            · rw [decide_eq_true h0] at hq
              rw [if_pos (decide_eq_true (by omega))]
              refine ⟨by decide, _, rfl, by rw [S_len]; omega, by rw [S_tl]; exact hf, DD.MulOk.left (by rcases hsg with rfl | rfl <;> exact ⟨by decide, by decide⟩), by decide, rfl, _, _, rfl, by omega, Nat.lt_of_lt_of_le (m := 2 ^ 100) (by omega) (Nat.pow_le_pow_right (by decide) (by decide)), ?_⟩
              rw [S_tl]
              exact hq
            · rw [decide_eq_false h0] at hq
              rw [if_neg (by rw [decide_eq_true_eq]; omega)]
              exact hq
    split
    · rename_i h
      rw [decide_eq_true_eq] at h
      rw [if_pos h] at hl2
      rw [← hl2]
      exact ⟨szOk_of (by omega), ⟨by decide +kernel, szOk_of (by omega)⟩, rfl, r2⟩
    · rename_i h
      rw [decide_eq_true_eq] at h
      rw [if_neg h] at hl2
      subst hl2
      exact ⟨⟨by decide +kernel, szOk_of (by omega)⟩, rfl, r2⟩
  have e45 : TL.tl (Str.ofString "-") = [45] := by decide +kernel
  have ec : TL.tl (L2.cutS s none (some 1)) = s.cps.toList.take 1 := cut_to s 1
  have ed : TL.tl (L2.cutS s (some 1) none) = s.cps.toList.drop 1 := cut_from s 1
  have eq : (L2.cutS s none (some 1) == Str.ofString "-") = (s.cps.toList.take 1 == [45]) := by
    rw [str_beq]
    show (TL.tl _ == TL.tl _) = _
    rw [ec, e45]
  rw [eq]
  have hn := str_len s
  cases hs : s.cps.toList with
  | nil =>
    rw [if_neg (by decide)]
    exact rest 1 s (.inl rfl) (by rw [hs]; rfl) hl (by rw [if_neg (by decide)])
  | cons c r =>
    by_cases hc : c = 45
    · subst hc
      rw [if_pos (by simp)]
      have e2 : (L2.cutS s (some 1) none).cps.toList = r := by
        have := ed
        rw [hs] at this
        simpa using this
      refine rest (-1) (L2.cutS s (some 1) none) (.inr rfl) (by rw [hs, e2]; exact raw_neg r) ?_ (by rw [if_pos (by decide)])
      rw [str_len, e2]
      rw [hs, List.length_cons] at hn
      omega
    · rw [if_neg (by simpa using hc)]
      exact rest 1 s (.inl rfl) (by rw [hs]; exact raw_pos hc) hl (by rw [if_neg (by decide)])
end K02
namespace K02
open PySem DD
theorem app_l (a b : Str) : (a ++ b).cps.toList = a.cps.toList ++ b.cps.toList := Array.toList_append
theorem alen (a b : Str) : (a ++ b).length = a.length + b.length := by rw [str_len, app_l, List.length_append, ← str_len, ← str_len]
theorem e20 : (10 : Nat) ^ 20 = 100000000000000000000 := by decide
theorem int_len {i : Int} (h : mild i) : (intL i).length ≤ 21 := by
  have := TL.numL_len (n := i.natAbs) (k := 20) (by decide) h
  unfold intL
  rw [List.length_append]
  split <;> simp <;> omega
theorem mild_log {i : Int} (h : mild i) : i.natAbs.log2 < 1920 := by
  unfold mild at h
  by_cases h0 : i.natAbs = 0
  · rw [h0]; decide
  · exact (Nat.log2_lt h0).mpr (Nat.lt_of_lt_of_le h (by rw [e20]; exact Nat.le_trans (m := 2 ^ 100) (by decide) (Nat.pow_le_pow_right (by decide) (by decide))))
theorem writ_len {t b : Int} (ht : mild t) (hb : mild b) : (writL t b).length ≤ 43 := by
  have h1 := int_len ht
  have h2 := int_len hb
  unfold writL
  split
  · omega
  · rw [List.length_append, List.length_cons]; omega
theorem empty_l : Str.empty.length = 0 := by decide +kernel
theorem slash_l : (Str.ofString "/").length = 1 := by decide +kernel
theorem vc_Ratio_str : ∀ svs Qd, sp_Ratio_str svs Qd → svs.length = 1 ∧ w_Ratio_str (endD Qd) (startD 1 svs) := by
  rintro svs Qd ⟨t, b, rfl, ht, hb, hq⟩
  refine ⟨rfl, ?_⟩; unfold w_Ratio_str; simp only [startD, List.getElem?_cons_zero, List.getElem?_cons_succ, List.set_cons_zero, List.set_cons_succ, List.length_cons, List.length_nil, List.map_cons, List.map_nil, List.replicate, List.append_assoc, List.nil_append, List.cons_append, List.append_nil, List.foldl_cons, List.foldl_nil, Nat.reduceAdd, Nat.reduceSub, String.reduceBEq, Nat.reduceBEq, String.reduceEq, beq_self_eq_true, List.lookup, if_true, if_false, Bool.false_eq_true, true_and, and_true, Bool.not_true, Bool.not_false, reduceIte]
  refine seq_op fun K hK => ?_
  dsimp only [wSeq, wSkip, wBrk, wCnt, wNever, wRet, wRetN, wExpr, wIfS, wAsg, sto, wTru, truD, wTAnd, wTOr, wTNot, wTB, wYes, wAnd, wOr, wNot, wIf, wChain, wC, wVar, wOp, wUn, wNil, wCons, allV, wN, wTup, wLst, wd, wRng1, wRng2, wEnum, wZip, wIt, wFor, wLc, wIsi, isiD, tyN, wFld, wSetF, wCall, wCallK, wMeth, wMethK, wMethK0, wBagCall, wBagIx, wBagSet, wScrIx, wSlX, slDX, wSl, slD, wOptI, wNoI, wIxN, wLenN, wListR, wTupR, wR1, wR2, wJoin, joinD, fJs, fmtD, wPar, wPar3, wAsgT, wApp, wExt, wSetI, ownAt, wAug, wFrz, frzD, frz1, wLook, wLookT, prim, addD, subD, mulD, mulT, fdivD, modD, powD, negD, ltD, leD, gtD, geD, ordD, cmpD, isD, inSD, eqT, binO, lenT, strT, negT, lenD, strD, absD, intD, max2D, min2D, allD, anyD, listD, tupleD, reprD, revD, ixD, rgD, permS, pick, dflt, mkF, endD, endO, endI, startD, Pat.put, Pat.putL, blkD, wipeD, keepVB, cntBag, inW, wBmS, wBmL, splitD, partD, sindexD, findD, lindexD, sumD, sortID, wRng3, wCD, wCIx, wDispIx, wDispL, wPr, wAsgP, notLD, notS, wLook2, ownsD, prim, endP, ↓DD.ixK_0, ↓DD.ixK_1, ↓DD.ixK_2, ↓DD.ixK_3, ↓DD.ixK_4, ↓DD.ixK_5, ↓DD.ixK_6, ↓DD.ixK_7, ↓DD.ixK_8, ↓DD.ixK_9, ↓DD.ixK_10, ↓DD.ixK_11, ↓DD.ixK_12, ↓DD.ixK_13, DD.ite_tt, DD.ite_ft, DD.itp_tt, DD.itp_ft, DD.map_c, DD.map_n, DD.set_c0, DD.set_cs, DD.get_c0, DD.get_cs, List.getElem?_cons_zero, List.getElem?_cons_succ, List.set_cons_zero, List.set_cons_succ, List.length_cons, List.length_nil, List.map_cons, List.map_nil, List.replicate, List.append_assoc, List.nil_append, List.cons_append, List.append_nil, List.foldl_cons, List.foldl_nil, Nat.reduceAdd, Nat.reduceSub, String.reduceBEq, Nat.reduceBEq, String.reduceEq, beq_self_eq_true, List.lookup, if_true, if_false, Bool.false_eq_true, true_and, and_true, Bool.not_true, Bool.not_false, reduceIte, rat, sp_text_of]
  by_cases h1 : b = 1
  · rw [if_pos (by simpa using h1)]
    refine ⟨by decide, t, rfl, ht, ?_⟩
    unfold writL at hq
    rw [if_pos h1] at hq
    have := int_len ht
    exact ⟨szOk_of (by rw [S_len]; omega), hq⟩
  · rw [if_neg (by simpa using h1)]
    refine hK _ ?_
    clear hK K
    dsimp only [wSeq, wSkip, wBrk, wCnt, wNever, wRet, wRetN, wExpr, wIfS, wAsg, sto, wTru, truD, wTAnd, wTOr, wTNot, wTB, wYes, wAnd, wOr, wNot, wIf, wChain, wC, wVar, wOp, wUn, wNil, wCons, allV, wN, wTup, wLst, wd, wRng1, wRng2, wEnum, wZip, wIt, wFor, wLc, wIsi, isiD, tyN, wFld, wSetF, wCall, wCallK, wMeth, wMethK, wMethK0, wBagCall, wBagIx, wBagSet, wScrIx, wSlX, slDX, wSl, slD, wOptI, wNoI, wIxN, wLenN, wListR, wTupR, wR1, wR2, wJoin, joinD, fJs, fmtD, wPar, wPar3, wAsgT, wApp, wExt, wSetI, ownAt, wAug, wFrz, frzD, frz1, wLook, wLookT, prim, addD, subD, mulD, mulT, fdivD, modD, powD, negD, ltD, leD, gtD, geD, ordD, cmpD, isD, inSD, eqT, binO, lenT, strT, negT, lenD, strD, absD, intD, max2D, min2D, allD, anyD, listD, tupleD, reprD, revD, ixD, rgD, permS, pick, dflt, mkF, endD, endO, endI, startD, Pat.put, Pat.putL, blkD, wipeD, keepVB, cntBag, inW, wBmS, wBmL, splitD, partD, sindexD, findD, lindexD, sumD, sortID, wRng3, wCD, wCIx, wDispIx, wDispL, wPr, wAsgP, notLD, notS, wLook2, ownsD, prim, endP, ↓DD.ixK_0, ↓DD.ixK_1, ↓DD.ixK_2, ↓DD.ixK_3, ↓DD.ixK_4, ↓DD.ixK_5, ↓DD.ixK_6, ↓DD.ixK_7, ↓DD.ixK_8, ↓DD.ixK_9, ↓DD.ixK_10, ↓DD.ixK_11, ↓DD.ixK_12, ↓DD.ixK_13, DD.ite_tt, DD.ite_ft, DD.itp_tt, DD.itp_ft, DD.map_c, DD.map_n, DD.set_c0, DD.set_cs, DD.get_c0, DD.get_cs, List.getElem?_cons_zero, List.getElem?_cons_succ, List.set_cons_zero, List.set_cons_succ, List.length_cons, List.length_nil, List.map_cons, List.map_nil, List.replicate, List.append_assoc, List.nil_append, List.cons_append, List.append_nil, List.foldl_cons, List.foldl_nil, Nat.reduceAdd, Nat.reduceSub, String.reduceBEq, Nat.reduceBEq, String.reduceEq, beq_self_eq_true, List.lookup, if_true, if_false, Bool.false_eq_true, true_and, and_true, Bool.not_true, Bool.not_false, reduceIte, rat, sp_text_of]
    unfold writL at hq
    rw [if_neg h1] at hq
    have z1 := int_len ht
    have z2 := int_len hb
    have y1 : (S (intL t)).length ≤ 21 := by rw [S_len]; exact z1
    have y2 : (S (intL b)).length ≤ 21 := by rw [S_len]; exact z2
    refine ⟨by decide, t, rfl, ht, szOk_of (by omega), szOk_of (by rw [alen, empty_l]; omega), szOk_of (by rw [alen, alen, empty_l, slash_l]; omega), by decide, b, rfl, hb, szOk_of (by omega), szOk_of (by rw [alen, alen, alen, empty_l, slash_l]; omega), ?_⟩
    have : Str.empty ++ S (intL t) ++ Str.ofString "/" ++ S (intL b) = S (intL t ++ 47 :: intL b) := str_ext (by
      rw [app_l, app_l, app_l]
      show [] ++ intL t ++ TL.tl (Str.ofString "/") ++ intL b = _
      rw [tl_slash, List.nil_append, List.append_assoc]; rfl)
    rw [this]; exact hq
theorem ts (i : Int) : Str.ofString (toString i) = S (intL i) := str_ext (str_int i)
theorem vc__law_written : ∀ svs Qd, sp__law_written svs Qd → svs.length = 1 ∧ w__law_written (endD Qd) (startD 1 svs) := by
  rintro svs Qd ⟨t, b, rfl, ht, hb, hq⟩
  refine ⟨rfl, ?_⟩; unfold w__law_written; simp only [startD, List.getElem?_cons_zero, List.getElem?_cons_succ, List.set_cons_zero, List.set_cons_succ, List.length_cons, List.length_nil, List.map_cons, List.map_nil, List.replicate, List.append_assoc, List.nil_append, List.cons_append, List.append_nil, List.foldl_cons, List.foldl_nil, Nat.reduceAdd, Nat.reduceSub, String.reduceBEq, Nat.reduceBEq, String.reduceEq, beq_self_eq_true, List.lookup, if_true, if_false, Bool.false_eq_true, true_and, and_true, Bool.not_true, Bool.not_false, reduceIte]
  dsimp only [wSeq, wSkip, wBrk, wCnt, wNever, wRet, wRetN, wExpr, wIfS, wAsg, sto, wTru, truD, wTAnd, wTOr, wTNot, wTB, wYes, wAnd, wOr, wNot, wIf, wChain, wC, wVar, wOp, wUn, wNil, wCons, allV, wN, wTup, wLst, wd, wRng1, wRng2, wEnum, wZip, wIt, wFor, wLc, wIsi, isiD, tyN, wFld, wSetF, wCall, wCallK, wMeth, wMethK, wMethK0, wBagCall, wBagIx, wBagSet, wScrIx, wSlX, slDX, wSl, slD, wOptI, wNoI, wIxN, wLenN, wListR, wTupR, wR1, wR2, wJoin, joinD, fJs, fmtD, wPar, wPar3, wAsgT, wApp, wExt, wSetI, ownAt, wAug, wFrz, frzD, frz1, wLook, wLookT, prim, addD, subD, mulD, mulT, fdivD, modD, powD, negD, ltD, leD, gtD, geD, ordD, cmpD, isD, inSD, eqT, binO, lenT, strT, negT, lenD, strD, absD, intD, max2D, min2D, allD, anyD, listD, tupleD, reprD, revD, ixD, rgD, permS, pick, dflt, mkF, endD, endO, endI, startD, Pat.put, Pat.putL, blkD, wipeD, keepVB, cntBag, inW, wBmS, wBmL, splitD, partD, sindexD, findD, lindexD, sumD, sortID, wRng3, wCD, wCIx, wDispIx, wDispL, wPr, wAsgP, notLD, notS, wLook2, ownsD, prim, endP, ↓DD.ixK_0, ↓DD.ixK_1, ↓DD.ixK_2, ↓DD.ixK_3, ↓DD.ixK_4, ↓DD.ixK_5, ↓DD.ixK_6, ↓DD.ixK_7, ↓DD.ixK_8, ↓DD.ixK_9, ↓DD.ixK_10, ↓DD.ixK_11, ↓DD.ixK_12, ↓DD.ixK_13, DD.ite_tt, DD.ite_ft, DD.itp_tt, DD.itp_ft, DD.map_c, DD.map_n, DD.set_c0, DD.set_cs, DD.get_c0, DD.get_cs, List.getElem?_cons_zero, List.getElem?_cons_succ, List.set_cons_zero, List.set_cons_succ, List.length_cons, List.length_nil, List.map_cons, List.map_nil, List.replicate, List.append_assoc, List.nil_append, List.cons_append, List.append_nil, List.foldl_cons, List.foldl_nil, Nat.reduceAdd, Nat.reduceSub, String.reduceBEq, Nat.reduceBEq, String.reduceEq, beq_self_eq_true, List.lookup, if_true, if_false, Bool.false_eq_true, true_and, and_true, Bool.not_true, Bool.not_false, reduceIte]
  rw [ts, ts]
  have y1 : (S (intL t)).length ≤ 21 := by rw [S_len]; exact int_len ht
  have y2 : (S (intL b)).length ≤ 21 := by rw [S_len]; exact int_len hb
  unfold writL at hq
  by_cases h1 : b = 1
  · rw [if_pos (by simpa using h1)]
    rw [if_pos h1] at hq
    exact ⟨mild_log ht, hq⟩
  · rw [if_neg (by simpa using h1)]
    rw [if_neg h1] at hq
    refine ⟨mild_log ht, szOk_of (by rw [slash_l]; omega), mild_log hb, szOk_of (by rw [alen, slash_l]; omega), ?_⟩
    have : S (intL t) ++ Str.ofString "/" ++ S (intL b) = S (intL t ++ 47 :: intL b) := str_ext (by
      rw [app_l, app_l]
      show intL t ++ TL.tl (Str.ofString "/") ++ intL b = _
      rw [tl_slash, List.append_assoc]; rfl)
    rw [this]; exact hq
theorem vc_Ratio_read : ∀ svs Qd Ed, spx_Ratio_read svs Qd Ed → svs.length = 1 ∧ w_Ratio_read Ed (endD Qd) (startD 2 svs) := by
  rintro svs Qd Ed ⟨d, rfl, ho, hb, hg⟩
  refine ⟨rfl, ?_⟩; unfold w_Ratio_read; simp only [startD, List.getElem?_cons_zero, List.getElem?_cons_succ, List.set_cons_zero, List.set_cons_succ, List.length_cons, List.length_nil, List.map_cons, List.map_nil, List.replicate, List.append_assoc, List.nil_append, List.cons_append, List.append_nil, List.foldl_cons, List.foldl_nil, Nat.reduceAdd, Nat.reduceSub, String.reduceBEq, Nat.reduceBEq, String.reduceEq, beq_self_eq_true, List.lookup, if_true, if_false, Bool.false_eq_true, true_and, and_true, Bool.not_true, Bool.not_false, reduceIte]
  refine seq_op fun K hK => ?_
  dsimp only [wSeq, wSkip, wBrk, wCnt, wNever, wRet, wRetN, wExpr, wIfS, wAsg, sto, wTru, truD, wTAnd, wTOr, wTNot, wTB, wYes, wAnd, wOr, wNot, wIf, wChain, wC, wVar, wOp, wUn, wNil, wCons, allV, wN, wTup, wLst, wd, wRng1, wRng2, wEnum, wZip, wIt, wFor, wLc, wIsi, isiD, tyN, wFld, wSetF, wCall, wCallK, wMeth, wMethK, wMethK0, wBagCall, wBagIx, wBagSet, wScrIx, wSlX, slDX, wSl, slD, wOptI, wNoI, wIxN, wLenN, wListR, wTupR, wR1, wR2, wJoin, joinD, fJs, fmtD, wPar, wPar3, wAsgT, wApp, wExt, wSetI, ownAt, wAug, wFrz, frzD, frz1, wLook, wLookT, prim, addD, subD, mulD, mulT, fdivD, modD, powD, negD, ltD, leD, gtD, geD, ordD, cmpD, isD, inSD, eqT, binO, lenT, strT, negT, lenD, strD, absD, intD, max2D, min2D, allD, anyD, listD, tupleD, reprD, revD, ixD, rgD, permS, pick, dflt, mkF, endD, endO, endI, startD, Pat.put, Pat.putL, blkD, wipeD, keepVB, cntBag, inW, wBmS, wBmL, splitD, partD, sindexD, findD, lindexD, sumD, sortID, wRng3, wCD, wCIx, wDispIx, wDispL, wPr, wAsgP, notLD, notS, wLook2, ownsD, prim, endP, ↓DD.ixK_0, ↓DD.ixK_1, ↓DD.ixK_2, ↓DD.ixK_3, ↓DD.ixK_4, ↓DD.ixK_5, ↓DD.ixK_6, ↓DD.ixK_7, ↓DD.ixK_8, ↓DD.ixK_9, ↓DD.ixK_10, ↓DD.ixK_11, ↓DD.ixK_12, ↓DD.ixK_13, DD.ite_tt, DD.ite_ft, DD.itp_tt, DD.itp_ft, DD.map_c, DD.map_n, DD.set_c0, DD.set_cs, DD.get_c0, DD.get_cs, List.getElem?_cons_zero, List.getElem?_cons_succ, List.set_cons_zero, List.set_cons_succ, List.length_cons, List.length_nil, List.map_cons, List.map_nil, List.replicate, List.append_assoc, List.nil_append, List.cons_append, List.append_nil, List.foldl_cons, List.foldl_nil, Nat.reduceAdd, Nat.reduceSub, String.reduceBEq, Nat.reduceBEq, String.reduceEq, beq_self_eq_true, List.lookup, if_true, if_false, Bool.false_eq_true, true_and, and_true, Bool.not_true, Bool.not_false, reduceIte]
  have no : ∀ d : D, (readD d = none → Ed 1 [d]) → readD d = none → K [some (SV.val d), some (SV.val .non)] := by
    intro d hb h
    refine hK _ ?_
    clear hK K
    refine seq_op fun K hK => ?_
    dsimp only [wSeq, wSkip, wBrk, wCnt, wNever, wRet, wRetN, wExpr, wIfS, wAsg, sto, wTru, truD, wTAnd, wTOr, wTNot, wTB, wYes, wAnd, wOr, wNot, wIf, wChain, wC, wVar, wOp, wUn, wNil, wCons, allV, wN, wTup, wLst, wd, wRng1, wRng2, wEnum, wZip, wIt, wFor, wLc, wIsi, isiD, tyN, wFld, wSetF, wCall, wCallK, wMeth, wMethK, wMethK0, wBagCall, wBagIx, wBagSet, wScrIx, wSlX, slDX, wSl, slD, wOptI, wNoI, wIxN, wLenN, wListR, wTupR, wR1, wR2, wJoin, joinD, fJs, fmtD, wPar, wPar3, wAsgT, wApp, wExt, wSetI, ownAt, wAug, wFrz, frzD, frz1, wLook, wLookT, prim, addD, subD, mulD, mulT, fdivD, modD, powD, negD, ltD, leD, gtD, geD, ordD, cmpD, isD, inSD, eqT, binO, lenT, strT, negT, lenD, strD, absD, intD, max2D, min2D, allD, anyD, listD, tupleD, reprD, revD, ixD, rgD, permS, pick, dflt, mkF, endD, endO, endI, startD, Pat.put, Pat.putL, blkD, wipeD, keepVB, cntBag, inW, wBmS, wBmL, splitD, partD, sindexD, findD, lindexD, sumD, sortID, wRng3, wCD, wCIx, wDispIx, wDispL, wPr, wAsgP, notLD, notS, wLook2, ownsD, prim, endP, ↓DD.ixK_0, ↓DD.ixK_1, ↓DD.ixK_2, ↓DD.ixK_3, ↓DD.ixK_4, ↓DD.ixK_5, ↓DD.ixK_6, ↓DD.ixK_7, ↓DD.ixK_8, ↓DD.ixK_9, ↓DD.ixK_10, ↓DD.ixK_11, ↓DD.ixK_12, ↓DD.ixK_13, DD.ite_tt, DD.ite_ft, DD.itp_tt, DD.itp_ft, DD.map_c, DD.map_n, DD.set_c0, DD.set_cs, DD.get_c0, DD.get_cs, List.getElem?_cons_zero, List.getElem?_cons_succ, List.set_cons_zero, List.set_cons_succ, List.length_cons, List.length_nil, List.map_cons, List.map_nil, List.replicate, List.append_assoc, List.nil_append, List.cons_append, List.append_nil, List.foldl_cons, List.foldl_nil, Nat.reduceAdd, Nat.reduceSub, String.reduceBEq, Nat.reduceBEq, String.reduceEq, beq_self_eq_true, List.lookup, if_true, if_false, Bool.false_eq_true, true_and, and_true, Bool.not_true, Bool.not_false, reduceIte, wRaise]
    rw [if_pos (by decide)]
    exact hb h
  cases d with
  | str s =>
    have hl : s.length ≤ 19 := of_decide_eq_true ho
    dsimp only [wSeq, wSkip, wBrk, wCnt, wNever, wRet, wRetN, wExpr, wIfS, wAsg, sto, wTru, truD, wTAnd, wTOr, wTNot, wTB, wYes, wAnd, wOr, wNot, wIf, wChain, wC, wVar, wOp, wUn, wNil, wCons, allV, wN, wTup, wLst, wd, wRng1, wRng2, wEnum, wZip, wIt, wFor, wLc, wIsi, isiD, tyN, wFld, wSetF, wCall, wCallK, wMeth, wMethK, wMethK0, wBagCall, wBagIx, wBagSet, wScrIx, wSlX, slDX, wSl, slD, wOptI, wNoI, wIxN, wLenN, wListR, wTupR, wR1, wR2, wJoin, joinD, fJs, fmtD, wPar, wPar3, wAsgT, wApp, wExt, wSetI, ownAt, wAug, wFrz, frzD, frz1, wLook, wLookT, prim, addD, subD, mulD, mulT, fdivD, modD, powD, negD, ltD, leD, gtD, geD, ordD, cmpD, isD, inSD, eqT, binO, lenT, strT, negT, lenD, strD, absD, intD, max2D, min2D, allD, anyD, listD, tupleD, reprD, revD, ixD, rgD, permS, pick, dflt, mkF, endD, endO, endI, startD, Pat.put, Pat.putL, blkD, wipeD, keepVB, cntBag, inW, wBmS, wBmL, splitD, partD, sindexD, findD, lindexD, sumD, sortID, wRng3, wCD, wCIx, wDispIx, wDispL, wPr, wAsgP, notLD, notS, wLook2, ownsD, prim, endP, ↓DD.ixK_0, ↓DD.ixK_1, ↓DD.ixK_2, ↓DD.ixK_3, ↓DD.ixK_4, ↓DD.ixK_5, ↓DD.ixK_6, ↓DD.ixK_7, ↓DD.ixK_8, ↓DD.ixK_9, ↓DD.ixK_10, ↓DD.ixK_11, ↓DD.ixK_12, ↓DD.ixK_13, DD.ite_tt, DD.ite_ft, DD.itp_tt, DD.itp_ft, DD.map_c, DD.map_n, DD.set_c0, DD.set_cs, DD.get_c0, DD.get_cs, List.getElem?_cons_zero, List.getElem?_cons_succ, List.set_cons_zero, List.set_cons_succ, List.length_cons, List.length_nil, List.map_cons, List.map_nil, List.replicate, List.append_assoc, List.nil_append, List.cons_append, List.append_nil, List.foldl_cons, List.foldl_nil, Nat.reduceAdd, Nat.reduceSub, String.reduceBEq, Nat.reduceBEq, String.reduceEq, beq_self_eq_true, List.lookup, if_true, if_false, Bool.false_eq_true, true_and, and_true, Bool.not_true, Bool.not_false, reduceIte, isiB_str, sp_ratio_in]
    refine ⟨by decide, s, rfl, hl, ?_⟩
    cases hr : rawP s.cps.toList with
    | none => exact no _ hb (by show readP s = none; unfold readP; rw [hr])
    | some p =>
      obtain ⟨x, y⟩ := p
      obtain ⟨g1, g2, g3⟩ := raw_le hr
      obtain ⟨l1, l2, l3⟩ := low_of (x := x) g1
      have p19 : (10 : Nat) ^ s.cps.toList.length ≤ 10 ^ 19 := Nat.pow_le_pow_right (by omega) (by rw [← str_len]; exact hl)
      have e19 : (10 : Nat) ^ 19 = 10000000000000000000 := by decide
      have m1 : mild (x / Int.gcd x y) := by unfold mild; rw [e20]; omega
      have m2 : mild (y / Int.gcd x y) := by unfold mild; rw [e20]; omega
      have hrd : readP s = if writL (x / Int.gcd x y) (y / Int.gcd x y) = s.cps.toList then some (x / Int.gcd x y, y / Int.gcd x y) else none := by unfold readP; rw [hr]
      refine hK _ ?_
      clear hK K no
      refine seq_op fun K hK => ?_
      dsimp only [wSeq, wSkip, wBrk, wCnt, wNever, wRet, wRetN, wExpr, wIfS, wAsg, sto, wTru, truD, wTAnd, wTOr, wTNot, wTB, wYes, wAnd, wOr, wNot, wIf, wChain, wC, wVar, wOp, wUn, wNil, wCons, allV, wN, wTup, wLst, wd, wRng1, wRng2, wEnum, wZip, wIt, wFor, wLc, wIsi, isiD, tyN, wFld, wSetF, wCall, wCallK, wMeth, wMethK, wMethK0, wBagCall, wBagIx, wBagSet, wScrIx, wSlX, slDX, wSl, slD, wOptI, wNoI, wIxN, wLenN, wListR, wTupR, wR1, wR2, wJoin, joinD, fJs, fmtD, wPar, wPar3, wAsgT, wApp, wExt, wSetI, ownAt, wAug, wFrz, frzD, frz1, wLook, wLookT, prim, addD, subD, mulD, mulT, fdivD, modD, powD, negD, ltD, leD, gtD, geD, ordD, cmpD, isD, inSD, eqT, binO, lenT, strT, negT, lenD, strD, absD, intD, max2D, min2D, allD, anyD, listD, tupleD, reprD, revD, ixD, rgD, permS, pick, dflt, mkF, endD, endO, endI, startD, Pat.put, Pat.putL, blkD, wipeD, keepVB, cntBag, inW, wBmS, wBmL, splitD, partD, sindexD, findD, lindexD, sumD, sortID, wRng3, wCD, wCIx, wDispIx, wDispL, wPr, wAsgP, notLD, notS, wLook2, ownsD, prim, endP, ↓DD.ixK_0, ↓DD.ixK_1, ↓DD.ixK_2, ↓DD.ixK_3, ↓DD.ixK_4, ↓DD.ixK_5, ↓DD.ixK_6, ↓DD.ixK_7, ↓DD.ixK_8, ↓DD.ixK_9, ↓DD.ixK_10, ↓DD.ixK_11, ↓DD.ixK_12, ↓DD.ixK_13, DD.ite_tt, DD.ite_ft, DD.itp_tt, DD.itp_ft, DD.map_c, DD.map_n, DD.set_c0, DD.set_cs, DD.get_c0, DD.get_cs, List.getElem?_cons_zero, List.getElem?_cons_succ, List.set_cons_zero, List.set_cons_succ, List.length_cons, List.length_nil, List.map_cons, List.map_nil, List.replicate, List.append_assoc, List.nil_append, List.cons_append, List.append_nil, List.foldl_cons, List.foldl_nil, Nat.reduceAdd, Nat.reduceSub, String.reduceBEq, Nat.reduceBEq, String.reduceEq, beq_self_eq_true, List.lookup, if_true, if_false, Bool.false_eq_true, true_and, and_true, Bool.not_true, Bool.not_false, reduceIte, wRaise, nrmO, nrm, rat, sp_Ratio_str]
      refine ⟨_, _, rfl, m1, m2, ?_⟩
      by_cases hw : writL (x / Int.gcd x y) (y / Int.gcd x y) = s.cps.toList
      · have : S (writL (x / Int.gcd x y) (y / Int.gcd x y)) = s := by rw [hw]; exact S_eta s
        rw [this, if_neg (by simp)]
        refine hK _ ?_
        rw [if_pos hw] at hrd
        exact hg _ _ hrd
      · rw [if_pos]
        · rw [if_neg hw] at hrd
          exact hb hrd
        · rw [Bool.not_eq_true', beq_eq_false_iff_ne]
          rintro rfl
          exact hw rfl
  | _ =>
    all_goals first | (cases ho; done) | skip
    all_goals dsimp only [wSeq, wSkip, wBrk, wCnt, wNever, wRet, wRetN, wExpr, wIfS, wAsg, sto, wTru, truD, wTAnd, wTOr, wTNot, wTB, wYes, wAnd, wOr, wNot, wIf, wChain, wC, wVar, wOp, wUn, wNil, wCons, allV, wN, wTup, wLst, wd, wRng1, wRng2, wEnum, wZip, wIt, wFor, wLc, wIsi, isiD, tyN, wFld, wSetF, wCall, wCallK, wMeth, wMethK, wMethK0, wBagCall, wBagIx, wBagSet, wScrIx, wSlX, slDX, wSl, slD, wOptI, wNoI, wIxN, wLenN, wListR, wTupR, wR1, wR2, wJoin, joinD, fJs, fmtD, wPar, wPar3, wAsgT, wApp, wExt, wSetI, ownAt, wAug, wFrz, frzD, frz1, wLook, wLookT, prim, addD, subD, mulD, mulT, fdivD, modD, powD, negD, ltD, leD, gtD, geD, ordD, cmpD, isD, inSD, eqT, binO, lenT, strT, negT, lenD, strD, absD, intD, max2D, min2D, allD, anyD, listD, tupleD, reprD, revD, ixD, rgD, permS, pick, dflt, mkF, endD, endO, endI, startD, Pat.put, Pat.putL, blkD, wipeD, keepVB, cntBag, inW, wBmS, wBmL, splitD, partD, sindexD, findD, lindexD, sumD, sortID, wRng3, wCD, wCIx, wDispIx, wDispL, wPr, wAsgP, notLD, notS, wLook2, ownsD, prim, endP, ↓DD.ixK_0, ↓DD.ixK_1, ↓DD.ixK_2, ↓DD.ixK_3, ↓DD.ixK_4, ↓DD.ixK_5, ↓DD.ixK_6, ↓DD.ixK_7, ↓DD.ixK_8, ↓DD.ixK_9, ↓DD.ixK_10, ↓DD.ixK_11, ↓DD.ixK_12, ↓DD.ixK_13, DD.ite_tt, DD.ite_ft, DD.itp_tt, DD.itp_ft, DD.map_c, DD.map_n, DD.set_c0, DD.set_cs, DD.get_c0, DD.get_cs, List.getElem?_cons_zero, List.getElem?_cons_succ, List.set_cons_zero, List.set_cons_succ, List.length_cons, List.length_nil, List.map_cons, List.map_nil, List.replicate, List.append_assoc, List.nil_append, List.cons_append, List.append_nil, List.foldl_cons, List.foldl_nil, Nat.reduceAdd, Nat.reduceSub, String.reduceBEq, Nat.reduceBEq, String.reduceEq, beq_self_eq_true, List.lookup, if_true, if_false, Bool.false_eq_true, true_and, and_true, Bool.not_true, Bool.not_false, reduceIte, isiB_str, isiC_str]
    all_goals exact no _ hb rfl
theorem vc__law_low : ∀ svs Qd, sp__law_low svs Qd → svs.length = 2 ∧ w__law_low (endD Qd) (startD 5 svs) := by
  rintro svs Qd ⟨a, b, rfl, ⟨h0, h1, h2⟩, hq⟩
  refine ⟨rfl, ?_⟩
  unfold w__law_low
  simp only [wSeq, wSkip, wBrk, wCnt, wNever, wRet, wRetN, wExpr, wIfS, wAsg, sto, wTru, truD, wTAnd, wTOr, wTNot, wTB, wYes, wAnd, wOr, wNot, wIf, wChain, wC, wVar, wOp, wUn, wNil, wCons, allV, wN, wTup, wLst, wd, wRng1, wRng2, wEnum, wZip, wIt, wFor, wLc, wIsi, isiD, tyN, wFld, wSetF, wCall, wCallK, wMeth, wMethK, wMethK0, wBagCall, wBagIx, wBagSet, wScrIx, wSlX, slDX, wSl, slD, wOptI, wNoI, wIxN, wLenN, wListR, wTupR, wR1, wR2, wJoin, joinD, fJs, fmtD, wPar, wPar3, wAsgT, wApp, wExt, wSetI, ownAt, wAug, wFrz, frzD, frz1, wLook, wLookT, prim, addD, subD, mulD, mulT, fdivD, modD, powD, negD, ltD, leD, gtD, geD, ordD, cmpD, isD, inSD, eqT, binO, lenT, strT, negT, lenD, strD, absD, intD, max2D, min2D, allD, anyD, listD, tupleD, reprD, revD, ixD, rgD, permS, pick, dflt, mkF, endD, endO, endI, startD, Pat.put, Pat.putL, blkD, wipeD, keepVB, cntBag, inW, wBmS, wBmL, splitD, partD, sindexD, findD, lindexD, sumD, sortID, wRng3, wCD, wCIx, wDispIx, wDispL, wPr, wAsgP, notLD, notS, wLook2, ownsD, prim, endP, ↓DD.ixK_0, ↓DD.ixK_1, ↓DD.ixK_2, ↓DD.ixK_3, ↓DD.ixK_4, ↓DD.ixK_5, ↓DD.ixK_6, ↓DD.ixK_7, ↓DD.ixK_8, ↓DD.ixK_9, ↓DD.ixK_10, ↓DD.ixK_11, ↓DD.ixK_12, ↓DD.ixK_13, DD.ite_tt, DD.ite_ft, DD.itp_tt, DD.itp_ft, DD.map_c, DD.map_n, DD.set_c0, DD.set_cs, DD.get_c0, DD.get_cs, List.getElem?_cons_zero, List.getElem?_cons_succ, List.set_cons_zero, List.set_cons_succ, List.length_cons, List.length_nil, List.map_cons, List.map_nil, List.replicate, List.append_assoc, List.nil_append, List.cons_append, List.append_nil, List.foldl_cons, List.foldl_nil, Nat.reduceAdd, Nat.reduceSub, String.reduceBEq, Nat.reduceBEq, String.reduceEq, beq_self_eq_true, List.lookup, if_true, if_false, Bool.false_eq_true, true_and, and_true, Bool.not_true, Bool.not_false, reduceIte, wWhile]
  have e0 : ∀ x : Int, (if x < 0 then -x else x) = (x.natAbs : Int) := fun x => by split <;> omega
  refine ⟨fun m δ => ∃ h l : Nat, l = m ∧ Nat.gcd h l = Int.gcd a b ∧ δ = [some (.val (.int a)), some (.val (.int b)), some (.val (.int h)), some (.val (.int l)), none], ⟨_, a.natAbs, b.natAbs, rfl, rfl, by rw [e0, e0]⟩, ?_⟩
  rintro m δ ⟨h, l, rfl, hg, rfl⟩
  simp only [wSeq, wSkip, wBrk, wCnt, wNever, wRet, wRetN, wExpr, wIfS, wAsg, sto, wTru, truD, wTAnd, wTOr, wTNot, wTB, wYes, wAnd, wOr, wNot, wIf, wChain, wC, wVar, wOp, wUn, wNil, wCons, allV, wN, wTup, wLst, wd, wRng1, wRng2, wEnum, wZip, wIt, wFor, wLc, wIsi, isiD, tyN, wFld, wSetF, wCall, wCallK, wMeth, wMethK, wMethK0, wBagCall, wBagIx, wBagSet, wScrIx, wSlX, slDX, wSl, slD, wOptI, wNoI, wIxN, wLenN, wListR, wTupR, wR1, wR2, wJoin, joinD, fJs, fmtD, wPar, wPar3, wAsgT, wApp, wExt, wSetI, ownAt, wAug, wFrz, frzD, frz1, wLook, wLookT, prim, addD, subD, mulD, mulT, fdivD, modD, powD, negD, ltD, leD, gtD, geD, ordD, cmpD, isD, inSD, eqT, binO, lenT, strT, negT, lenD, strD, absD, intD, max2D, min2D, allD, anyD, listD, tupleD, reprD, revD, ixD, rgD, permS, pick, dflt, mkF, endD, endO, endI, startD, Pat.put, Pat.putL, blkD, wipeD, keepVB, cntBag, inW, wBmS, wBmL, splitD, partD, sindexD, findD, lindexD, sumD, sortID, wRng3, wCD, wCIx, wDispIx, wDispL, wPr, wAsgP, notLD, notS, wLook2, ownsD, prim, endP, ↓DD.ixK_0, ↓DD.ixK_1, ↓DD.ixK_2, ↓DD.ixK_3, ↓DD.ixK_4, ↓DD.ixK_5, ↓DD.ixK_6, ↓DD.ixK_7, ↓DD.ixK_8, ↓DD.ixK_9, ↓DD.ixK_10, ↓DD.ixK_11, ↓DD.ixK_12, ↓DD.ixK_13, DD.ite_tt, DD.ite_ft, DD.itp_tt, DD.itp_ft, DD.map_c, DD.map_n, DD.set_c0, DD.set_cs, DD.get_c0, DD.get_cs, List.getElem?_cons_zero, List.getElem?_cons_succ, List.set_cons_zero, List.set_cons_succ, List.length_cons, List.length_nil, List.map_cons, List.map_nil, List.replicate, List.append_assoc, List.nil_append, List.cons_append, List.append_nil, List.foldl_cons, List.foldl_nil, Nat.reduceAdd, Nat.reduceSub, String.reduceBEq, Nat.reduceBEq, String.reduceEq, beq_self_eq_true, List.lookup, if_true, if_false, Bool.false_eq_true, true_and, and_true, Bool.not_true, Bool.not_false, reduceIte]
  split
  · rename_i hl
    have hl : 0 < l := by have := of_decide_eq_true hl; omega
    refine ⟨by omega, _, ?_, l, h % l, rfl, ?_, ?_⟩
    · exact Nat.mod_lt _ hl
    · rw [← hg, Nat.gcd_comm h l, Nat.gcd_rec l h, Nat.gcd_comm]
    · rw [Int.natCast_emod]
  · rename_i hl
    have hl : l = 0 := by
      have : ¬ (0 < (l : Int)) := fun z => hl (decide_eq_true z)
      omega
    subst hl
    rw [Nat.gcd_zero_right] at hg
    rw [if_pos (decide_eq_true h0), hg]
    exact ⟨divOk_gcd h0 (small4 h2), divOk_gcd h0 (small4 h2), szOk_of (by omega), hq⟩
theorem forL_rec {q : Pat} {wb : WS} {Dd : DE} (P : List D → DEnv → Prop) : ∀ (xs : List D) (δ : DEnv), P xs δ → (∀ δ, P [] δ → Dd.nx δ) →
    (∀ x xs (K : DEnv → Prop), (∀ δ, P xs δ → K δ) → ∀ δ, P (x :: xs) δ → q.put x δ fun δ' => wb ⟨K, Dd.rt, Dd.nx, K⟩ δ') → forL q wb Dd xs δ
  | [], δ, h, h2, _ => h2 δ h
  | x :: xs, δ, h, h2, h3 => h3 x xs (forL q wb Dd xs) (fun δ' h' => forL_rec P xs δ' h' h2 h3) δ h
theorem okR_up : ∀ {m n : Nat} {d : D}, m ≤ n → okR m d = true → okR n d = true := by
  intro m
  induction m with
  | zero => intro n d _ h; cases d <;> first | (cases n <;> rfl; done) | (cases n <;> (unfold okR at h ⊢; exact h); done) | (unfold okR at h; exact absurd h (by decide))
  | succ m ih =>
    intro n d hl h
    obtain ⟨k, rfl⟩ : ∃ k, n = k + 1 := ⟨n - 1, by omega⟩
    cases d with
    | lst xs => unfold okR at h ⊢; exact List.all_eq_true.mpr fun x hx => ih (by omega) (List.all_eq_true.mp h x hx)
    | tup xs => unfold okR at h ⊢; exact List.all_eq_true.mpr fun x hx => ih (by omega) (List.all_eq_true.mp h x hx)
    | _ => unfold okR at h ⊢; exact h
theorem odd_repr {d : D} (ho : oddV d = true) : (isDct d || okR 40 d) = true := by
  cases d with
  | lst xs => exact okR_up (by decide) (show okR 3 (.lst xs) = true from ho)
  | tup xs => exact okR_up (by decide) (show okR 3 (.tup xs) = true from ho)
  | int i =>
    have ho : i.natAbs < 1000 := of_decide_eq_true ho
    show decide (i.natAbs.log2 < 1920) = true
    refine decide_eq_true ?_
    have : i.natAbs.log2 ≤ i.natAbs := Nat.log2_le_self _
    omega
  | _ => first | rfl | cases ho
theorem so_cls {c : Nat} {ds : List D} {Qd : D → Prop} (h : sp__law_sort c ds Qd) : c ∈ [1] := by
  obtain ⟨d, rfl, _⟩ := h
  exact List.mem_singleton.mpr rfl
theorem vc__law_sort : ∀ c ds Qd, sp__law_sort c ds Qd → w__law_sort (endD Qd) (startD 4 [.exc c ds]) := by
  rintro c ds Qd ⟨d, rfl, rfl, ho, hz, hq⟩
  unfold w__law_sort; simp only [startD, List.length_cons, List.length_nil, List.map_cons, List.map_nil, List.replicate, List.cons_append, List.nil_append]
  have e1 : isX_ShapeError 1 = some true := rfl
  have e2 : isX_QuestionError 1 = some false := rfl
  have e3 : isX_SizeError 1 = some false := rfl
  have e4 : isX_ValueError 1 = some true := rfl
  have e5 : isX_LookupError 1 = some false := rfl
  have e6 : isX_ArithmeticError 1 = some false := rfl
  have e7 : isX_InvalidText 1 = some true := rfl
  have e8 : xfI_value 1 = some 0 := rfl
  refine seq_op fun K hK => ?_
  dsimp only [wSeq, wSkip, wBrk, wCnt, wNever, wRet, wRetN, wExpr, wIfS, wAsg, sto, wTru, truD, wTAnd, wTOr, wTNot, wTB, wYes, wAnd, wOr, wNot, wIf, wChain, wC, wVar, wOp, wUn, wNil, wCons, allV, wN, wTup, wLst, wd, wRng1, wRng2, wEnum, wZip, wIt, wFor, wLc, wIsi, isiD, tyN, wFld, wSetF, wCall, wCallK, wMeth, wMethK, wMethK0, wBagCall, wBagIx, wBagSet, wScrIx, wSlX, slDX, wSl, slD, wOptI, wNoI, wIxN, wLenN, wListR, wTupR, wR1, wR2, wJoin, joinD, fJs, fmtD, wPar, wPar3, wAsgT, wApp, wExt, wSetI, ownAt, wAug, wFrz, frzD, frz1, wLook, wLookT, prim, addD, subD, mulD, mulT, fdivD, modD, powD, negD, ltD, leD, gtD, geD, ordD, cmpD, isD, inSD, eqT, binO, lenT, strT, negT, lenD, strD, absD, intD, max2D, min2D, allD, anyD, listD, tupleD, reprD, revD, ixD, rgD, permS, pick, dflt, mkF, endD, endO, endI, startD, Pat.put, Pat.putL, blkD, wipeD, keepVB, cntBag, inW, wBmS, wBmL, splitD, partD, sindexD, findD, lindexD, sumD, sortID, wRng3, wCD, wCIx, wDispIx, wDispL, wPr, wAsgP, notLD, notS, wLook2, ownsD, prim, endP, ↓DD.ixK_0, ↓DD.ixK_1, ↓DD.ixK_2, ↓DD.ixK_3, ↓DD.ixK_4, ↓DD.ixK_5, ↓DD.ixK_6, ↓DD.ixK_7, ↓DD.ixK_8, ↓DD.ixK_9, ↓DD.ixK_10, ↓DD.ixK_11, ↓DD.ixK_12, ↓DD.ixK_13, DD.ite_tt, DD.ite_ft, DD.itp_tt, DD.itp_ft, DD.map_c, DD.map_n, DD.set_c0, DD.set_cs, DD.get_c0, DD.get_cs, List.getElem?_cons_zero, List.getElem?_cons_succ, List.set_cons_zero, List.set_cons_succ, List.length_cons, List.length_nil, List.map_cons, List.map_nil, List.replicate, List.append_assoc, List.nil_append, List.cons_append, List.append_nil, List.foldl_cons, List.foldl_nil, Nat.reduceAdd, Nat.reduceSub, String.reduceBEq, Nat.reduceBEq, String.reduceEq, beq_self_eq_true, List.lookup, if_true, if_false, Bool.false_eq_true, true_and, and_true, Bool.not_true, Bool.not_false, reduceIte, wIsX]
  rw [e1, e2, e3]
  dsimp only [wSeq, wSkip, wBrk, wCnt, wNever, wRet, wRetN, wExpr, wIfS, wAsg, sto, wTru, truD, wTAnd, wTOr, wTNot, wTB, wYes, wAnd, wOr, wNot, wIf, wChain, wC, wVar, wOp, wUn, wNil, wCons, allV, wN, wTup, wLst, wd, wRng1, wRng2, wEnum, wZip, wIt, wFor, wLc, wIsi, isiD, tyN, wFld, wSetF, wCall, wCallK, wMeth, wMethK, wMethK0, wBagCall, wBagIx, wBagSet, wScrIx, wSlX, slDX, wSl, slD, wOptI, wNoI, wIxN, wLenN, wListR, wTupR, wR1, wR2, wJoin, joinD, fJs, fmtD, wPar, wPar3, wAsgT, wApp, wExt, wSetI, ownAt, wAug, wFrz, frzD, frz1, wLook, wLookT, prim, addD, subD, mulD, mulT, fdivD, modD, powD, negD, ltD, leD, gtD, geD, ordD, cmpD, isD, inSD, eqT, binO, lenT, strT, negT, lenD, strD, absD, intD, max2D, min2D, allD, anyD, listD, tupleD, reprD, revD, ixD, rgD, permS, pick, dflt, mkF, endD, endO, endI, startD, Pat.put, Pat.putL, blkD, wipeD, keepVB, cntBag, inW, wBmS, wBmL, splitD, partD, sindexD, findD, lindexD, sumD, sortID, wRng3, wCD, wCIx, wDispIx, wDispL, wPr, wAsgP, notLD, notS, wLook2, ownsD, prim, endP, ↓DD.ixK_0, ↓DD.ixK_1, ↓DD.ixK_2, ↓DD.ixK_3, ↓DD.ixK_4, ↓DD.ixK_5, ↓DD.ixK_6, ↓DD.ixK_7, ↓DD.ixK_8, ↓DD.ixK_9, ↓DD.ixK_10, ↓DD.ixK_11, ↓DD.ixK_12, ↓DD.ixK_13, DD.ite_tt, DD.ite_ft, DD.itp_tt, DD.itp_ft, DD.map_c, DD.map_n, DD.set_c0, DD.set_cs, DD.get_c0, DD.get_cs, List.getElem?_cons_zero, List.getElem?_cons_succ, List.set_cons_zero, List.set_cons_succ, List.length_cons, List.length_nil, List.map_cons, List.map_nil, List.replicate, List.append_assoc, List.nil_append, List.cons_append, List.append_nil, List.foldl_cons, List.foldl_nil, Nat.reduceAdd, Nat.reduceSub, String.reduceBEq, Nat.reduceBEq, String.reduceEq, beq_self_eq_true, List.lookup, if_true, if_false, Bool.false_eq_true, true_and, and_true, Bool.not_true, Bool.not_false, reduceIte]
  (repeat (refine And.intro (by first | assumption | exact True.intro | omega | exact ⟨True.intro, True.intro⟩ | exact Nat.zero_le 1 | exact Nat.le_refl 1 | exact Eq.refl 0 | exact szOk_of (by omega) | exact small4 (by assumption) | exact small_mul (by assumption) (by assumption)) ?_)); refine hK _ ?_; clear hK K
  refine seq_op fun K hK => ?_
  dsimp only [wSeq, wSkip, wBrk, wCnt, wNever, wRet, wRetN, wExpr, wIfS, wAsg, sto, wTru, truD, wTAnd, wTOr, wTNot, wTB, wYes, wAnd, wOr, wNot, wIf, wChain, wC, wVar, wOp, wUn, wNil, wCons, allV, wN, wTup, wLst, wd, wRng1, wRng2, wEnum, wZip, wIt, wFor, wLc, wIsi, isiD, tyN, wFld, wSetF, wCall, wCallK, wMeth, wMethK, wMethK0, wBagCall, wBagIx, wBagSet, wScrIx, wSlX, slDX, wSl, slD, wOptI, wNoI, wIxN, wLenN, wListR, wTupR, wR1, wR2, wJoin, joinD, fJs, fmtD, wPar, wPar3, wAsgT, wApp, wExt, wSetI, ownAt, wAug, wFrz, frzD, frz1, wLook, wLookT, prim, addD, subD, mulD, mulT, fdivD, modD, powD, negD, ltD, leD, gtD, geD, ordD, cmpD, isD, inSD, eqT, binO, lenT, strT, negT, lenD, strD, absD, intD, max2D, min2D, allD, anyD, listD, tupleD, reprD, revD, ixD, rgD, permS, pick, dflt, mkF, endD, endO, endI, startD, Pat.put, Pat.putL, blkD, wipeD, keepVB, cntBag, inW, wBmS, wBmL, splitD, partD, sindexD, findD, lindexD, sumD, sortID, wRng3, wCD, wCIx, wDispIx, wDispL, wPr, wAsgP, notLD, notS, wLook2, ownsD, prim, endP, ↓DD.ixK_0, ↓DD.ixK_1, ↓DD.ixK_2, ↓DD.ixK_3, ↓DD.ixK_4, ↓DD.ixK_5, ↓DD.ixK_6, ↓DD.ixK_7, ↓DD.ixK_8, ↓DD.ixK_9, ↓DD.ixK_10, ↓DD.ixK_11, ↓DD.ixK_12, ↓DD.ixK_13, DD.ite_tt, DD.ite_ft, DD.itp_tt, DD.itp_ft, DD.map_c, DD.map_n, DD.set_c0, DD.set_cs, DD.get_c0, DD.get_cs, List.getElem?_cons_zero, List.getElem?_cons_succ, List.set_cons_zero, List.set_cons_succ, List.length_cons, List.length_nil, List.map_cons, List.map_nil, List.replicate, List.append_assoc, List.nil_append, List.cons_append, List.append_nil, List.foldl_cons, List.foldl_nil, Nat.reduceAdd, Nat.reduceSub, String.reduceBEq, Nat.reduceBEq, String.reduceEq, beq_self_eq_true, List.lookup, if_true, if_false, Bool.false_eq_true, true_and, and_true, Bool.not_true, Bool.not_false, reduceIte, wIsX]
  rw [e4, e5, e6]
  dsimp only [wSeq, wSkip, wBrk, wCnt, wNever, wRet, wRetN, wExpr, wIfS, wAsg, sto, wTru, truD, wTAnd, wTOr, wTNot, wTB, wYes, wAnd, wOr, wNot, wIf, wChain, wC, wVar, wOp, wUn, wNil, wCons, allV, wN, wTup, wLst, wd, wRng1, wRng2, wEnum, wZip, wIt, wFor, wLc, wIsi, isiD, tyN, wFld, wSetF, wCall, wCallK, wMeth, wMethK, wMethK0, wBagCall, wBagIx, wBagSet, wScrIx, wSlX, slDX, wSl, slD, wOptI, wNoI, wIxN, wLenN, wListR, wTupR, wR1, wR2, wJoin, joinD, fJs, fmtD, wPar, wPar3, wAsgT, wApp, wExt, wSetI, ownAt, wAug, wFrz, frzD, frz1, wLook, wLookT, prim, addD, subD, mulD, mulT, fdivD, modD, powD, negD, ltD, leD, gtD, geD, ordD, cmpD, isD, inSD, eqT, binO, lenT, strT, negT, lenD, strD, absD, intD, max2D, min2D, allD, anyD, listD, tupleD, reprD, revD, ixD, rgD, permS, pick, dflt, mkF, endD, endO, endI, startD, Pat.put, Pat.putL, blkD, wipeD, keepVB, cntBag, inW, wBmS, wBmL, splitD, partD, sindexD, findD, lindexD, sumD, sortID, wRng3, wCD, wCIx, wDispIx, wDispL, wPr, wAsgP, notLD, notS, wLook2, ownsD, prim, endP, ↓DD.ixK_0, ↓DD.ixK_1, ↓DD.ixK_2, ↓DD.ixK_3, ↓DD.ixK_4, ↓DD.ixK_5, ↓DD.ixK_6, ↓DD.ixK_7, ↓DD.ixK_8, ↓DD.ixK_9, ↓DD.ixK_10, ↓DD.ixK_11, ↓DD.ixK_12, ↓DD.ixK_13, DD.ite_tt, DD.ite_ft, DD.itp_tt, DD.itp_ft, DD.map_c, DD.map_n, DD.set_c0, DD.set_cs, DD.get_c0, DD.get_cs, List.getElem?_cons_zero, List.getElem?_cons_succ, List.set_cons_zero, List.set_cons_succ, List.length_cons, List.length_nil, List.map_cons, List.map_nil, List.replicate, List.append_assoc, List.nil_append, List.cons_append, List.append_nil, List.foldl_cons, List.foldl_nil, Nat.reduceAdd, Nat.reduceSub, String.reduceBEq, Nat.reduceBEq, String.reduceEq, beq_self_eq_true, List.lookup, if_true, if_false, Bool.false_eq_true, true_and, and_true, Bool.not_true, Bool.not_false, reduceIte]
  (repeat (refine And.intro (by first | assumption | exact True.intro | omega | exact ⟨True.intro, True.intro⟩ | exact Nat.zero_le 1 | exact Nat.le_refl 1 | exact Eq.refl 0 | exact szOk_of (by omega) | exact small4 (by assumption) | exact small_mul (by assumption) (by assumption)) ?_)); refine hK _ ?_; clear hK K
  refine seq_op fun K hK => ?_
  dsimp only [wSeq, wSkip, wBrk, wCnt, wNever, wRet, wRetN, wExpr, wIfS, wAsg, sto, wTru, truD, wTAnd, wTOr, wTNot, wTB, wYes, wAnd, wOr, wNot, wIf, wChain, wC, wVar, wOp, wUn, wNil, wCons, allV, wN, wTup, wLst, wd, wRng1, wRng2, wEnum, wZip, wIt, wFor, wLc, wIsi, isiD, tyN, wFld, wSetF, wCall, wCallK, wMeth, wMethK, wMethK0, wBagCall, wBagIx, wBagSet, wScrIx, wSlX, slDX, wSl, slD, wOptI, wNoI, wIxN, wLenN, wListR, wTupR, wR1, wR2, wJoin, joinD, fJs, fmtD, wPar, wPar3, wAsgT, wApp, wExt, wSetI, ownAt, wAug, wFrz, frzD, frz1, wLook, wLookT, prim, addD, subD, mulD, mulT, fdivD, modD, powD, negD, ltD, leD, gtD, geD, ordD, cmpD, isD, inSD, eqT, binO, lenT, strT, negT, lenD, strD, absD, intD, max2D, min2D, allD, anyD, listD, tupleD, reprD, revD, ixD, rgD, permS, pick, dflt, mkF, endD, endO, endI, startD, Pat.put, Pat.putL, blkD, wipeD, keepVB, cntBag, inW, wBmS, wBmL, splitD, partD, sindexD, findD, lindexD, sumD, sortID, wRng3, wCD, wCIx, wDispIx, wDispL, wPr, wAsgP, notLD, notS, wLook2, ownsD, prim, endP, ↓DD.ixK_0, ↓DD.ixK_1, ↓DD.ixK_2, ↓DD.ixK_3, ↓DD.ixK_4, ↓DD.ixK_5, ↓DD.ixK_6, ↓DD.ixK_7, ↓DD.ixK_8, ↓DD.ixK_9, ↓DD.ixK_10, ↓DD.ixK_11, ↓DD.ixK_12, ↓DD.ixK_13, DD.ite_tt, DD.ite_ft, DD.itp_tt, DD.itp_ft, DD.map_c, DD.map_n, DD.set_c0, DD.set_cs, DD.get_c0, DD.get_cs, List.getElem?_cons_zero, List.getElem?_cons_succ, List.set_cons_zero, List.set_cons_succ, List.length_cons, List.length_nil, List.map_cons, List.map_nil, List.replicate, List.append_assoc, List.nil_append, List.cons_append, List.append_nil, List.foldl_cons, List.foldl_nil, Nat.reduceAdd, Nat.reduceSub, String.reduceBEq, Nat.reduceBEq, String.reduceEq, beq_self_eq_true, List.lookup, if_true, if_false, Bool.false_eq_true, true_and, and_true, Bool.not_true, Bool.not_false, reduceIte]
  (repeat (refine And.intro (by first | assumption | exact True.intro | omega | exact ⟨True.intro, True.intro⟩ | exact Nat.zero_le 1 | exact Nat.le_refl 1 | exact Eq.refl 0 | exact szOk_of (by omega) | exact small4 (by assumption) | exact small_mul (by assumption) (by assumption)) ?_)); refine hK _ ?_; clear hK K
  have hr := odd_repr ho
  refine seq_op fun K hK => ?_
  dsimp only [wSeq, wSkip, wBrk, wCnt, wNever, wRet, wRetN, wExpr, wIfS, wAsg, sto, wTru, truD, wTAnd, wTOr, wTNot, wTB, wYes, wAnd, wOr, wNot, wIf, wChain, wC, wVar, wOp, wUn, wNil, wCons, allV, wN, wTup, wLst, wd, wRng1, wRng2, wEnum, wZip, wIt, wFor, wLc, wIsi, isiD, tyN, wFld, wSetF, wCall, wCallK, wMeth, wMethK, wMethK0, wBagCall, wBagIx, wBagSet, wScrIx, wSlX, slDX, wSl, slD, wOptI, wNoI, wIxN, wLenN, wListR, wTupR, wR1, wR2, wJoin, joinD, fJs, fmtD, wPar, wPar3, wAsgT, wApp, wExt, wSetI, ownAt, wAug, wFrz, frzD, frz1, wLook, wLookT, prim, addD, subD, mulD, mulT, fdivD, modD, powD, negD, ltD, leD, gtD, geD, ordD, cmpD, isD, inSD, eqT, binO, lenT, strT, negT, lenD, strD, absD, intD, max2D, min2D, allD, anyD, listD, tupleD, reprD, revD, ixD, rgD, permS, pick, dflt, mkF, endD, endO, endI, startD, Pat.put, Pat.putL, blkD, wipeD, keepVB, cntBag, inW, wBmS, wBmL, splitD, partD, sindexD, findD, lindexD, sumD, sortID, wRng3, wCD, wCIx, wDispIx, wDispL, wPr, wAsgP, notLD, notS, wLook2, ownsD, prim, endP, ↓DD.ixK_0, ↓DD.ixK_1, ↓DD.ixK_2, ↓DD.ixK_3, ↓DD.ixK_4, ↓DD.ixK_5, ↓DD.ixK_6, ↓DD.ixK_7, ↓DD.ixK_8, ↓DD.ixK_9, ↓DD.ixK_10, ↓DD.ixK_11, ↓DD.ixK_12, ↓DD.ixK_13, DD.ite_tt, DD.ite_ft, DD.itp_tt, DD.itp_ft, DD.map_c, DD.map_n, DD.set_c0, DD.set_cs, DD.get_c0, DD.get_cs, List.getElem?_cons_zero, List.getElem?_cons_succ, List.set_cons_zero, List.set_cons_succ, List.length_cons, List.length_nil, List.map_cons, List.map_nil, List.replicate, List.append_assoc, List.nil_append, List.cons_append, List.append_nil, List.foldl_cons, List.foldl_nil, Nat.reduceAdd, Nat.reduceSub, String.reduceBEq, Nat.reduceBEq, String.reduceEq, beq_self_eq_true, List.lookup, if_true, if_false, Bool.false_eq_true, true_and, and_true, Bool.not_true, Bool.not_false, reduceIte, wIsX, wXf, reprD]
  rw [e7, e8]
  dsimp only [wSeq, wSkip, wBrk, wCnt, wNever, wRet, wRetN, wExpr, wIfS, wAsg, sto, wTru, truD, wTAnd, wTOr, wTNot, wTB, wYes, wAnd, wOr, wNot, wIf, wChain, wC, wVar, wOp, wUn, wNil, wCons, allV, wN, wTup, wLst, wd, wRng1, wRng2, wEnum, wZip, wIt, wFor, wLc, wIsi, isiD, tyN, wFld, wSetF, wCall, wCallK, wMeth, wMethK, wMethK0, wBagCall, wBagIx, wBagSet, wScrIx, wSlX, slDX, wSl, slD, wOptI, wNoI, wIxN, wLenN, wListR, wTupR, wR1, wR2, wJoin, joinD, fJs, fmtD, wPar, wPar3, wAsgT, wApp, wExt, wSetI, ownAt, wAug, wFrz, frzD, frz1, wLook, wLookT, prim, addD, subD, mulD, mulT, fdivD, modD, powD, negD, ltD, leD, gtD, geD, ordD, cmpD, isD, inSD, eqT, binO, lenT, strT, negT, lenD, strD, absD, intD, max2D, min2D, allD, anyD, listD, tupleD, reprD, revD, ixD, rgD, permS, pick, dflt, mkF, endD, endO, endI, startD, Pat.put, Pat.putL, blkD, wipeD, keepVB, cntBag, inW, wBmS, wBmL, splitD, partD, sindexD, findD, lindexD, sumD, sortID, wRng3, wCD, wCIx, wDispIx, wDispL, wPr, wAsgP, notLD, notS, wLook2, ownsD, prim, endP, ↓DD.ixK_0, ↓DD.ixK_1, ↓DD.ixK_2, ↓DD.ixK_3, ↓DD.ixK_4, ↓DD.ixK_5, ↓DD.ixK_6, ↓DD.ixK_7, ↓DD.ixK_8, ↓DD.ixK_9, ↓DD.ixK_10, ↓DD.ixK_11, ↓DD.ixK_12, ↓DD.ixK_13, DD.ite_tt, DD.ite_ft, DD.itp_tt, DD.itp_ft, DD.map_c, DD.map_n, DD.set_c0, DD.set_cs, DD.get_c0, DD.get_cs, List.getElem?_cons_zero, List.getElem?_cons_succ, List.set_cons_zero, List.set_cons_succ, List.length_cons, List.length_nil, List.map_cons, List.map_nil, List.replicate, List.append_assoc, List.nil_append, List.cons_append, List.append_nil, List.foldl_cons, List.foldl_nil, Nat.reduceAdd, Nat.reduceSub, String.reduceBEq, Nat.reduceBEq, String.reduceEq, beq_self_eq_true, List.lookup, if_true, if_false, Bool.false_eq_true, true_and, and_true, Bool.not_true, Bool.not_false, reduceIte]
  refine ⟨hr, hz, szOk_of (by decide), szOk_of (by decide), ?_⟩
  refine hK _ ?_
  clear hK K
  dsimp only [wAsg, wLook2, wLook, wRet, wIfS, wFrz, wApp, ownAt, wLc, wExpr, blkD, wipeD, DD.frzD, frz1, List.foldl_cons, List.foldl_nil, DD.map_c, DD.map_n, DD.set_c0, DD.set_cs, keepVB, DD.get_c0, DD.get_cs]
  dsimp only [wSeq, wSkip, wBrk, wCnt, wNever, wRet, wRetN, wExpr, wIfS, wAsg, sto, wTru, truD, wTAnd, wTOr, wTNot, wTB, wYes, wAnd, wOr, wNot, wIf, wChain, wC, wVar, wOp, wUn, wNil, wCons, allV, wN, wTup, wLst, wd, wRng1, wRng2, wEnum, wZip, wIt, wFor, wLc, wIsi, isiD, tyN, wFld, wSetF, wCall, wCallK, wMeth, wMethK, wMethK0, wBagCall, wBagIx, wBagSet, wScrIx, wSlX, slDX, wSl, slD, wOptI, wNoI, wIxN, wLenN, wListR, wTupR, wR1, wR2, wJoin, joinD, fJs, fmtD, wPar, wPar3, wAsgT, wApp, wExt, wSetI, ownAt, wAug, wFrz, frzD, frz1, wLook, wLookT, prim, addD, subD, mulD, mulT, fdivD, modD, powD, negD, ltD, leD, gtD, geD, ordD, cmpD, isD, inSD, eqT, binO, lenT, strT, negT, lenD, strD, absD, intD, max2D, min2D, allD, anyD, listD, tupleD, reprD, revD, ixD, rgD, permS, pick, dflt, mkF, endD, endO, endI, startD, Pat.put, Pat.putL, blkD, wipeD, keepVB, cntBag, inW, wBmS, wBmL, splitD, partD, sindexD, findD, lindexD, sumD, sortID, wRng3, wCD, wCIx, wDispIx, wDispL, wPr, wAsgP, notLD, notS, wLook2, ownsD, prim, endP, ↓DD.ixK_0, ↓DD.ixK_1, ↓DD.ixK_2, ↓DD.ixK_3, ↓DD.ixK_4, ↓DD.ixK_5, ↓DD.ixK_6, ↓DD.ixK_7, ↓DD.ixK_8, ↓DD.ixK_9, ↓DD.ixK_10, ↓DD.ixK_11, ↓DD.ixK_12, ↓DD.ixK_13, DD.ite_tt, DD.ite_ft, DD.itp_tt, DD.itp_ft, DD.map_c, DD.map_n, DD.set_c0, DD.set_cs, DD.get_c0, DD.get_cs, List.getElem?_cons_zero, List.getElem?_cons_succ, List.set_cons_zero, List.set_cons_succ, List.length_cons, List.length_nil, List.map_cons, List.map_nil, List.replicate, List.append_assoc, List.nil_append, List.cons_append, List.append_nil, List.foldl_cons, List.foldl_nil, Nat.reduceAdd, Nat.reduceSub, String.reduceBEq, Nat.reduceBEq, String.reduceEq, beq_self_eq_true, List.lookup, if_true, if_false, Bool.false_eq_true, true_and, and_true, Bool.not_true, Bool.not_false, reduceIte, wBmL, countD, blsD]
  rw [if_pos (by decide)]
  refine ⟨⟨by decide +kernel, by decide +kernel⟩, ?_⟩
  rw [if_pos (by decide +kernel)]
  dsimp only [Option.map]
  rw [if_pos (by decide)]
  exact hq
end K02
namespace K02
open PySem DD
def lowT (n : Nat) (s : Str) : Prop := s.length ≤ n ∧ ∀ c ∈ s.cps.toList, c < 128
theorem lowT.app {a b : Str} {n m : Nat} (ha : lowT n a) (hb : lowT m b) : lowT (n + m) (a ++ b) := by
  have e : (a ++ b).cps.toList = a.cps.toList ++ b.cps.toList := Array.toList_append
  refine ⟨?_, fun c hc => ?_⟩
  · have h1 := ha.1; have h2 := hb.1
    rw [str_len] at *
    rw [e, List.length_append]; omega
  · rw [e] at hc
    exact (List.mem_append.mp hc).elim (ha.2 c) (hb.2 c)
theorem lowT.mono {a : Str} {n m : Nat} (h : lowT n a) (hl : n ≤ m) : lowT m a := ⟨Nat.le_trans h.1 hl, h.2⟩
theorem lowT.to {a : Str} {n : Nat} (h : lowT n a) (k : Nat) : lowT n (L2.cutS a none (some (k : Int))) := ⟨by
  have h1 := h.1
  rw [str_len] at *
  rw [cut_to, List.length_take]; omega, fun c hc => by rw [cut_to] at hc; exact h.2 c (List.mem_of_mem_take hc)⟩
theorem lowT.fro {a : Str} {n : Nat} (h : lowT n a) (k : Nat) : lowT n (L2.cutS a (some (k : Int)) none) := ⟨by
  have h1 := h.1
  rw [str_len] at *
  rw [cut_from, List.length_drop]; omega, fun c hc => by rw [cut_from] at hc; exact h.2 c (List.mem_of_mem_drop hc)⟩
def okA (s : Str) : Prop := ∀ c ∈ s.cps.toList, c < 1114112
theorem okA.ok {s : Str} (h : okA s) : PyData.strOk s = true := by
  unfold PyData.strOk
  rw [Array.all_eq_true_iff_forall_mem]
  intro c hc
  exact decide_eq_true (h c (Array.mem_toList_iff.mpr hc))
theorem okA.app {a b : Str} (ha : okA a) (hb : okA b) : okA (a ++ b) := fun c hc => by
  have e : (a ++ b).cps.toList = a.cps.toList ++ b.cps.toList := Array.toList_append
  rw [e] at hc
  exact (List.mem_append.mp hc).elim (ha c) (hb c)
theorem rc_all : ((List.range 128).all fun c => [34, 39].all fun q => (Builtin.Str.reprChar q c).all fun x => decide (x < 1114112)) = true := by decide +kernel
theorem rc_ok {c q : Nat} (hc : c < 128) (hq : q = 34 ∨ q = 39) : ∀ x ∈ Builtin.Str.reprChar q c, x < 1114112 := by
  have h := List.all_eq_true.mp rc_all c (List.mem_range.mpr hc)
  have h2 := List.all_eq_true.mp h q (by rcases hq with rfl | rfl <;> simp)
  intro x hx
  exact of_decide_eq_true (List.all_eq_true.mp h2 x hx)
theorem fold_ok {q : Nat} (hq : q = 34 ∨ q = 39) : ∀ (l : List Nat) (acc : Array Nat), (∀ c ∈ l, c < 128) → (∀ c ∈ acc.toList, c < 1114112) → ∀ c ∈ (l.foldl (fun out c => out ++ (Builtin.Str.reprChar q c).toArray) acc).toList, c < 1114112
  | [], acc, _, h => h
  | c :: l, acc, h1, h2 => by
    refine fold_ok hq l _ (fun x hx => h1 x (List.mem_cons_of_mem _ hx)) fun x hx => ?_
    rw [Array.toList_append] at hx
    rcases List.mem_append.mp hx with z | z
    · exact h2 x z
    · exact rc_ok (h1 c List.mem_cons_self) hq x z
theorem okA_repr {s : Str} (h : ∀ c ∈ s.cps.toList, c < 128) : okA (PySem.reprText s) := by
  have hq : PySem.reprQuote s = 34 ∨ PySem.reprQuote s = 39 := by
    unfold PySem.reprQuote
    split
    · exact .inl rfl
    · exact .inr rfl
  intro c hc
  have e : (PySem.reprText s).cps.toList = (s.cps.toList.foldl (fun out c => out ++ (Builtin.Str.reprChar (PySem.reprQuote s) c).toArray) #[PySem.reprQuote s]).toList ++ [PySem.reprQuote s] := by
    unfold PySem.reprText
    rw [Array.foldl_toList]
    exact Array.toList_push
  rw [e] at hc
  rcases List.mem_append.mp hc with z | z
  · refine fold_ok hq _ _ h (fun x hx => ?_) c z
    have : x = PySem.reprQuote s := by simpa using hx
    rw [this]; rcases hq with q | q <;> (rw [q]; decide)
  · have : c = PySem.reprQuote s := by simpa using z
    rw [this]; rcases hq with q | q <;> (rw [q]; decide)
theorem okA_from : ∀ (ts : List Str) (k : Nat) (acc : Str), okA acc → (∀ t ∈ ts, okA t) → okA (textFrom k acc ts)
  | [], k, acc, h, _ => h
  | t :: r, k, acc, h, ht => by
    refine okA_from r (k + 1) _ ((h.app ?_).app (ht t List.mem_cons_self)) fun x hx => ht x (List.mem_cons_of_mem _ hx)
    split
    · show okA (Str.ofString ", "); unfold okA; decide +kernel
    · show okA (Str.ofString ""); unfold okA; decide +kernel
theorem okA_list {ts : List Str} (h : ∀ t ∈ ts, okA t) : okA (listText ts) := by
  unfold listText
  refine (okA_from ts 0 _ ?_ h).app ?_
  · show okA (Str.ofString "["); unfold okA; decide +kernel
  · show okA (Str.ofString "]"); unfold okA; decide +kernel
theorem okA_join : ∀ ts : List Str, (∀ t ∈ ts, okA t) → okA (Str.join ", " ts)
  | [], _ => fun c hc => by
    have : (Str.join (Str.ofString ", ") []).cps.toList = [] := by decide +kernel
    rw [this] at hc; cases hc
  | [x], h => h x List.mem_cons_self
  | x :: y :: r, h => ((h x List.mem_cons_self).app (show okA (Str.ofString ", ") from by unfold okA; decide +kernel)).app (okA_join (y :: r) fun t ht => h t (List.mem_cons_of_mem _ ht))
theorem okA_tuple {ts : List Str} (h : ∀ t ∈ ts, okA t) : okA (tupleText ts) := by
  unfold tupleText
  refine ((show okA (Str.ofString "(") from by unfold okA; decide +kernel).app (okA_join ts h)).app ?_
  split
  · show okA (Str.ofString ",)"); unfold okA; decide +kernel
  · show okA (Str.ofString ")"); unfold okA; decide +kernel
structure Odd (d : D) : Prop where
  odd : oddV d = true
  sz : szOk (shownD d).length
  ok : okA (shownD d)
  lo : ∀ z, d = .str z → okA z
theorem odd_str {s : Str} (h : lowT 19 s) : Odd (.str s) := ⟨decide_eq_true (by have := h.1; omega), by
  have h0 := shown_le (.str s) (by unfold okC; exact List.all_eq_true.mpr fun c hc => decide_eq_true (Nat.lt_trans (h.2 c hc) (by decide)))
  unfold szD at h0
  have h1 := h.1
  exact szOk_of (by omega), by unfold shownD toP PyData.shown; exact okA_repr h.2, fun z e => by cases e; exact fun c hc => Nat.lt_trans (h.2 c hc) (by decide)⟩
/-- what the law expects of a text, of another value -/
def dueS (s : Str) : D := if (readP s).isSome then .lst [.str "returned", .str s] else .lst [.str "InvalidText", .str (shownD (.str s))]
theorem writ_S {s : Str} {t b : Int} (h : readP s = some (t, b)) : S (writL t b) = s := by
  rw [← (read_some h).1]; exact S_eta s
theorem ans_str {s : Str} (h : lowT 19 s) {Q Kx : D → Prop} (hQ : ∀ t b, readP s = some (t, b) → mild t → mild b → S (writL t b) = s → Q (rat t b)) (hk : readP s = none → Kx (.lst [.str "InvalidText", .str (shownD (.str s))])) : spx_Ratio_read [SV.val (.str s)] Q fun c ds => sp__law_sort c ds Kx := by
  have od := odd_str h
  refine ⟨.str s, rfl, od.odd, fun hn => ⟨.str s, rfl, rfl, od.odd, od.sz, hk hn⟩, fun t b hr => ?_⟩
  have hr : readP s = some (t, b) := hr
  obtain ⟨_, h2, h3⟩ := read_ok h.1 hr
  exact hQ t b hr h2 h3 (writ_S hr)
theorem ans_odd {d : D} (od : Odd d) (hn : readD d = none) (Kx : D → Prop) (hk : Kx (.lst [.str "InvalidText", .str (shownD d)])) (Q : D → Prop) : spx_Ratio_read [SV.val d] Q fun c ds => sp__law_sort c ds Kx :=
  ⟨d, rfl, od.odd, fun _ => ⟨d, rfl, rfl, od.odd, od.sz, hk⟩, fun t b hr => by rw [hn] at hr; cases hr⟩
end K02
namespace K02
open PySem DD
/-! ### the law's own reading -/
def dig (c : Nat) : Bool := decide (48 ≤ c) && decide (c ≤ 57)
def digD : D → Bool
  | .str z => z.cps.toList.all dig
  | _ => true
def bitB (l : List Nat) : Bool := !l.isEmpty && (match l with
  | 45 :: r => !r.isEmpty && r.all dig
  | r => r.all dig)
def ival (l : List Nat) : Int := match l with
  | 45 :: r => -(valL r : Int)
  | r => valL r
theorem num_dig (n : Nat) : (TL.numL n).all dig = true := List.all_eq_true.mpr fun c hc => by
  have := TL.numL_digits n c hc
  unfold dig; simp; omega
theorem bit_int (i : Int) : bitB (intL i) = true ∧ ival (intL i) = i := by
  have ne := TL.numL_ne i.natAbs
  have hv := num_val i.natAbs
  have hd := num_dig i.natAbs
  obtain ⟨c, cs, e, hc⟩ := num_45 i.natAbs
  rcases Int.lt_or_le i 0 with h | h
  · rw [int_neg h]
    constructor
    · show (!(TL.numL i.natAbs).isEmpty && (TL.numL i.natAbs).all dig) = true
      rw [hd, e]; rfl
    · show -(valL (TL.numL i.natAbs) : Int) = i
      rw [hv]; omega
  · rw [int_pos h]
    constructor
    · unfold bitB
      rw [e]
      split
      · rename_i z; exact absurd (List.cons.inj z).1 hc
      · rw [← e, hd, e]; rfl
    · unfold ival
      split
      · rename_i z; rw [e] at z; exact absurd (List.cons.inj z).1 hc
      · rw [hv]; omega
theorem dig_val {l : List Nat} (h : l.all dig = true) : PySem.NumText.AllDigits l ∧ valL l < 10 ^ l.length := by
  have h2 : PySem.NumText.AllDigits l := fun c hc => by
    have := List.all_eq_true.mp h c hc
    unfold dig at this; simp at this; omega
  refine ⟨h2, ?_⟩
  have := val_lt l 0 (fun c hc => (h2 c hc).2)
  unfold valL PySem.NumText.digitsVal
  simpa using this
theorem bit_val {y : Str} (h : bitB y.cps.toList = true) (hl : y.length ≤ 19) : PySem.intText? y = some (ival y.cps.toList) ∧ (ival y.cps.toList).natAbs < 10000000000000000000 := by
  have hn := str_len y
  unfold bitB at h
  rw [Bool.and_eq_true] at h
  obtain ⟨h1, h2⟩ := h
  have e19 : (10 : Nat) ^ 19 = 10000000000000000000 := by decide
  split at h2
  · rename_i r e
    rw [Bool.and_eq_true] at h2
    obtain ⟨d1, d2⟩ := dig_val h2.2
    have ev : ival y.cps.toList = -(valL r : Int) := by rw [e]; rfl
    rw [ev]
    rw [e, List.length_cons] at hn
    have : (10 : Nat) ^ r.length ≤ 10 ^ 19 := Nat.pow_le_pow_right (by omega) (by omega)
    exact ⟨PySem.intText_neg e d1 (by rintro rfl; exact absurd h2.1 (by decide)) (by omega), by omega⟩
  · rename_i r e
    obtain ⟨d1, d2⟩ := dig_val h2
    have ev : ival y.cps.toList = (valL y.cps.toList : Int) := by
      unfold ival
      split
      · rename_i z; exact absurd z (e _)
      · rfl
    rw [ev]
    have : (10 : Nat) ^ y.cps.toList.length ≤ 10 ^ 19 := Nat.pow_le_pow_right (by omega) (by omega)
    exact ⟨PySem.intText_digits d1 (by intro z; rw [z] at h1; exact absurd h1 (by decide)) (by omega), by omega⟩
theorem par1_some {c : Nat} : ∀ {l acc a b : List Nat}, TL.par [c] acc l = some (a, b) → ∃ p, a = acc ++ p ∧ l = p ++ c :: b ∧ c ∉ p
  | [], acc, a, b, h => by cases h
  | x :: l, acc, a, b, h => by
    by_cases hx : x = c
    · subst hx
      rw [TL.par_hit (by simp [TL.pre])] at h
      obtain ⟨e1, e2⟩ := Prod.mk.inj (Option.some.inj h)
      exact ⟨[], by rw [List.append_nil]; exact e1.symm, by rw [← e2]; rfl, by simp⟩
    · rw [TL.par_miss (by simp [TL.pre, hx])] at h
      obtain ⟨p, e1, e2, e3⟩ := par1_some h
      exact ⟨x :: p, by rw [e1, List.append_assoc]; rfl, by rw [e2]; rfl, by
        intro z
        rcases List.mem_cons.mp z with z | z
        · exact hx z.symm
        · exact e3 z⟩
theorem par1_none {c : Nat} : ∀ {l acc : List Nat}, TL.par [c] acc l = none → c ∉ l
  | [], acc, _ => by simp
  | x :: l, acc, h => by
    by_cases hx : x = c
    · subst hx
      rw [TL.par_hit (by simp [TL.pre])] at h; cases h
    · rw [TL.par_miss (by simp [TL.pre, hx])] at h
      intro z
      rcases List.mem_cons.mp z with z | z
      · exact hx z.symm
      · exact par1_none h z
def bitsOf (s : Str) : List Str := Txt.split s (Str.ofString "/")
theorem bits_tl (s : Str) : (bitsOf s).map TL.tl = TL.spl [47] 0 [] s.cps.toList := by
  unfold bitsOf
  rw [TL.split_spl _ _ (by rw [tl_slash]; simp) (TL.kind_ok (by decide +kernel)), tl_slash]
  try rfl
theorem bits_some {s : Str} {t b : Int} (h : readP s = some (t, b)) : (bitsOf s = [S (intL t)] ∧ b = 1) ∨ (bitsOf s = [S (intL t), S (intL b)] ∧ b ≠ 1) := by
  have e := (read_some h).1
  have z := bits_tl s
  rw [e] at z
  unfold writL at z
  by_cases h1 : b = 1
  · rw [if_pos h1, TL.spl_last1 (int_47 t)] at z
    exact .inl ⟨TL.map_tl_inj (by rw [z]; rfl), h1⟩
  · rw [if_neg h1] at z
    have := TL.spl_part1 (s := 47) (S := []) (p := intL t) (rest := intL b) (acc := []) (int_47 t)
    rw [show intL t ++ 47 :: intL b = intL t ++ ([47] ++ intL b) from rfl, this, TL.spl_last1 (int_47 b)] at z
    exact .inr ⟨TL.map_tl_inj (by rw [z]; rfl), h1⟩
theorem bits_ok {s y : Str} (hs : s.length ≤ 19) (h : y ∈ bitsOf s) : y.length ≤ 19 := by
  have : TL.tl y ∈ (bitsOf s).map TL.tl := List.mem_map_of_mem h
  rw [bits_tl] at this
  have h3 := spl_short this
  rw [List.length_nil, Nat.zero_add] at h3
  rw [TL.len_tl]
  rw [str_len] at hs
  omega
theorem bits_good {s : Str} {t b : Int} (h : readP s = some (t, b)) : (bitsOf s).length ≤ 2 ∧ ∀ y ∈ bitsOf s, bitB y.cps.toList = true := by
  rcases bits_some h with ⟨e, _⟩ | ⟨e, _⟩
  · rw [e]
    refine ⟨by simp, fun y hy => ?_⟩
    rw [List.mem_singleton.mp hy]
    exact (bit_int t).1
  · rw [e]
    refine ⟨by simp, fun y hy => ?_⟩
    rcases List.mem_cons.mp hy with rfl | hy
    · exact (bit_int t).1
    · rw [List.mem_singleton.mp hy]
      exact (bit_int b).1
theorem read_no {s y : Str} (hy : y ∈ bitsOf s) (hb : bitB y.cps.toList = false) : readP s = none := by
  cases h : readP s with
  | none => rfl
  | some p => rw [(bits_good (t := p.1) (b := p.2) h).2 y hy] at hb; cases hb
theorem spl_mem {S : List Nat} : ∀ {w : List Nat} {k : Nat} {acc p : List Nat}, p ∈ TL.spl S k acc w → ∀ c ∈ p, c ∈ acc ∨ c ∈ w
  | [], k, acc, p, h, c, hc => by rw [TL.spl_nil] at h; rw [List.mem_singleton.mp h] at hc; exact .inl hc
  | x :: w, k + 1, acc, p, h, c, hc => by
    have h : p ∈ TL.spl S k acc w := h
    rcases spl_mem h c hc with z | z
    · exact .inl z
    · exact .inr (List.mem_cons_of_mem _ z)
  | x :: w, 0, acc, p, h, c, hc => by
    cases hp : TL.pre S (x :: w) with
    | true =>
      rw [TL.spl_hit hp] at h
      rcases List.mem_cons.mp h with rfl | h
      · exact .inl hc
      · rcases spl_mem h c hc with z | z
        · cases z
        · exact .inr (List.mem_cons_of_mem _ z)
    | false =>
      rw [TL.spl_miss hp] at h
      rcases spl_mem h c hc with z | z
      · rcases List.mem_append.mp z with z | z
        · exact .inl z
        · rw [List.mem_singleton.mp z]; exact .inr List.mem_cons_self
      · exact .inr (List.mem_cons_of_mem _ z)
theorem bits_strOk {s y : Str} (hs : ∀ c ∈ s.cps.toList, c < 128) (h : y ∈ bitsOf s) : ∀ c ∈ y.cps.toList, c < 128 := by
  have : TL.tl y ∈ (bitsOf s).map TL.tl := List.mem_map_of_mem h
  rw [bits_tl] at this
  intro c hc
  rcases spl_mem this c hc with z | z
  · cases z
  · exact hs c z
theorem okD_str {y : Str} (h : ∀ c ∈ y.cps.toList, c < 128) (n : Nat) : okD (n + 1) (.str y) = true := by
  unfold okD
  exact okA.ok fun c hc => Nat.lt_trans (h c hc) (by decide)
theorem ed : eqD (.str (Str.ofString "")) (.str (Str.ofString "-")) = false := by decide +kernel
theorem spl_ne {S : List Nat} : ∀ {w : List Nat} {k : Nat} {acc : List Nat}, TL.spl S k acc w ≠ []
  | [], k, acc => by rw [TL.spl_nil]; simp
  | x :: w, k + 1, acc => spl_ne (w := w) (k := k) (acc := acc)
  | x :: w, 0, acc => by
    cases hp : TL.pre S (x :: w) with
    | true => rw [TL.spl_hit hp]; simp
    | false => rw [TL.spl_miss hp]; exact spl_ne
theorem tl_dash : TL.tl (Str.ofString "-") = [45] := by decide +kernel
theorem repl_dash (y : Str) : (repl1S y (Str.ofString "-") (Str.ofString "")).cps.toList = match TL.par [45] [] y.cps.toList with
    | some (a, b) => a ++ b
    | none => y.cps.toList := by
  have := repl1_par (x := y) (y := Str.ofString "-") (z := Str.ofString "") (by rw [tl_dash]; simp)
  rw [tl_dash] at this
  show TL.tl _ = _
  rw [this]
  show (match TL.par [45] [] (TL.tl y) with | some (a, b) => a ++ (TL.tl (Str.ofString "") ++ b) | none => TL.tl y) = match TL.par [45] [] (TL.tl y) with | some (a, b) => a ++ b | none => TL.tl y
  have e : TL.tl (Str.ofString "") = [] := by decide +kernel
  rw [e]
  cases TL.par [45] [] (TL.tl y) <;> rfl
/-- where both looks let a part through -/
theorem bit_pass {y : Str} (h1 : y.cps.toList ≠ []) (h2 : y.cps.toList ≠ [45]) (hd : (repl1S y (Str.ofString "-") (Str.ofString "")).cps.toList.all dig = true) (hh : 45 ∈ y.cps.toList → y.cps.toList.head? = some 45) : bitB y.cps.toList = true := by
  rw [repl_dash] at hd
  generalize y.cps.toList = l at *
  cases e : TL.par [45] [] l with
  | none =>
    rw [e] at hd
    have hn := par1_none e
    unfold bitB
    cases l with
    | nil => exact absurd rfl h1
    | cons c r =>
      split
      · rename_i z; rw [(List.cons.inj z).1] at hn; exact absurd List.mem_cons_self hn
      · simpa using hd
  | some ab =>
    obtain ⟨a, b⟩ := ab
    rw [e] at hd
    obtain ⟨p, ep, e2, e3⟩ := par1_some e
    rw [List.nil_append] at ep
    subst ep
    have hm : 45 ∈ l := by rw [e2]; simp
    have h3 := hh hm
    rw [e2] at h3
    cases a with
    | cons c r => rw [List.cons_append, List.head?_cons] at h3; rw [Option.some.inj h3] at e3; exact absurd List.mem_cons_self e3
    | nil =>
      rw [e2] at h2 ⊢
      dsimp only [List.nil_append] at *
      unfold bitB
      cases b with
      | nil => exact absurd rfl h2
      | cons c r => simpa using hd
theorem bit_stop {y : Str} (hb : bitB y.cps.toList = true) : (repl1S y (Str.ofString "-") (Str.ofString "")).cps.toList.all dig = true ∧ (45 ∈ y.cps.toList → y.cps.toList.head? = some 45) := by
  rw [repl_dash]
  unfold bitB at hb
  rw [Bool.and_eq_true] at hb
  obtain ⟨h1, h2⟩ := hb
  split at h2
  · rename_i r e
    rw [e, TL.par_hit (by simp [TL.pre])]
    rw [Bool.and_eq_true] at h2
    exact ⟨h2.2, fun _ => rfl⟩
  · rename_i r e
    have h0 : 45 ∉ y.cps.toList := fun z => by
      have := List.all_eq_true.mp h2 45 z
      exact absurd this (by decide)
    rw [TL.par_none1 h0]
    exact ⟨h2, fun z => absurd z h0⟩
theorem fm_dig {y : Str} (h : y.cps.toList.all dig = true) : (signs y).filterMap (fun x => if digD x = true then none else some x) = [] := by
  refine List.filterMap_eq_nil_iff.mpr fun x hx => ?_
  obtain ⟨c, hc, rfl⟩ := signs_mem hx
  have ec : digD (.str ⟨#[c]⟩) = dig c := by unfold digD; simp
  rw [ec, List.all_eq_true.mp h c hc]; rfl
theorem fm_dig2 {y : Str} (h : ¬ y.cps.toList.all dig = true) : (!eqD (.lst ((signs y).filterMap (fun x => if digD x = true then none else some x))) (.lst [])) = true := by
  cases e : (signs y).filterMap (fun x => if digD x = true then none else some x) with
  | cons _ _ => unfold eqD eqDs; rfl
  | nil =>
    exfalso
    apply h
    refine List.all_eq_true.mpr fun c hc => ?_
    have := List.filterMap_eq_nil_iff.mp e (.str ⟨#[c]⟩) (List.mem_map_of_mem hc)
    have ec : digD (.str ⟨#[c]⟩) = dig c := by unfold digD; simp
    rw [ec] at this
    split at this
    · assumption
    · cases this
theorem vc__law_read : ∀ svs Qd, sp__law_read svs Qd → svs.length = 1 ∧ w__law_read (endD Qd) (startD 5 svs) := by
  rintro svs Qd ⟨s, rfl, hl, hs, hq⟩
  refine ⟨rfl, ?_⟩; unfold w__law_read; simp only [startD, List.getElem?_cons_zero, List.getElem?_cons_succ, List.set_cons_zero, List.set_cons_succ, List.length_cons, List.length_nil, List.map_cons, List.map_nil, List.replicate, List.append_assoc, List.nil_append, List.cons_append, List.append_nil, List.foldl_cons, List.foldl_nil, Nat.reduceAdd, Nat.reduceSub, String.reduceBEq, Nat.reduceBEq, String.reduceEq, beq_self_eq_true, List.lookup, if_true, if_false, Bool.false_eq_true, true_and, and_true, Bool.not_true, Bool.not_false, reduceIte]
  refine seq_op fun K hK => ?_
  dsimp only [wSeq, wSkip, wBrk, wCnt, wNever, wRet, wRetN, wExpr, wIfS, wAsg, sto, wTru, truD, wTAnd, wTOr, wTNot, wTB, wYes, wAnd, wOr, wNot, wIf, wChain, wC, wVar, wOp, wUn, wNil, wCons, allV, wN, wTup, wLst, wd, wRng1, wRng2, wEnum, wZip, wIt, wFor, wLc, wIsi, isiD, tyN, wFld, wSetF, wCall, wCallK, wMeth, wMethK, wMethK0, wBagCall, wBagIx, wBagSet, wScrIx, wSlX, slDX, wSl, slD, wOptI, wNoI, wIxN, wLenN, wListR, wTupR, wR1, wR2, wJoin, joinD, fJs, fmtD, wPar, wPar3, wAsgT, wApp, wExt, wSetI, ownAt, wAug, wFrz, frzD, frz1, wLook, wLookT, prim, addD, subD, mulD, mulT, fdivD, modD, powD, negD, ltD, leD, gtD, geD, ordD, cmpD, isD, inSD, eqT, binO, lenT, strT, negT, lenD, strD, absD, intD, max2D, min2D, allD, anyD, listD, tupleD, reprD, revD, ixD, rgD, permS, pick, dflt, mkF, endD, endO, endI, startD, Pat.put, Pat.putL, blkD, wipeD, keepVB, cntBag, inW, wBmS, wBmL, splitD, partD, sindexD, findD, lindexD, sumD, sortID, wRng3, wCD, wCIx, wDispIx, wDispL, wPr, wAsgP, notLD, notS, wLook2, ownsD, prim, endP, ↓DD.ixK_0, ↓DD.ixK_1, ↓DD.ixK_2, ↓DD.ixK_3, ↓DD.ixK_4, ↓DD.ixK_5, ↓DD.ixK_6, ↓DD.ixK_7, ↓DD.ixK_8, ↓DD.ixK_9, ↓DD.ixK_10, ↓DD.ixK_11, ↓DD.ixK_12, ↓DD.ixK_13, DD.ite_tt, DD.ite_ft, DD.itp_tt, DD.itp_ft, DD.map_c, DD.map_n, DD.set_c0, DD.set_cs, DD.get_c0, DD.get_cs, List.getElem?_cons_zero, List.getElem?_cons_succ, List.set_cons_zero, List.set_cons_succ, List.length_cons, List.length_nil, List.map_cons, List.map_nil, List.replicate, List.append_assoc, List.nil_append, List.cons_append, List.append_nil, List.foldl_cons, List.foldl_nil, Nat.reduceAdd, Nat.reduceSub, String.reduceBEq, Nat.reduceBEq, String.reduceEq, beq_self_eq_true, List.lookup, if_true, if_false, Bool.false_eq_true, true_and, and_true, Bool.not_true, Bool.not_false, reduceIte]
  refine ⟨⟨by decide +kernel, szOk_of (by omega)⟩, hK _ ?_⟩
  clear hK K
  refine seq_op fun K hK => ?_
  dsimp only [wSeq, wSkip, wBrk, wCnt, wNever, wRet, wRetN, wExpr, wIfS, wAsg, sto, wTru, truD, wTAnd, wTOr, wTNot, wTB, wYes, wAnd, wOr, wNot, wIf, wChain, wC, wVar, wOp, wUn, wNil, wCons, allV, wN, wTup, wLst, wd, wRng1, wRng2, wEnum, wZip, wIt, wFor, wLc, wIsi, isiD, tyN, wFld, wSetF, wCall, wCallK, wMeth, wMethK, wMethK0, wBagCall, wBagIx, wBagSet, wScrIx, wSlX, slDX, wSl, slD, wOptI, wNoI, wIxN, wLenN, wListR, wTupR, wR1, wR2, wJoin, joinD, fJs, fmtD, wPar, wPar3, wAsgT, wApp, wExt, wSetI, ownAt, wAug, wFrz, frzD, frz1, wLook, wLookT, prim, addD, subD, mulD, mulT, fdivD, modD, powD, negD, ltD, leD, gtD, geD, ordD, cmpD, isD, inSD, eqT, binO, lenT, strT, negT, lenD, strD, absD, intD, max2D, min2D, allD, anyD, listD, tupleD, reprD, revD, ixD, rgD, permS, pick, dflt, mkF, endD, endO, endI, startD, Pat.put, Pat.putL, blkD, wipeD, keepVB, cntBag, inW, wBmS, wBmL, splitD, partD, sindexD, findD, lindexD, sumD, sortID, wRng3, wCD, wCIx, wDispIx, wDispL, wPr, wAsgP, notLD, notS, wLook2, ownsD, prim, endP, ↓DD.ixK_0, ↓DD.ixK_1, ↓DD.ixK_2, ↓DD.ixK_3, ↓DD.ixK_4, ↓DD.ixK_5, ↓DD.ixK_6, ↓DD.ixK_7, ↓DD.ixK_8, ↓DD.ixK_9, ↓DD.ixK_10, ↓DD.ixK_11, ↓DD.ixK_12, ↓DD.ixK_13, DD.ite_tt, DD.ite_ft, DD.itp_tt, DD.itp_ft, DD.map_c, DD.map_n, DD.set_c0, DD.set_cs, DD.get_c0, DD.get_cs, List.getElem?_cons_zero, List.getElem?_cons_succ, List.set_cons_zero, List.set_cons_succ, List.length_cons, List.length_nil, List.map_cons, List.map_nil, List.replicate, List.append_assoc, List.nil_append, List.cons_append, List.append_nil, List.foldl_cons, List.foldl_nil, Nat.reduceAdd, Nat.reduceSub, String.reduceBEq, Nat.reduceBEq, String.reduceEq, beq_self_eq_true, List.lookup, if_true, if_false, Bool.false_eq_true, true_and, and_true, Bool.not_true, Bool.not_false, reduceIte]
  change (if decide (2 < (((bitsOf s).map D.str).length : Int)) = true then _ else _)
  have none_ : readP s = none → Qd .non := fun h => by rw [h] at hq; exact hq
  split
  · rename_i h
    rw [decide_eq_true_eq, List.length_map] at h
    refine none_ ?_
    cases hr : readP s with
    | none => rfl
    | some p => have := (bits_good (t := p.1) (b := p.2) hr).1; omega
  · rename_i h
    rw [decide_eq_true_eq, List.length_map] at h
    refine compL_fm (fun y => if eqD (.str (Str.ofString "")) y || eqD (.str (Str.ofString "-")) y then some y else none) _ _ (szOk_of (by rw [List.length_map]; change (bitsOf s).length ≤ _; omega)) (fun y hy K1 hK1 => ?_) ?_
    · obtain ⟨z, hz, rfl⟩ := List.mem_map.mp hy
      dsimp only [wSeq, wSkip, wBrk, wCnt, wNever, wRet, wRetN, wExpr, wIfS, wAsg, sto, wTru, truD, wTAnd, wTOr, wTNot, wTB, wYes, wAnd, wOr, wNot, wIf, wChain, wC, wVar, wOp, wUn, wNil, wCons, allV, wN, wTup, wLst, wd, wRng1, wRng2, wEnum, wZip, wIt, wFor, wLc, wIsi, isiD, tyN, wFld, wSetF, wCall, wCallK, wMeth, wMethK, wMethK0, wBagCall, wBagIx, wBagSet, wScrIx, wSlX, slDX, wSl, slD, wOptI, wNoI, wIxN, wLenN, wListR, wTupR, wR1, wR2, wJoin, joinD, fJs, fmtD, wPar, wPar3, wAsgT, wApp, wExt, wSetI, ownAt, wAug, wFrz, frzD, frz1, wLook, wLookT, prim, addD, subD, mulD, mulT, fdivD, modD, powD, negD, ltD, leD, gtD, geD, ordD, cmpD, isD, inSD, eqT, binO, lenT, strT, negT, lenD, strD, absD, intD, max2D, min2D, allD, anyD, listD, tupleD, reprD, revD, ixD, rgD, permS, pick, dflt, mkF, endD, endO, endI, startD, Pat.put, Pat.putL, blkD, wipeD, keepVB, cntBag, inW, wBmS, wBmL, splitD, partD, sindexD, findD, lindexD, sumD, sortID, wRng3, wCD, wCIx, wDispIx, wDispL, wPr, wAsgP, notLD, notS, wLook2, ownsD, prim, endP, ↓DD.ixK_0, ↓DD.ixK_1, ↓DD.ixK_2, ↓DD.ixK_3, ↓DD.ixK_4, ↓DD.ixK_5, ↓DD.ixK_6, ↓DD.ixK_7, ↓DD.ixK_8, ↓DD.ixK_9, ↓DD.ixK_10, ↓DD.ixK_11, ↓DD.ixK_12, ↓DD.ixK_13, DD.ite_tt, DD.ite_ft, DD.itp_tt, DD.itp_ft, DD.map_c, DD.map_n, DD.set_c0, DD.set_cs, DD.get_c0, DD.get_cs, List.getElem?_cons_zero, List.getElem?_cons_succ, List.set_cons_zero, List.set_cons_succ, List.length_cons, List.length_nil, List.map_cons, List.map_nil, List.replicate, List.append_assoc, List.nil_append, List.cons_append, List.append_nil, List.foldl_cons, List.foldl_nil, Nat.reduceAdd, Nat.reduceSub, String.reduceBEq, Nat.reduceBEq, String.reduceEq, beq_self_eq_true, List.lookup, if_true, if_false, Bool.false_eq_true, true_and, and_true, Bool.not_true, Bool.not_false, reduceIte]
      refine ⟨szOk_of (by decide), .inl ⟨rfl, rfl⟩, ?_⟩
      have e : (idxD (D.str z) [D.str (Str.ofString ""), D.str (Str.ofString "-")]).isSome = (eqD (.str (Str.ofString "")) (.str z) || eqD (.str (Str.ofString "-")) (.str z)) := by
        dsimp only [idxD]
        by_cases h1 : eqD (.str (Str.ofString "")) (.str z) = true
        · rw [if_pos h1, h1]; rfl
        · rw [if_neg h1]
          by_cases h2 : eqD (.str (Str.ofString "-")) (.str z) = true
          · rw [if_pos h2, h2, Bool.or_true]; rfl
          · rw [if_neg h2, (Bool.not_eq_true _).mp h1, (Bool.not_eq_true _).mp h2]; rfl
      rw [e]
      split
      · rename_i hc; rw [if_pos hc] at hK1; exact hK1
      · rename_i hc; rw [if_neg hc] at hK1; exact hK1
    · refine ⟨szOk_of (by decide), ⟨?_, rfl⟩, ?_⟩
      · unfold okD
        refine List.all_eq_true.mpr fun y hy => ?_
        obtain ⟨z, hz, e⟩ := List.mem_filterMap.mp hy
        obtain ⟨u, hu, rfl⟩ := List.mem_map.mp hz
        split at e
        · cases e; exact okD_str (bits_strOk hs hu) 28
        · cases e
      · change (if (!eqD (D.lst (List.filterMap _ ((bitsOf s).map D.str))) (D.lst [])) = true then _ else K [_, some (SV.val (D.lst ((bitsOf s).map D.str))), none, none, none])
        cases hf : List.filterMap (fun y => if eqD (.str (Str.ofString "")) y || eqD (.str (Str.ofString "-")) y then some y else none) ((bitsOf s).map D.str) with
        | cons d ds =>
          rw [if_pos (by unfold eqD eqDs; rfl)]
          refine none_ ?_
          have hd : d ∈ List.filterMap (fun y => if eqD (.str (Str.ofString "")) y || eqD (.str (Str.ofString "-")) y then some y else none) ((bitsOf s).map D.str) := by rw [hf]; exact List.mem_cons_self
          obtain ⟨z, hz, e⟩ := List.mem_filterMap.mp hd
          obtain ⟨u, hu, rfl⟩ := List.mem_map.mp hz
          refine read_no hu ?_
          split at e
          · rename_i hc
            rw [Bool.or_eq_true] at hc
            rcases hc with hc | hc
            · have : Str.ofString "" = u := eq_of_beq (show (Str.ofString "" == u) = true from hc)
              rw [← this]; decide +kernel
            · have : Str.ofString "-" = u := eq_of_beq (show (Str.ofString "-" == u) = true from hc)
              rw [← this]; decide +kernel
          · cases e
        | nil =>
          rw [if_neg (by unfold eqD eqDs; decide)]
          have hn : ∀ u ∈ bitsOf s, u.cps.toList ≠ [] ∧ u.cps.toList ≠ [45] := by
            intro u hu
            have := List.filterMap_eq_nil_iff.mp hf (.str u) (List.mem_map_of_mem hu)
            split at this
            · cases this
            · rename_i hc
              rw [Bool.or_eq_true, not_or] at hc
              refine ⟨fun z => hc.1 ?_, fun z => hc.2 ?_⟩
              · have : Str.ofString "" = u := str_ext (by rw [z]; decide +kernel)
                rw [this]; exact beq_self_eq_true u
              · have : Str.ofString "-" = u := str_ext (by rw [z]; decide +kernel)
                rw [this]; exact beq_self_eq_true u
          refine hK _ ?_
          clear hK K
          refine seq_op fun K hK => ?_
          dsimp only [wSeq, wSkip, wBrk, wCnt, wNever, wRet, wRetN, wExpr, wIfS, wAsg, sto, wTru, truD, wTAnd, wTOr, wTNot, wTB, wYes, wAnd, wOr, wNot, wIf, wChain, wC, wVar, wOp, wUn, wNil, wCons, allV, wN, wTup, wLst, wd, wRng1, wRng2, wEnum, wZip, wIt, wFor, wLc, wIsi, isiD, tyN, wFld, wSetF, wCall, wCallK, wMeth, wMethK, wMethK0, wBagCall, wBagIx, wBagSet, wScrIx, wSlX, slDX, wSl, slD, wOptI, wNoI, wIxN, wLenN, wListR, wTupR, wR1, wR2, wJoin, joinD, fJs, fmtD, wPar, wPar3, wAsgT, wApp, wExt, wSetI, ownAt, wAug, wFrz, frzD, frz1, wLook, wLookT, prim, addD, subD, mulD, mulT, fdivD, modD, powD, negD, ltD, leD, gtD, geD, ordD, cmpD, isD, inSD, eqT, binO, lenT, strT, negT, lenD, strD, absD, intD, max2D, min2D, allD, anyD, listD, tupleD, reprD, revD, ixD, rgD, permS, pick, dflt, mkF, endD, endO, endI, startD, Pat.put, Pat.putL, blkD, wipeD, keepVB, cntBag, inW, wBmS, wBmL, splitD, partD, sindexD, findD, lindexD, sumD, sortID, wRng3, wCD, wCIx, wDispIx, wDispL, wPr, wAsgP, notLD, notS, wLook2, ownsD, prim, endP, ↓DD.ixK_0, ↓DD.ixK_1, ↓DD.ixK_2, ↓DD.ixK_3, ↓DD.ixK_4, ↓DD.ixK_5, ↓DD.ixK_6, ↓DD.ixK_7, ↓DD.ixK_8, ↓DD.ixK_9, ↓DD.ixK_10, ↓DD.ixK_11, ↓DD.ixK_12, ↓DD.ixK_13, DD.ite_tt, DD.ite_ft, DD.itp_tt, DD.itp_ft, DD.map_c, DD.map_n, DD.set_c0, DD.set_cs, DD.get_c0, DD.get_cs, List.getElem?_cons_zero, List.getElem?_cons_succ, List.set_cons_zero, List.set_cons_succ, List.length_cons, List.length_nil, List.map_cons, List.map_nil, List.replicate, List.append_assoc, List.nil_append, List.cons_append, List.append_nil, List.foldl_cons, List.foldl_nil, Nat.reduceAdd, Nat.reduceSub, String.reduceBEq, Nat.reduceBEq, String.reduceEq, beq_self_eq_true, List.lookup, if_true, if_false, Bool.false_eq_true, true_and, and_true, Bool.not_true, Bool.not_false, reduceIte]
          refine forL_rec (fun xs δ => ∃ (ys : List Str) (o2 o3 : Option SV), xs = ys.map D.str ∧ (∀ y ∈ ys, y ∈ bitsOf s) ∧ (∀ y ∈ bitsOf s, y ∈ ys ∨ bitB y.cps.toList = true) ∧ δ = [some (SV.val (D.str s)), some (SV.val (D.lst ((bitsOf s).map D.str))), o2, o3, none]) _ _
            ⟨bitsOf s, none, none, rfl, fun y h => h, fun y h => .inl h, rfl⟩ ?_ ?_
          · rintro δ ⟨ys, o2, o3, e, -, hb, rfl⟩
            have : ys = [] := by cases ys with
              | nil => rfl
              | cons y ys => exact absurd e (by simp)
            subst this
            have hb : ∀ y ∈ bitsOf s, bitB y.cps.toList = true := fun y hy => (hb y hy).resolve_left (by simp)
            refine hK _ ?_
            clear hK K
            refine seq_op fun K hK => ?_
            have fin : ∀ x y : Int, x.natAbs < 10000000000000000000 → y.natAbs < 10000000000000000000 → (∀ t b, readP s = some (t, b) → t = x ∧ b = y) → K [some (SV.val (D.str s)), some (SV.val (D.lst ((bitsOf s).map D.str))), o2, o3, some (SV.val (D.tup [D.int x, D.int y]))] := by
              intro x y hx hy hu
              have sm : ∀ z : Int, z.natAbs < 10000000000000000000 → small z ∧ mild z := fun z hz => ⟨Nat.lt_of_lt_of_le (m := 2 ^ 100) (by omega) (Nat.pow_le_pow_right (by decide) (by decide)), by unfold mild; rw [e20]; omega⟩
              refine hK _ ?_
              clear hK K
              refine seq_op fun K hK => ?_
              dsimp only [wSeq, wSkip, wBrk, wCnt, wNever, wRet, wRetN, wExpr, wIfS, wAsg, sto, wTru, truD, wTAnd, wTOr, wTNot, wTB, wYes, wAnd, wOr, wNot, wIf, wChain, wC, wVar, wOp, wUn, wNil, wCons, allV, wN, wTup, wLst, wd, wRng1, wRng2, wEnum, wZip, wIt, wFor, wLc, wIsi, isiD, tyN, wFld, wSetF, wCall, wCallK, wMeth, wMethK, wMethK0, wBagCall, wBagIx, wBagSet, wScrIx, wSlX, slDX, wSl, slD, wOptI, wNoI, wIxN, wLenN, wListR, wTupR, wR1, wR2, wJoin, joinD, fJs, fmtD, wPar, wPar3, wAsgT, wApp, wExt, wSetI, ownAt, wAug, wFrz, frzD, frz1, wLook, wLookT, prim, addD, subD, mulD, mulT, fdivD, modD, powD, negD, ltD, leD, gtD, geD, ordD, cmpD, isD, inSD, eqT, binO, lenT, strT, negT, lenD, strD, absD, intD, max2D, min2D, allD, anyD, listD, tupleD, reprD, revD, ixD, rgD, permS, pick, dflt, mkF, endD, endO, endI, startD, Pat.put, Pat.putL, blkD, wipeD, keepVB, cntBag, inW, wBmS, wBmL, splitD, partD, sindexD, findD, lindexD, sumD, sortID, wRng3, wCD, wCIx, wDispIx, wDispL, wPr, wAsgP, notLD, notS, wLook2, ownsD, prim, endP, ↓DD.ixK_0, ↓DD.ixK_1, ↓DD.ixK_2, ↓DD.ixK_3, ↓DD.ixK_4, ↓DD.ixK_5, ↓DD.ixK_6, ↓DD.ixK_7, ↓DD.ixK_8, ↓DD.ixK_9, ↓DD.ixK_10, ↓DD.ixK_11, ↓DD.ixK_12, ↓DD.ixK_13, DD.ite_tt, DD.ite_ft, DD.itp_tt, DD.itp_ft, DD.map_c, DD.map_n, DD.set_c0, DD.set_cs, DD.get_c0, DD.get_cs, List.getElem?_cons_zero, List.getElem?_cons_succ, List.set_cons_zero, List.set_cons_succ, List.length_cons, List.length_nil, List.map_cons, List.map_nil, List.replicate, List.append_assoc, List.nil_append, List.cons_append, List.append_nil, List.foldl_cons, List.foldl_nil, Nat.reduceAdd, Nat.reduceSub, String.reduceBEq, Nat.reduceBEq, String.reduceEq, beq_self_eq_true, List.lookup, if_true, if_false, Bool.false_eq_true, true_and, and_true, Bool.not_true, Bool.not_false, reduceIte, sp__law_low, sp__law_written]
              by_cases hy1 : y < 1
              · rw [if_pos (decide_eq_true hy1)]
                refine none_ ?_
                cases hr : readP s with
                | none => rfl
                | some p =>
                  have := hu _ _ (show readP s = some (p.1, p.2) from hr)
                  have h2 := (read_ok hl (show readP s = some (p.1, p.2) from hr)).1.1
                  omega
              · rw [if_neg (by rw [decide_eq_true_eq]; exact hy1)]
                refine ⟨by decide, x, y, rfl, ⟨by omega, (sm x hx).1, (sm y hy).1⟩, ⟨rfl, rfl⟩, ?_⟩
                by_cases hlow : (x / Int.gcd x y = x ∧ y / Int.gcd x y = y)
                · rw [if_neg (by rw [hlow.1, hlow.2]; unfold eqD eqDs; simp [eqD, eqDs])]
                  have lw : low x y := by
                    have := (low_of (x := x) (y := y) (by omega)).1
                    rw [hlow.1, hlow.2] at this; exact this
                  refine ⟨by decide, x, y, rfl, (sm x hx).2, (sm y hy).2, ?_⟩
                  by_cases hw : s.cps.toList = writL x y
                  · have : S (writL x y) = s := by rw [← hw]; exact S_eta s
                    rw [this, if_neg (by simp)]
                    refine hK _ ?_
                    rw [read_writ lw hw] at hq
                    exact hq
                  · rw [if_pos (by rw [Bool.not_eq_true', beq_eq_false_iff_ne]; rintro rfl; exact hw rfl)]
                    refine none_ ?_
                    cases hr : readP s with
                    | none => rfl
                    | some p =>
                      have := hu _ _ (show readP s = some (p.1, p.2) from hr)
                      have h2 := (read_some (show readP s = some (p.1, p.2) from hr)).1
                      rw [this.1, this.2] at h2
                      exact absurd h2 hw
                · rw [if_pos (by
                    rw [Bool.not_eq_true', ← Bool.not_eq_true]
                    intro z
                    unfold eqD eqDs at z
                    simp [eqD, eqDs] at z
                    exact hlow z)]
                  refine none_ ?_
                  cases hr : readP s with
                  | none => rfl
                  | some p =>
                    have := hu _ _ (show readP s = some (p.1, p.2) from hr)
                    have h2 := (read_ok hl (show readP s = some (p.1, p.2) from hr)).1
                    rw [this.1, this.2] at h2
                    refine absurd ?_ hlow
                    rw [h2.2]
                    simp
            have hv : ∀ y ∈ bitsOf s, PySem.intText? y = some (ival y.cps.toList) ∧ (ival y.cps.toList).natAbs < 10000000000000000000 := fun y hy => bit_val (hb y hy) (bits_ok hl hy)
            have hz : ∀ y ∈ bitsOf s, y.length ≤ 19 := fun y hy => bits_ok hl hy
            have hd := fun t b (h : readP s = some (t, b)) => bits_some h
            have hne : bitsOf s ≠ [] := by
              intro z
              have := bits_tl s
              rw [z] at this
              exact spl_ne this.symm
            cases hb0 : bitsOf s with
            | nil => exact absurd hb0 hne
            | cons y0 r =>
              rw [hb0] at hv hd fin h hz
              have v0 := hv y0 List.mem_cons_self
              have z0 := hz y0 List.mem_cons_self
              cases r with
              | nil =>
                dsimp only [wSeq, wSkip, wBrk, wCnt, wNever, wRet, wRetN, wExpr, wIfS, wAsg, sto, wTru, truD, wTAnd, wTOr, wTNot, wTB, wYes, wAnd, wOr, wNot, wIf, wChain, wC, wVar, wOp, wUn, wNil, wCons, allV, wN, wTup, wLst, wd, wRng1, wRng2, wEnum, wZip, wIt, wFor, wLc, wIsi, isiD, tyN, wFld, wSetF, wCall, wCallK, wMeth, wMethK, wMethK0, wBagCall, wBagIx, wBagSet, wScrIx, wSlX, slDX, wSl, slD, wOptI, wNoI, wIxN, wLenN, wListR, wTupR, wR1, wR2, wJoin, joinD, fJs, fmtD, wPar, wPar3, wAsgT, wApp, wExt, wSetI, ownAt, wAug, wFrz, frzD, frz1, wLook, wLookT, prim, addD, subD, mulD, mulT, fdivD, modD, powD, negD, ltD, leD, gtD, geD, ordD, cmpD, isD, inSD, eqT, binO, lenT, strT, negT, lenD, strD, absD, intD, max2D, min2D, allD, anyD, listD, tupleD, reprD, revD, ixD, rgD, permS, pick, dflt, mkF, endD, endO, endI, startD, Pat.put, Pat.putL, blkD, wipeD, keepVB, cntBag, inW, wBmS, wBmL, splitD, partD, sindexD, findD, lindexD, sumD, sortID, wRng3, wCD, wCIx, wDispIx, wDispL, wPr, wAsgP, notLD, notS, wLook2, ownsD, prim, endP, ↓DD.ixK_0, ↓DD.ixK_1, ↓DD.ixK_2, ↓DD.ixK_3, ↓DD.ixK_4, ↓DD.ixK_5, ↓DD.ixK_6, ↓DD.ixK_7, ↓DD.ixK_8, ↓DD.ixK_9, ↓DD.ixK_10, ↓DD.ixK_11, ↓DD.ixK_12, ↓DD.ixK_13, DD.ite_tt, DD.ite_ft, DD.itp_tt, DD.itp_ft, DD.map_c, DD.map_n, DD.set_c0, DD.set_cs, DD.get_c0, DD.get_cs, List.getElem?_cons_zero, List.getElem?_cons_succ, List.set_cons_zero, List.set_cons_succ, List.length_cons, List.length_nil, List.map_cons, List.map_nil, List.replicate, List.append_assoc, List.nil_append, List.cons_append, List.append_nil, List.foldl_cons, List.foldl_nil, Nat.reduceAdd, Nat.reduceSub, String.reduceBEq, Nat.reduceBEq, String.reduceEq, beq_self_eq_true, List.lookup, if_true, if_false, Bool.false_eq_true, true_and, and_true, Bool.not_true, Bool.not_false, reduceIte]
                refine ⟨by omega, ?_⟩
                rw [v0.1]
                dsimp only
                rw [if_neg (by simp)]
                refine ⟨szOk_of (by decide), fin _ 1 v0.2 (by decide) fun t b hr => ?_⟩
                rcases hd t b hr with ⟨e, e1⟩ | ⟨e, e1⟩
                · obtain ⟨rfl, _⟩ := List.cons.inj e
                  exact ⟨(bit_int t).2.symm, e1⟩
                · exact absurd (congrArg List.length e) (by simp)
              | cons y1 r =>
                have v1 := hv y1 (List.mem_cons_of_mem _ List.mem_cons_self)
                have z1 := hz y1 (List.mem_cons_of_mem _ List.mem_cons_self)
                cases r with
                | cons _ _ => exfalso; apply h; simp; omega
                | nil =>
                  dsimp only [wSeq, wSkip, wBrk, wCnt, wNever, wRet, wRetN, wExpr, wIfS, wAsg, sto, wTru, truD, wTAnd, wTOr, wTNot, wTB, wYes, wAnd, wOr, wNot, wIf, wChain, wC, wVar, wOp, wUn, wNil, wCons, allV, wN, wTup, wLst, wd, wRng1, wRng2, wEnum, wZip, wIt, wFor, wLc, wIsi, isiD, tyN, wFld, wSetF, wCall, wCallK, wMeth, wMethK, wMethK0, wBagCall, wBagIx, wBagSet, wScrIx, wSlX, slDX, wSl, slD, wOptI, wNoI, wIxN, wLenN, wListR, wTupR, wR1, wR2, wJoin, joinD, fJs, fmtD, wPar, wPar3, wAsgT, wApp, wExt, wSetI, ownAt, wAug, wFrz, frzD, frz1, wLook, wLookT, prim, addD, subD, mulD, mulT, fdivD, modD, powD, negD, ltD, leD, gtD, geD, ordD, cmpD, isD, inSD, eqT, binO, lenT, strT, negT, lenD, strD, absD, intD, max2D, min2D, allD, anyD, listD, tupleD, reprD, revD, ixD, rgD, permS, pick, dflt, mkF, endD, endO, endI, startD, Pat.put, Pat.putL, blkD, wipeD, keepVB, cntBag, inW, wBmS, wBmL, splitD, partD, sindexD, findD, lindexD, sumD, sortID, wRng3, wCD, wCIx, wDispIx, wDispL, wPr, wAsgP, notLD, notS, wLook2, ownsD, prim, endP, ↓DD.ixK_0, ↓DD.ixK_1, ↓DD.ixK_2, ↓DD.ixK_3, ↓DD.ixK_4, ↓DD.ixK_5, ↓DD.ixK_6, ↓DD.ixK_7, ↓DD.ixK_8, ↓DD.ixK_9, ↓DD.ixK_10, ↓DD.ixK_11, ↓DD.ixK_12, ↓DD.ixK_13, DD.ite_tt, DD.ite_ft, DD.itp_tt, DD.itp_ft, DD.map_c, DD.map_n, DD.set_c0, DD.set_cs, DD.get_c0, DD.get_cs, List.getElem?_cons_zero, List.getElem?_cons_succ, List.set_cons_zero, List.set_cons_succ, List.length_cons, List.length_nil, List.map_cons, List.map_nil, List.replicate, List.append_assoc, List.nil_append, List.cons_append, List.append_nil, List.foldl_cons, List.foldl_nil, Nat.reduceAdd, Nat.reduceSub, String.reduceBEq, Nat.reduceBEq, String.reduceEq, beq_self_eq_true, List.lookup, if_true, if_false, Bool.false_eq_true, true_and, and_true, Bool.not_true, Bool.not_false, reduceIte]
                  refine ⟨by omega, ?_⟩
                  rw [v0.1]
                  dsimp only
                  rw [if_pos (by simp)]
                  refine ⟨by omega, ?_⟩
                  rw [v1.1]
                  refine ⟨szOk_of (by decide), fin _ _ v0.2 v1.2 fun t b hr => ?_⟩
                  rcases hd t b hr with ⟨e, e1⟩ | ⟨e, e1⟩
                  · exact absurd (congrArg List.length e) (by simp)
                  · obtain ⟨rfl, e5⟩ := List.cons.inj e
                    obtain ⟨rfl, _⟩ := List.cons.inj e5
                    exact ⟨(bit_int t).2.symm, (bit_int b).2.symm⟩
          · rintro x xs K3 hK3 δ ⟨ys, o2, o3, e, hin, hb, rfl⟩
            cases ys with
            | nil => exact absurd e (by simp)
            | cons y ys =>
              obtain ⟨rfl, rfl⟩ := List.cons.inj e
              dsimp only [Pat.put, DD.set_c0, DD.set_cs]
              refine seq_op fun K4 hK4 => ?_
              dsimp only [wSeq, wSkip, wBrk, wCnt, wNever, wRet, wRetN, wExpr, wIfS, wAsg, sto, wTru, truD, wTAnd, wTOr, wTNot, wTB, wYes, wAnd, wOr, wNot, wIf, wChain, wC, wVar, wOp, wUn, wNil, wCons, allV, wN, wTup, wLst, wd, wRng1, wRng2, wEnum, wZip, wIt, wFor, wLc, wIsi, isiD, tyN, wFld, wSetF, wCall, wCallK, wMeth, wMethK, wMethK0, wBagCall, wBagIx, wBagSet, wScrIx, wSlX, slDX, wSl, slD, wOptI, wNoI, wIxN, wLenN, wListR, wTupR, wR1, wR2, wJoin, joinD, fJs, fmtD, wPar, wPar3, wAsgT, wApp, wExt, wSetI, ownAt, wAug, wFrz, frzD, frz1, wLook, wLookT, prim, addD, subD, mulD, mulT, fdivD, modD, powD, negD, ltD, leD, gtD, geD, ordD, cmpD, isD, inSD, eqT, binO, lenT, strT, negT, lenD, strD, absD, intD, max2D, min2D, allD, anyD, listD, tupleD, reprD, revD, ixD, rgD, permS, pick, dflt, mkF, endD, endO, endI, startD, Pat.put, Pat.putL, blkD, wipeD, keepVB, cntBag, inW, wBmS, wBmL, splitD, partD, sindexD, findD, lindexD, sumD, sortID, wRng3, wCD, wCIx, wDispIx, wDispL, wPr, wAsgP, notLD, notS, wLook2, ownsD, prim, endP, ↓DD.ixK_0, ↓DD.ixK_1, ↓DD.ixK_2, ↓DD.ixK_3, ↓DD.ixK_4, ↓DD.ixK_5, ↓DD.ixK_6, ↓DD.ixK_7, ↓DD.ixK_8, ↓DD.ixK_9, ↓DD.ixK_10, ↓DD.ixK_11, ↓DD.ixK_12, ↓DD.ixK_13, DD.ite_tt, DD.ite_ft, DD.itp_tt, DD.itp_ft, DD.map_c, DD.map_n, DD.set_c0, DD.set_cs, DD.get_c0, DD.get_cs, List.getElem?_cons_zero, List.getElem?_cons_succ, List.set_cons_zero, List.set_cons_succ, List.length_cons, List.length_nil, List.map_cons, List.map_nil, List.replicate, List.append_assoc, List.nil_append, List.cons_append, List.append_nil, List.foldl_cons, List.foldl_nil, Nat.reduceAdd, Nat.reduceSub, String.reduceBEq, Nat.reduceBEq, String.reduceEq, beq_self_eq_true, List.lookup, if_true, if_false, Bool.false_eq_true, true_and, and_true, Bool.not_true, Bool.not_false, reduceIte, repl1D]
              refine ⟨by have := bits_ok hl (hin y List.mem_cons_self); have l0 : (Str.ofString "").length = 0 := by decide +kernel
                         omega, ?_⟩
              have hyin := hin y List.mem_cons_self
              have hrl : (repl1S y (Str.ofString "-") (Str.ofString "")).length ≤ 19 := by
                have := bits_ok hl hyin
                rw [str_len] at this
                rw [str_len, repl_dash]
                cases e : TL.par [45] [] y.cps.toList with
                | none => exact this
                | some p =>
                  obtain ⟨a, b⟩ := p
                  obtain ⟨p, rfl, e2, _⟩ := par1_some e
                  rw [e2] at this
                  simp at this ⊢
                  omega
              refine compL_fm (fun x => if digD x = true then none else some x) _ _ (szOk_of (by unfold signs; rw [List.length_map, ← str_len]; omega)) (fun x hx K5 hK5 => ?_) ?_
              · obtain ⟨c, hc, rfl⟩ := signs_mem hx
                dsimp only [wSeq, wSkip, wBrk, wCnt, wNever, wRet, wRetN, wExpr, wIfS, wAsg, sto, wTru, truD, wTAnd, wTOr, wTNot, wTB, wYes, wAnd, wOr, wNot, wIf, wChain, wC, wVar, wOp, wUn, wNil, wCons, allV, wN, wTup, wLst, wd, wRng1, wRng2, wEnum, wZip, wIt, wFor, wLc, wIsi, isiD, tyN, wFld, wSetF, wCall, wCallK, wMeth, wMethK, wMethK0, wBagCall, wBagIx, wBagSet, wScrIx, wSlX, slDX, wSl, slD, wOptI, wNoI, wIxN, wLenN, wListR, wTupR, wR1, wR2, wJoin, joinD, fJs, fmtD, wPar, wPar3, wAsgT, wApp, wExt, wSetI, ownAt, wAug, wFrz, frzD, frz1, wLook, wLookT, prim, addD, subD, mulD, mulT, fdivD, modD, powD, negD, ltD, leD, gtD, geD, ordD, cmpD, isD, inSD, eqT, binO, lenT, strT, negT, lenD, strD, absD, intD, max2D, min2D, allD, anyD, listD, tupleD, reprD, revD, ixD, rgD, permS, pick, dflt, mkF, endD, endO, endI, startD, Pat.put, Pat.putL, blkD, wipeD, keepVB, cntBag, inW, wBmS, wBmL, splitD, partD, sindexD, findD, lindexD, sumD, sortID, wRng3, wCD, wCIx, wDispIx, wDispL, wPr, wAsgP, notLD, notS, wLook2, ownsD, prim, endP, ↓DD.ixK_0, ↓DD.ixK_1, ↓DD.ixK_2, ↓DD.ixK_3, ↓DD.ixK_4, ↓DD.ixK_5, ↓DD.ixK_6, ↓DD.ixK_7, ↓DD.ixK_8, ↓DD.ixK_9, ↓DD.ixK_10, ↓DD.ixK_11, ↓DD.ixK_12, ↓DD.ixK_13, DD.ite_tt, DD.ite_ft, DD.itp_tt, DD.itp_ft, DD.map_c, DD.map_n, DD.set_c0, DD.set_cs, DD.get_c0, DD.get_cs, List.getElem?_cons_zero, List.getElem?_cons_succ, List.set_cons_zero, List.set_cons_succ, List.length_cons, List.length_nil, List.map_cons, List.map_nil, List.replicate, List.append_assoc, List.nil_append, List.cons_append, List.append_nil, List.foldl_cons, List.foldl_nil, Nat.reduceAdd, Nat.reduceSub, String.reduceBEq, Nat.reduceBEq, String.reduceEq, beq_self_eq_true, List.lookup, if_true, if_false, Bool.false_eq_true, true_and, and_true, Bool.not_true, Bool.not_false, reduceIte]
                rw [occ_one, dig_in]
                have ec : digD (.str ⟨#[c]⟩) = dig c := by unfold digD; simp
                rw [ec] at hK5
                change if (!dig c) = true then _ else _
                cases hdc : dig c with
                | true => rw [hdc, if_pos rfl] at hK5; rw [if_neg (by decide)]; exact hK5
                | false => rw [hdc, if_neg (by decide)] at hK5; rw [if_pos (by decide)]; exact hK5
              · refine ⟨szOk_of (by decide), ⟨?_, rfl⟩, ?_⟩
                · unfold okD
                  refine List.all_eq_true.mpr fun x hx => ?_
                  obtain ⟨z, hz, e⟩ := List.mem_filterMap.mp hx
                  obtain ⟨c, hc, rfl⟩ := signs_mem hz
                  split at e
                  · cases e
                  · cases e
                    refine okD_str (fun x hx => ?_) 28
                    have : x = c := by simpa using hx
                    rw [this]
                    refine bits_strOk hs hyin c ?_
                    rw [repl_dash] at hc
                    cases e : TL.par [45] [] y.cps.toList with
                    | none => rw [e] at hc; exact hc
                    | some ab =>
                      obtain ⟨a, b⟩ := ab
                      rw [e] at hc
                      obtain ⟨p, ep, e2, _⟩ := par1_some e
                      rw [List.nil_append] at ep
                      subst ep
                      rw [e2]
                      rcases List.mem_append.mp hc with h | h
                      · exact List.mem_append_left _ h
                      · exact List.mem_append_right _ (List.mem_cons_of_mem _ h)
                · by_cases hall : (repl1S y (Str.ofString "-") (Str.ofString "")).cps.toList.all dig = true
                  · rw [fm_dig hall, if_neg (by unfold eqD eqDs; decide)]
                    refine hK4 _ ?_
                    clear hK4 K4
                    dsimp only [wSeq, wSkip, wBrk, wCnt, wNever, wRet, wRetN, wExpr, wIfS, wAsg, sto, wTru, truD, wTAnd, wTOr, wTNot, wTB, wYes, wAnd, wOr, wNot, wIf, wChain, wC, wVar, wOp, wUn, wNil, wCons, allV, wN, wTup, wLst, wd, wRng1, wRng2, wEnum, wZip, wIt, wFor, wLc, wIsi, isiD, tyN, wFld, wSetF, wCall, wCallK, wMeth, wMethK, wMethK0, wBagCall, wBagIx, wBagSet, wScrIx, wSlX, slDX, wSl, slD, wOptI, wNoI, wIxN, wLenN, wListR, wTupR, wR1, wR2, wJoin, joinD, fJs, fmtD, wPar, wPar3, wAsgT, wApp, wExt, wSetI, ownAt, wAug, wFrz, frzD, frz1, wLook, wLookT, prim, addD, subD, mulD, mulT, fdivD, modD, powD, negD, ltD, leD, gtD, geD, ordD, cmpD, isD, inSD, eqT, binO, lenT, strT, negT, lenD, strD, absD, intD, max2D, min2D, allD, anyD, listD, tupleD, reprD, revD, ixD, rgD, permS, pick, dflt, mkF, endD, endO, endI, startD, Pat.put, Pat.putL, blkD, wipeD, keepVB, cntBag, inW, wBmS, wBmL, splitD, partD, sindexD, findD, lindexD, sumD, sortID, wRng3, wCD, wCIx, wDispIx, wDispL, wPr, wAsgP, notLD, notS, wLook2, ownsD, prim, endP, ↓DD.ixK_0, ↓DD.ixK_1, ↓DD.ixK_2, ↓DD.ixK_3, ↓DD.ixK_4, ↓DD.ixK_5, ↓DD.ixK_6, ↓DD.ixK_7, ↓DD.ixK_8, ↓DD.ixK_9, ↓DD.ixK_10, ↓DD.ixK_11, ↓DD.ixK_12, ↓DD.ixK_13, DD.ite_tt, DD.ite_ft, DD.itp_tt, DD.itp_ft, DD.map_c, DD.map_n, DD.set_c0, DD.set_cs, DD.get_c0, DD.get_cs, List.getElem?_cons_zero, List.getElem?_cons_succ, List.set_cons_zero, List.set_cons_succ, List.length_cons, List.length_nil, List.map_cons, List.map_nil, List.replicate, List.append_assoc, List.nil_append, List.cons_append, List.append_nil, List.foldl_cons, List.foldl_nil, Nat.reduceAdd, Nat.reduceSub, String.reduceBEq, Nat.reduceBEq, String.reduceEq, beq_self_eq_true, List.lookup, if_true, if_false, Bool.false_eq_true, true_and, and_true, Bool.not_true, Bool.not_false, reduceIte]
                    have go : ∀ o3, (45 ∈ y.cps.toList → y.cps.toList.head? = some 45) → K3 [some (SV.val (D.str s)), some (SV.val (D.lst ((bitsOf s).map D.str))), some (SV.val (D.str y)), o3, none] := fun o3 hh => by
                      refine hK3 _ ⟨ys, _, _, rfl, fun z hz => hin z (List.mem_cons_of_mem _ hz), fun z hz => ?_, rfl⟩
                      rcases hb z hz with h | h
                      · rcases List.mem_cons.mp h with rfl | h
                        · exact .inr (bit_pass (hn _ hz).1 (hn _ hz).2 hall hh)
                        · exact .inl h
                      · exact .inr h
                    have e45 : Str.ofString "-" = ⟨#[45]⟩ := by decide +kernel
                    rw [e45, occ_one]
                    by_cases hm : 45 ∈ y.cps.toList
                    · rw [if_pos (decide_eq_true hm)]
                      refine ⟨szOk_of (by have := bits_ok hl hyin; omega), ?_⟩
                      cases hy : y.cps.toList with
                      | nil => exact absurd hy (hn y hyin).1
                      | cons c r =>
                        have : L2.atI (c :: r) 0 = some c := by unfold L2.atI L2.ixN; simp
                        rw [this]
                        dsimp only
                        by_cases hc : c = 45
                        · subst hc
                          rw [if_neg (by simp)]
                          exact go o3 fun _ => by rw [hy]; rfl
                        · rw [if_pos (by rw [Bool.not_eq_true', beq_eq_false_iff_ne]; intro z; apply hc; simpa using z)]
                          refine none_ (read_no hyin ?_)
                          cases hbb : bitB y.cps.toList with
                          | false => rfl
                          | true =>
                            have := (bit_stop hbb).2 hm
                            rw [hy] at this
                            exact absurd (Option.some.inj this) hc
                    · rw [if_neg (by rw [decide_eq_true_eq]; exact hm)]
                      exact go o3 fun z => absurd z hm
                  · rw [if_pos (fm_dig2 hall)]
                    refine none_ (read_no hyin ?_)
                    cases hbb : bitB y.cps.toList with
                    | false => rfl
                    | true => exact absurd (bit_stop hbb).1 hall
end K02
namespace K02
open PySem DD
theorem mem_cutI {ns : List Int} {lo hi : Option Int} {y : D} (h : y ∈ cutD (ns.map D.int) lo hi) : ∃ i : Int, y = .int i := by
  unfold cutD at h
  obtain ⟨i, _, e⟩ := List.mem_map.mp (List.mem_of_mem_drop (List.mem_of_mem_take h))
  exact ⟨i, e.symm⟩
theorem ix_nat {α : Type} {l : List α} {j : Int} (h0 : 0 ≤ j) (h1 : j < l.length) : ∃ x, L2.atI l j = some x ∧ x ∈ l := by
  obtain ⟨n, rfl⟩ := Int.eq_ofNat_of_zero_le h0
  have hn : n < l.length := by omega
  refine ⟨l[n], ?_, List.getElem_mem hn⟩
  unfold L2.atI L2.ixN
  simp [hn]
theorem vc__law_bag : ∀ svs Qd, sp__law_bag svs Qd → svs.length = 2 ∧ w__law_bag (endO Qd) (startD 6 svs) := by
  rintro svs Qd ⟨ns, k, rfl, hk, hn, hq⟩
  refine ⟨rfl, ?_⟩
  unfold w__law_bag
  simp only [wSeq, wSkip, wBrk, wCnt, wNever, wRet, wRetN, wExpr, wIfS, wAsg, sto, wTru, truD, wTAnd, wTOr, wTNot, wTB, wYes, wAnd, wOr, wNot, wIf, wChain, wC, wVar, wOp, wUn, wNil, wCons, allV, wN, wTup, wLst, wd, wRng1, wRng2, wEnum, wZip, wIt, wFor, wLc, wIsi, isiD, tyN, wFld, wSetF, wCall, wCallK, wMeth, wMethK, wMethK0, wBagCall, wBagIx, wBagSet, wScrIx, wSlX, slDX, wSl, slD, wOptI, wNoI, wIxN, wLenN, wListR, wTupR, wR1, wR2, wJoin, joinD, fJs, fmtD, wPar, wPar3, wAsgT, wApp, wExt, wSetI, ownAt, wAug, wFrz, frzD, frz1, wLook, wLookT, prim, addD, subD, mulD, mulT, fdivD, modD, powD, negD, ltD, leD, gtD, geD, ordD, cmpD, isD, inSD, eqT, binO, lenT, strT, negT, lenD, strD, absD, intD, max2D, min2D, allD, anyD, listD, tupleD, reprD, revD, ixD, rgD, permS, pick, dflt, mkF, endD, endO, endI, startD, Pat.put, Pat.putL, blkD, wipeD, keepVB, cntBag, inW, wBmS, wBmL, splitD, partD, sindexD, findD, lindexD, sumD, sortID, wRng3, wCD, wCIx, wDispIx, wDispL, wPr, wAsgP, notLD, notS, wLook2, ownsD, prim, endP, ↓DD.ixK_0, ↓DD.ixK_1, ↓DD.ixK_2, ↓DD.ixK_3, ↓DD.ixK_4, ↓DD.ixK_5, ↓DD.ixK_6, ↓DD.ixK_7, ↓DD.ixK_8, ↓DD.ixK_9, ↓DD.ixK_10, ↓DD.ixK_11, ↓DD.ixK_12, ↓DD.ixK_13, DD.ite_tt, DD.ite_ft, DD.itp_tt, DD.itp_ft, DD.map_c, DD.map_n, DD.set_c0, DD.set_cs, DD.get_c0, DD.get_cs, List.getElem?_cons_zero, List.getElem?_cons_succ, List.set_cons_zero, List.set_cons_succ, List.length_cons, List.length_nil, List.map_cons, List.map_nil, List.replicate, List.append_assoc, List.nil_append, List.cons_append, List.append_nil, List.foldl_cons, List.foldl_nil, Nat.reduceAdd, Nat.reduceSub, String.reduceBEq, Nat.reduceBEq, String.reduceEq, beq_self_eq_true, List.lookup, if_true, if_false, Bool.false_eq_true, true_and, and_true, Bool.not_true, Bool.not_false, reduceIte]
  have step : ∀ (n : Int) (y : D) (K : DEnv → Prop), True := fun _ _ _ => trivial
  split
  · rename_i hlt
    obtain ⟨n, en, _⟩ := ix_nat hk.1 (of_decide_eq_true hlt)
    rw [en]
    refine ⟨DD.MulOk.left ⟨by omega, by omega⟩, forL_inv (fun δ => ∃ (sd : Int) (x : Option SV), δ = [some (.val (.scr ns)), some (.val (.int k)), some (.val (.int n)), some (.val (.int sd)), x, none] ∧ (0 ≤ sd ∧ sd < 2 ^ 40)) _ _ ⟨_, _, rfl, by omega, by omega⟩ ?_ ?_⟩
    · rintro δ ⟨sd, x, rfl, h1, h2⟩
      simp only [wSeq, wSkip, wBrk, wCnt, wNever, wRet, wRetN, wExpr, wIfS, wAsg, sto, wTru, truD, wTAnd, wTOr, wTNot, wTB, wYes, wAnd, wOr, wNot, wIf, wChain, wC, wVar, wOp, wUn, wNil, wCons, allV, wN, wTup, wLst, wd, wRng1, wRng2, wEnum, wZip, wIt, wFor, wLc, wIsi, isiD, tyN, wFld, wSetF, wCall, wCallK, wMeth, wMethK, wMethK0, wBagCall, wBagIx, wBagSet, wScrIx, wSlX, slDX, wSl, slD, wOptI, wNoI, wIxN, wLenN, wListR, wTupR, wR1, wR2, wJoin, joinD, fJs, fmtD, wPar, wPar3, wAsgT, wApp, wExt, wSetI, ownAt, wAug, wFrz, frzD, frz1, wLook, wLookT, prim, addD, subD, mulD, mulT, fdivD, modD, powD, negD, ltD, leD, gtD, geD, ordD, cmpD, isD, inSD, eqT, binO, lenT, strT, negT, lenD, strD, absD, intD, max2D, min2D, allD, anyD, listD, tupleD, reprD, revD, ixD, rgD, permS, pick, dflt, mkF, endD, endO, endI, startD, Pat.put, Pat.putL, blkD, wipeD, keepVB, cntBag, inW, wBmS, wBmL, splitD, partD, sindexD, findD, lindexD, sumD, sortID, wRng3, wCD, wCIx, wDispIx, wDispL, wPr, wAsgP, notLD, notS, wLook2, ownsD, prim, endP, ↓DD.ixK_0, ↓DD.ixK_1, ↓DD.ixK_2, ↓DD.ixK_3, ↓DD.ixK_4, ↓DD.ixK_5, ↓DD.ixK_6, ↓DD.ixK_7, ↓DD.ixK_8, ↓DD.ixK_9, ↓DD.ixK_10, ↓DD.ixK_11, ↓DD.ixK_12, ↓DD.ixK_13, DD.ite_tt, DD.ite_ft, DD.itp_tt, DD.itp_ft, DD.map_c, DD.map_n, DD.set_c0, DD.set_cs, DD.get_c0, DD.get_cs, List.getElem?_cons_zero, List.getElem?_cons_succ, List.set_cons_zero, List.set_cons_succ, List.length_cons, List.length_nil, List.map_cons, List.map_nil, List.replicate, List.append_assoc, List.nil_append, List.cons_append, List.append_nil, List.foldl_cons, List.foldl_nil, Nat.reduceAdd, Nat.reduceSub, String.reduceBEq, Nat.reduceBEq, String.reduceEq, beq_self_eq_true, List.lookup, if_true, if_false, Bool.false_eq_true, true_and, and_true, Bool.not_true, Bool.not_false, reduceIte]
      split
      · rename_i h
        have h := of_decide_eq_true h
        exact ⟨by omega, DD.MulOk.left ⟨by omega, by omega⟩, by omega, szOk_of (by omega), hq _ _ (by rw [if_pos h]; omega) (Int.emod_nonneg _ (by omega))⟩
      · refine ⟨⟨by omega, by omega, by decide⟩, ?_⟩
        split
        · exact ⟨by omega, DD.MulOk.left ⟨by omega, by omega⟩, by omega, szOk_of (by omega), hq _ _ (by split <;> omega) (Int.emod_nonneg _ (by omega))⟩
        · exact ⟨by omega, DD.MulOk.left ⟨by omega, by omega⟩, by omega, szOk_of (by omega), hq _ _ (by omega) (Int.emod_nonneg _ (by omega))⟩
    · rintro y hy K hK δ ⟨sd, x, rfl, h1, h2⟩
      obtain ⟨i, rfl⟩ := mem_cutI hy
      simp only [wSeq, wSkip, wBrk, wCnt, wNever, wRet, wRetN, wExpr, wIfS, wAsg, sto, wTru, truD, wTAnd, wTOr, wTNot, wTB, wYes, wAnd, wOr, wNot, wIf, wChain, wC, wVar, wOp, wUn, wNil, wCons, allV, wN, wTup, wLst, wd, wRng1, wRng2, wEnum, wZip, wIt, wFor, wLc, wIsi, isiD, tyN, wFld, wSetF, wCall, wCallK, wMeth, wMethK, wMethK0, wBagCall, wBagIx, wBagSet, wScrIx, wSlX, slDX, wSl, slD, wOptI, wNoI, wIxN, wLenN, wListR, wTupR, wR1, wR2, wJoin, joinD, fJs, fmtD, wPar, wPar3, wAsgT, wApp, wExt, wSetI, ownAt, wAug, wFrz, frzD, frz1, wLook, wLookT, prim, addD, subD, mulD, mulT, fdivD, modD, powD, negD, ltD, leD, gtD, geD, ordD, cmpD, isD, inSD, eqT, binO, lenT, strT, negT, lenD, strD, absD, intD, max2D, min2D, allD, anyD, listD, tupleD, reprD, revD, ixD, rgD, permS, pick, dflt, mkF, endD, endO, endI, startD, Pat.put, Pat.putL, blkD, wipeD, keepVB, cntBag, inW, wBmS, wBmL, splitD, partD, sindexD, findD, lindexD, sumD, sortID, wRng3, wCD, wCIx, wDispIx, wDispL, wPr, wAsgP, notLD, notS, wLook2, ownsD, prim, endP, ↓DD.ixK_0, ↓DD.ixK_1, ↓DD.ixK_2, ↓DD.ixK_3, ↓DD.ixK_4, ↓DD.ixK_5, ↓DD.ixK_6, ↓DD.ixK_7, ↓DD.ixK_8, ↓DD.ixK_9, ↓DD.ixK_10, ↓DD.ixK_11, ↓DD.ixK_12, ↓DD.ixK_13, DD.ite_tt, DD.ite_ft, DD.itp_tt, DD.itp_ft, DD.map_c, DD.map_n, DD.set_c0, DD.set_cs, DD.get_c0, DD.get_cs, List.getElem?_cons_zero, List.getElem?_cons_succ, List.set_cons_zero, List.set_cons_succ, List.length_cons, List.length_nil, List.map_cons, List.map_nil, List.replicate, List.append_assoc, List.nil_append, List.cons_append, List.append_nil, List.foldl_cons, List.foldl_nil, Nat.reduceAdd, Nat.reduceSub, String.reduceBEq, Nat.reduceBEq, String.reduceEq, beq_self_eq_true, List.lookup, if_true, if_false, Bool.false_eq_true, true_and, and_true, Bool.not_true, Bool.not_false, reduceIte]
      exact ⟨DD.MulOk.left ⟨by omega, by omega⟩, by omega, DD.MulOk.left ⟨by omega, by omega⟩, by omega, hK _ ⟨_, _, rfl, Int.emod_nonneg _ (by omega), Int.lt_trans (Int.emod_lt_of_pos _ (by omega)) (by omega)⟩⟩
  · refine ⟨DD.MulOk.left ⟨by omega, by omega⟩, forL_inv (fun δ => ∃ (sd : Int) (x : Option SV), δ = [some (.val (.scr ns)), some (.val (.int k)), some (.val (.int 0)), some (.val (.int sd)), x, none] ∧ (0 ≤ sd ∧ sd < 2 ^ 40)) _ _ ⟨_, _, rfl, by omega, by omega⟩ ?_ ?_⟩
    · rintro δ ⟨sd, x, rfl, h1, h2⟩
      simp only [wSeq, wSkip, wBrk, wCnt, wNever, wRet, wRetN, wExpr, wIfS, wAsg, sto, wTru, truD, wTAnd, wTOr, wTNot, wTB, wYes, wAnd, wOr, wNot, wIf, wChain, wC, wVar, wOp, wUn, wNil, wCons, allV, wN, wTup, wLst, wd, wRng1, wRng2, wEnum, wZip, wIt, wFor, wLc, wIsi, isiD, tyN, wFld, wSetF, wCall, wCallK, wMeth, wMethK, wMethK0, wBagCall, wBagIx, wBagSet, wScrIx, wSlX, slDX, wSl, slD, wOptI, wNoI, wIxN, wLenN, wListR, wTupR, wR1, wR2, wJoin, joinD, fJs, fmtD, wPar, wPar3, wAsgT, wApp, wExt, wSetI, ownAt, wAug, wFrz, frzD, frz1, wLook, wLookT, prim, addD, subD, mulD, mulT, fdivD, modD, powD, negD, ltD, leD, gtD, geD, ordD, cmpD, isD, inSD, eqT, binO, lenT, strT, negT, lenD, strD, absD, intD, max2D, min2D, allD, anyD, listD, tupleD, reprD, revD, ixD, rgD, permS, pick, dflt, mkF, endD, endO, endI, startD, Pat.put, Pat.putL, blkD, wipeD, keepVB, cntBag, inW, wBmS, wBmL, splitD, partD, sindexD, findD, lindexD, sumD, sortID, wRng3, wCD, wCIx, wDispIx, wDispL, wPr, wAsgP, notLD, notS, wLook2, ownsD, prim, endP, ↓DD.ixK_0, ↓DD.ixK_1, ↓DD.ixK_2, ↓DD.ixK_3, ↓DD.ixK_4, ↓DD.ixK_5, ↓DD.ixK_6, ↓DD.ixK_7, ↓DD.ixK_8, ↓DD.ixK_9, ↓DD.ixK_10, ↓DD.ixK_11, ↓DD.ixK_12, ↓DD.ixK_13, DD.ite_tt, DD.ite_ft, DD.itp_tt, DD.itp_ft, DD.map_c, DD.map_n, DD.set_c0, DD.set_cs, DD.get_c0, DD.get_cs, List.getElem?_cons_zero, List.getElem?_cons_succ, List.set_cons_zero, List.set_cons_succ, List.length_cons, List.length_nil, List.map_cons, List.map_nil, List.replicate, List.append_assoc, List.nil_append, List.cons_append, List.append_nil, List.foldl_cons, List.foldl_nil, Nat.reduceAdd, Nat.reduceSub, String.reduceBEq, Nat.reduceBEq, String.reduceEq, beq_self_eq_true, List.lookup, if_true, if_false, Bool.false_eq_true, true_and, and_true, Bool.not_true, Bool.not_false, reduceIte]
      split
      · exact ⟨by omega, DD.MulOk.left ⟨by omega, by omega⟩, by omega, szOk_of (by omega), hq _ _ (by simp) (Int.emod_nonneg _ (by omega))⟩
      · refine ⟨⟨by omega, by omega, by decide⟩, ?_⟩
        split
        · exact ⟨by omega, DD.MulOk.left ⟨by omega, by omega⟩, by omega, szOk_of (by omega), hq _ _ (by simp) (Int.emod_nonneg _ (by omega))⟩
        · exact ⟨by omega, DD.MulOk.left ⟨by omega, by omega⟩, by omega, szOk_of (by omega), hq _ _ (by omega) (Int.emod_nonneg _ (by omega))⟩
    · rintro y hy K hK δ ⟨sd, x, rfl, h1, h2⟩
      obtain ⟨i, rfl⟩ := mem_cutI hy
      simp only [wSeq, wSkip, wBrk, wCnt, wNever, wRet, wRetN, wExpr, wIfS, wAsg, sto, wTru, truD, wTAnd, wTOr, wTNot, wTB, wYes, wAnd, wOr, wNot, wIf, wChain, wC, wVar, wOp, wUn, wNil, wCons, allV, wN, wTup, wLst, wd, wRng1, wRng2, wEnum, wZip, wIt, wFor, wLc, wIsi, isiD, tyN, wFld, wSetF, wCall, wCallK, wMeth, wMethK, wMethK0, wBagCall, wBagIx, wBagSet, wScrIx, wSlX, slDX, wSl, slD, wOptI, wNoI, wIxN, wLenN, wListR, wTupR, wR1, wR2, wJoin, joinD, fJs, fmtD, wPar, wPar3, wAsgT, wApp, wExt, wSetI, ownAt, wAug, wFrz, frzD, frz1, wLook, wLookT, prim, addD, subD, mulD, mulT, fdivD, modD, powD, negD, ltD, leD, gtD, geD, ordD, cmpD, isD, inSD, eqT, binO, lenT, strT, negT, lenD, strD, absD, intD, max2D, min2D, allD, anyD, listD, tupleD, reprD, revD, ixD, rgD, permS, pick, dflt, mkF, endD, endO, endI, startD, Pat.put, Pat.putL, blkD, wipeD, keepVB, cntBag, inW, wBmS, wBmL, splitD, partD, sindexD, findD, lindexD, sumD, sortID, wRng3, wCD, wCIx, wDispIx, wDispL, wPr, wAsgP, notLD, notS, wLook2, ownsD, prim, endP, ↓DD.ixK_0, ↓DD.ixK_1, ↓DD.ixK_2, ↓DD.ixK_3, ↓DD.ixK_4, ↓DD.ixK_5, ↓DD.ixK_6, ↓DD.ixK_7, ↓DD.ixK_8, ↓DD.ixK_9, ↓DD.ixK_10, ↓DD.ixK_11, ↓DD.ixK_12, ↓DD.ixK_13, DD.ite_tt, DD.ite_ft, DD.itp_tt, DD.itp_ft, DD.map_c, DD.map_n, DD.set_c0, DD.set_cs, DD.get_c0, DD.get_cs, List.getElem?_cons_zero, List.getElem?_cons_succ, List.set_cons_zero, List.set_cons_succ, List.length_cons, List.length_nil, List.map_cons, List.map_nil, List.replicate, List.append_assoc, List.nil_append, List.cons_append, List.append_nil, List.foldl_cons, List.foldl_nil, Nat.reduceAdd, Nat.reduceSub, String.reduceBEq, Nat.reduceBEq, String.reduceEq, beq_self_eq_true, List.lookup, if_true, if_false, Bool.false_eq_true, true_and, and_true, Bool.not_true, Bool.not_false, reduceIte]
      exact ⟨DD.MulOk.left ⟨by omega, by omega⟩, by omega, DD.MulOk.left ⟨by omega, by omega⟩, by omega, hK _ ⟨_, _, rfl, Int.emod_nonneg _ (by omega), Int.lt_trans (Int.emod_lt_of_pos _ (by omega)) (by omega)⟩⟩
theorem vc__law_draw : ∀ svs Qd, sp__law_draw svs Qd → svs.length = 2 ∧ w__law_draw (endD Qd) (startD 5 svs) := by
  rintro svs Qd ⟨w, rfl, hw, hq⟩
  refine ⟨rfl, ?_⟩
  unfold w__law_draw
  simp only [wSeq, wSkip, wBrk, wCnt, wNever, wRet, wRetN, wExpr, wIfS, wAsg, sto, wTru, truD, wTAnd, wTOr, wTNot, wTB, wYes, wAnd, wOr, wNot, wIf, wChain, wC, wVar, wOp, wUn, wNil, wCons, allV, wN, wTup, wLst, wd, wRng1, wRng2, wEnum, wZip, wIt, wFor, wLc, wIsi, isiD, tyN, wFld, wSetF, wCall, wCallK, wMeth, wMethK, wMethK0, wBagCall, wBagIx, wBagSet, wScrIx, wSlX, slDX, wSl, slD, wOptI, wNoI, wIxN, wLenN, wListR, wTupR, wR1, wR2, wJoin, joinD, fJs, fmtD, wPar, wPar3, wAsgT, wApp, wExt, wSetI, ownAt, wAug, wFrz, frzD, frz1, wLook, wLookT, prim, addD, subD, mulD, mulT, fdivD, modD, powD, negD, ltD, leD, gtD, geD, ordD, cmpD, isD, inSD, eqT, binO, lenT, strT, negT, lenD, strD, absD, intD, max2D, min2D, allD, anyD, listD, tupleD, reprD, revD, ixD, rgD, permS, pick, dflt, mkF, endD, endO, endI, startD, Pat.put, Pat.putL, blkD, wipeD, keepVB, cntBag, inW, wBmS, wBmL, splitD, partD, sindexD, findD, lindexD, sumD, sortID, wRng3, wCD, wCIx, wDispIx, wDispL, wPr, wAsgP, notLD, notS, wLook2, ownsD, prim, endP, ↓DD.ixK_0, ↓DD.ixK_1, ↓DD.ixK_2, ↓DD.ixK_3, ↓DD.ixK_4, ↓DD.ixK_5, ↓DD.ixK_6, ↓DD.ixK_7, ↓DD.ixK_8, ↓DD.ixK_9, ↓DD.ixK_10, ↓DD.ixK_11, ↓DD.ixK_12, ↓DD.ixK_13, DD.ite_tt, DD.ite_ft, DD.itp_tt, DD.itp_ft, DD.map_c, DD.map_n, DD.set_c0, DD.set_cs, DD.get_c0, DD.get_cs, List.getElem?_cons_zero, List.getElem?_cons_succ, List.set_cons_zero, List.set_cons_succ, List.length_cons, List.length_nil, List.map_cons, List.map_nil, List.replicate, List.append_assoc, List.nil_append, List.cons_append, List.append_nil, List.foldl_cons, List.foldl_nil, Nat.reduceAdd, Nat.reduceSub, String.reduceBEq, Nat.reduceBEq, String.reduceEq, beq_self_eq_true, List.lookup, if_true, if_false, Bool.false_eq_true, true_and, and_true, Bool.not_true, Bool.not_false, reduceIte]
  obtain ⟨w1, w2⟩ := hw
  refine ⟨by omega, fun n hn => ⟨by omega, by omega, by omega, fun m hm => ?_⟩⟩
  split
  · exact ⟨by omega, fun n hn => ⟨by omega, by omega, fun n' hn' => ⟨DivOk.small ⟨by omega, by omega⟩, Int.ediv_nonneg hn' (by omega), by omega, hq _ (Int.emod_nonneg _ (by omega)) (Int.emod_lt_of_pos _ (by omega))⟩⟩⟩
  · exact ⟨by omega, fun n hn => ⟨by omega, fun n1 hn1 => ⟨DD.MulOk.left ⟨by omega, by omega⟩, by omega, DD.MulOk.right ⟨by omega, by omega⟩, by omega, fun n2 hn2 => ⟨DD.MulOk.left ⟨by omega, by omega⟩, by omega, Int.emod_nonneg _ (by omega), by omega, by omega, fun n3 hn3 =>
      ⟨DivOk.small ⟨by omega, by omega⟩, by omega, hq _ (Int.emod_nonneg _ (by omega)) (Int.emod_lt_of_pos _ (by omega))⟩⟩⟩⟩⟩
theorem vc__law_one : ∀ svs Qd, sp__law_one svs Qd → svs.length = 2 ∧ w__law_one (endD Qd) (startD 2 svs) := by
  rintro svs Qd ⟨ds, rfl, h0, h1, hq⟩
  refine ⟨rfl, ?_⟩
  unfold w__law_one
  simp only [wSeq, wSkip, wBrk, wCnt, wNever, wRet, wRetN, wExpr, wIfS, wAsg, sto, wTru, truD, wTAnd, wTOr, wTNot, wTB, wYes, wAnd, wOr, wNot, wIf, wChain, wC, wVar, wOp, wUn, wNil, wCons, allV, wN, wTup, wLst, wd, wRng1, wRng2, wEnum, wZip, wIt, wFor, wLc, wIsi, isiD, tyN, wFld, wSetF, wCall, wCallK, wMeth, wMethK, wMethK0, wBagCall, wBagIx, wBagSet, wScrIx, wSlX, slDX, wSl, slD, wOptI, wNoI, wIxN, wLenN, wListR, wTupR, wR1, wR2, wJoin, joinD, fJs, fmtD, wPar, wPar3, wAsgT, wApp, wExt, wSetI, ownAt, wAug, wFrz, frzD, frz1, wLook, wLookT, prim, addD, subD, mulD, mulT, fdivD, modD, powD, negD, ltD, leD, gtD, geD, ordD, cmpD, isD, inSD, eqT, binO, lenT, strT, negT, lenD, strD, absD, intD, max2D, min2D, allD, anyD, listD, tupleD, reprD, revD, ixD, rgD, permS, pick, dflt, mkF, endD, endO, endI, startD, Pat.put, Pat.putL, blkD, wipeD, keepVB, cntBag, inW, wBmS, wBmL, splitD, partD, sindexD, findD, lindexD, sumD, sortID, wRng3, wCD, wCIx, wDispIx, wDispL, wPr, wAsgP, notLD, notS, wLook2, ownsD, prim, endP, ↓DD.ixK_0, ↓DD.ixK_1, ↓DD.ixK_2, ↓DD.ixK_3, ↓DD.ixK_4, ↓DD.ixK_5, ↓DD.ixK_6, ↓DD.ixK_7, ↓DD.ixK_8, ↓DD.ixK_9, ↓DD.ixK_10, ↓DD.ixK_11, ↓DD.ixK_12, ↓DD.ixK_13, DD.ite_tt, DD.ite_ft, DD.itp_tt, DD.itp_ft, DD.map_c, DD.map_n, DD.set_c0, DD.set_cs, DD.get_c0, DD.get_cs, List.getElem?_cons_zero, List.getElem?_cons_succ, List.set_cons_zero, List.set_cons_succ, List.length_cons, List.length_nil, List.map_cons, List.map_nil, List.replicate, List.append_assoc, List.nil_append, List.cons_append, List.append_nil, List.foldl_cons, List.foldl_nil, Nat.reduceAdd, Nat.reduceSub, String.reduceBEq, Nat.reduceBEq, String.reduceEq, beq_self_eq_true, List.lookup, if_true, if_false, Bool.false_eq_true, true_and, and_true, Bool.not_true, Bool.not_false, reduceIte, sp__law_draw]
  have hl : 0 < ds.length := List.length_pos_iff.mpr h0
  refine ⟨by omega, _, rfl, by omega, fun r r0 r1 => ?_⟩
  obtain ⟨d, e, hd⟩ := ix_nat r0 r1
  exact ixK_of e (hq d hd)
theorem law_tail {Qd : D → Prop} {ns : List Int} {x : Int} {i : Nat} {δ : DEnv} (hδ : δ[0]? = some (some (.val (.scr ns)))) (h0 : 0 < i) (hl : i < δ.length) (hn : ns.length ≤ 63) (hx : 0 ≤ x ∧ x ≤ 60) (hq : Qd (.bl true)) : DD.small62 x ∧ compL (Pat.nm i) wYes (wBagCall sp__law_bag sp__law_right (wCons (wVar 0) (wCons (wVar i) wNil)))
    δ (intsD 0 x.toNat) [] fun ds => match bools ds with
      | some bs => Qd (D.bl (bs.all id))
      | none => False := by
  refine ⟨⟨by omega, by omega⟩, ?_⟩
  refine compL_map (fun _ => .bl true) _ _ (szOk_of (by rw [intsD_len]; omega)) (fun y hy K hK => ?_) ?_
  · obtain ⟨k, hk, rfl⟩ := intsD_mem hy
    have e0 : (δ.set i (some (.val (.int (0 + k)))))[0]? = some (some (.val (.scr ns))) := by rw [List.getElem?_set_ne (by omega)]; exact hδ
    have e1 : (δ.set i (some (.val (.int (0 + k)))))[i]? = some (some (.val (.int (0 + k)))) := by rw [List.getElem?_set_self hl]
    simp only [wSeq, wSkip, wBrk, wCnt, wNever, wRet, wRetN, wExpr, wIfS, wAsg, sto, wTru, truD, wTAnd, wTOr, wTNot, wTB, wYes, wAnd, wOr, wNot, wIf, wChain, wC, wVar, wOp, wUn, wNil, wCons, allV, wN, wTup, wLst, wd, wRng1, wRng2, wEnum, wZip, wIt, wFor, wLc, wIsi, isiD, tyN, wFld, wSetF, wCall, wCallK, wMeth, wMethK, wMethK0, wBagCall, wBagIx, wBagSet, wScrIx, wSlX, slDX, wSl, slD, wOptI, wNoI, wIxN, wLenN, wListR, wTupR, wR1, wR2, wJoin, joinD, fJs, fmtD, wPar, wPar3, wAsgT, wApp, wExt, wSetI, ownAt, wAug, wFrz, frzD, frz1, wLook, wLookT, prim, addD, subD, mulD, mulT, fdivD, modD, powD, negD, ltD, leD, gtD, geD, ordD, cmpD, isD, inSD, eqT, binO, lenT, strT, negT, lenD, strD, absD, intD, max2D, min2D, allD, anyD, listD, tupleD, reprD, revD, ixD, rgD, permS, pick, dflt, mkF, endD, endO, endI, startD, Pat.put, Pat.putL, blkD, wipeD, keepVB, cntBag, inW, wBmS, wBmL, splitD, partD, sindexD, findD, lindexD, sumD, sortID, wRng3, wCD, wCIx, wDispIx, wDispL, wPr, wAsgP, notLD, notS, wLook2, ownsD, prim, endP, ↓DD.ixK_0, ↓DD.ixK_1, ↓DD.ixK_2, ↓DD.ixK_3, ↓DD.ixK_4, ↓DD.ixK_5, ↓DD.ixK_6, ↓DD.ixK_7, ↓DD.ixK_8, ↓DD.ixK_9, ↓DD.ixK_10, ↓DD.ixK_11, ↓DD.ixK_12, ↓DD.ixK_13, DD.ite_tt, DD.ite_ft, DD.itp_tt, DD.itp_ft, DD.map_c, DD.map_n, DD.set_c0, DD.set_cs, DD.get_c0, DD.get_cs, List.getElem?_cons_zero, List.getElem?_cons_succ, List.set_cons_zero, List.set_cons_succ, List.length_cons, List.length_nil, List.map_cons, List.map_nil, List.replicate, List.append_assoc, List.nil_append, List.cons_append, List.append_nil, List.foldl_cons, List.foldl_nil, Nat.reduceAdd, Nat.reduceSub, String.reduceBEq, Nat.reduceBEq, String.reduceEq, beq_self_eq_true, List.lookup, if_true, if_false, Bool.false_eq_true, true_and, and_true, Bool.not_true, Bool.not_false, reduceIte, e0, e1]
    refine ⟨ns, _, rfl, ⟨by omega, by omega⟩, hn, fun a b ha hb => ⟨⟨a, b, 0, rfl, ha, hb, Int.le_refl 0⟩, rfl, hK⟩⟩
  · have : (intsD 0 x.toNat).map (fun _ => D.bl true) = (List.replicate (intsD 0 x.toNat).length true).map D.bl := by
      rw [List.map_const', List.map_replicate]
    rw [this, bools_map]
    simpa using hq
theorem vc_law : ∀ svs Qd, sp_law svs Qd → svs.length = 1 ∧ w_law (endD Qd) (startD 2 svs) := by
  rintro svs Qd ⟨ns, rfl, hn, hq⟩
  refine ⟨rfl, ?_⟩; unfold w_law; simp only [startD, List.getElem?_cons_zero, List.getElem?_cons_succ, List.set_cons_zero, List.set_cons_succ, List.length_cons, List.length_nil, List.map_cons, List.map_nil, List.replicate, List.append_assoc, List.nil_append, List.cons_append, List.append_nil, List.foldl_cons, List.foldl_nil, Nat.reduceAdd, Nat.reduceSub, String.reduceBEq, Nat.reduceBEq, String.reduceEq, beq_self_eq_true, List.lookup, if_true, if_false, Bool.false_eq_true, true_and, and_true, Bool.not_true, Bool.not_false, reduceIte]
  dsimp only [wSeq, wSkip, wBrk, wCnt, wNever, wRet, wRetN, wExpr, wIfS, wAsg, sto, wTru, truD, wTAnd, wTOr, wTNot, wTB, wYes, wAnd, wOr, wNot, wIf, wChain, wC, wVar, wOp, wUn, wNil, wCons, allV, wN, wTup, wLst, wd, wRng1, wRng2, wEnum, wZip, wIt, wFor, wLc, wIsi, isiD, tyN, wFld, wSetF, wCall, wCallK, wMeth, wMethK, wMethK0, wBagCall, wBagIx, wBagSet, wScrIx, wSlX, slDX, wSl, slD, wOptI, wNoI, wIxN, wLenN, wListR, wTupR, wR1, wR2, wJoin, joinD, fJs, fmtD, wPar, wPar3, wAsgT, wApp, wExt, wSetI, ownAt, wAug, wFrz, frzD, frz1, wLook, wLookT, prim, addD, subD, mulD, mulT, fdivD, modD, powD, negD, ltD, leD, gtD, geD, ordD, cmpD, isD, inSD, eqT, binO, lenT, strT, negT, lenD, strD, absD, intD, max2D, min2D, allD, anyD, listD, tupleD, reprD, revD, ixD, rgD, permS, pick, dflt, mkF, endD, endO, endI, startD, Pat.put, Pat.putL, blkD, wipeD, keepVB, cntBag, inW, wBmS, wBmL, splitD, partD, sindexD, findD, lindexD, sumD, sortID, wRng3, wCD, wCIx, wDispIx, wDispL, wPr, wAsgP, notLD, notS, wLook2, ownsD, prim, endP, ↓DD.ixK_0, ↓DD.ixK_1, ↓DD.ixK_2, ↓DD.ixK_3, ↓DD.ixK_4, ↓DD.ixK_5, ↓DD.ixK_6, ↓DD.ixK_7, ↓DD.ixK_8, ↓DD.ixK_9, ↓DD.ixK_10, ↓DD.ixK_11, ↓DD.ixK_12, ↓DD.ixK_13, DD.ite_tt, DD.ite_ft, DD.itp_tt, DD.itp_ft, DD.map_c, DD.map_n, DD.set_c0, DD.set_cs, DD.get_c0, DD.get_cs, List.getElem?_cons_zero, List.getElem?_cons_succ, List.set_cons_zero, List.set_cons_succ, List.length_cons, List.length_nil, List.map_cons, List.map_nil, List.replicate, List.append_assoc, List.nil_append, List.cons_append, List.append_nil, List.foldl_cons, List.foldl_nil, Nat.reduceAdd, Nat.reduceSub, String.reduceBEq, Nat.reduceBEq, String.reduceEq, beq_self_eq_true, List.lookup, if_true, if_false, Bool.false_eq_true, true_and, and_true, Bool.not_true, Bool.not_false, reduceIte]
  exact law_tail rfl (by decide) (by simp) hn (by repeat' split <;> omega) hq
theorem len11 {l : DEnv} (h : l.length = 11) : ∃ a1 a2 a3 a4 a5 a6 a7 a8 a9 a10 a11, l = [a1, a2, a3, a4, a5, a6, a7, a8, a9, a10, a11] := by
  match l, h with
  | [a1, a2, a3, a4, a5, a6, a7, a8, a9, a10, a11], _ => exact ⟨a1, a2, a3, a4, a5, a6, a7, a8, a9, a10, a11, rfl⟩
theorem writ_low {t b : Int} (ht : t.natAbs < 10 ^ 9) (hb : 0 < b ∧ b ≤ 60) : lowT 13 (S (writL t b)) := by
  have h1 := TL.numL_len (n := t.natAbs) (k := 9) (by decide) ht
  have h2 := TL.numL_len (n := b.natAbs) (k := 2) (by decide) (by omega)
  have lw : ∀ i : Int, ∀ c ∈ intL i, c < 128 := fun i c hc => by
    unfold intL at hc
    rcases List.mem_append.mp hc with hc | hc
    · split at hc
      · rw [List.mem_singleton.mp hc]; omega
      · cases hc
    · have := TL.numL_digits _ c hc; omega
  have l1 : (intL t).length ≤ 10 := by unfold intL; rw [List.length_append]; split <;> simp <;> omega
  have l2 : (intL b).length ≤ 2 := by rw [int_pos (by omega)]; exact h2
  refine ⟨?_, fun c hc => ?_⟩
  · rw [S_len]; unfold writL; split
    · omega
    · rw [List.length_append, List.length_cons]; omega
  · rw [S_tl] at hc
    unfold writL at hc
    split at hc
    · exact lw t c hc
    · rcases List.mem_append.mp hc with hc | hc
      · exact lw t c hc
      · rcases List.mem_cons.mp hc with rfl | hc
        · omega
        · exact lw b c hc
theorem odd17 {d : D} (hd : d ∈ [D.non, D.int 3, D.str (Str.ofString ""), D.str (Str.ofString "-"), D.str (Str.ofString "/"), D.str (Str.ofString "1/"), D.str (Str.ofString "/2"), D.str (Str.ofString "0/3"), D.str (Str.ofString "2/4"), D.str (Str.ofString "3/1"), D.str (Str.ofString "1/0"), D.str (Str.ofString "-0"), D.str (Str.ofString "+1"), D.str (Str.ofString " 1"), D.str (Str.ofString "1/-2"), D.tup [D.str (Str.ofString "1")], D.lst []]) : Odd d ∧ readD d = none := by
  simp only [List.mem_cons, List.not_mem_nil, or_false] at hd
  rcases hd with rfl | rfl | rfl | rfl | rfl | rfl | rfl | rfl | rfl | rfl | rfl | rfl | rfl | rfl | rfl | rfl | rfl
  · exact ⟨⟨rfl, szOk_of (by decide +kernel), by unfold okA; decide +kernel, fun z e => by cases e⟩, rfl⟩
  · exact ⟨⟨rfl, szOk_of (by decide +kernel), by unfold okA; decide +kernel, fun z e => by cases e⟩, rfl⟩
  · exact ⟨odd_str ⟨by decide +kernel, by decide +kernel⟩, by decide +kernel⟩
  · exact ⟨odd_str ⟨by decide +kernel, by decide +kernel⟩, by decide +kernel⟩
  · exact ⟨odd_str ⟨by decide +kernel, by decide +kernel⟩, by decide +kernel⟩
  · exact ⟨odd_str ⟨by decide +kernel, by decide +kernel⟩, by decide +kernel⟩
  · exact ⟨odd_str ⟨by decide +kernel, by decide +kernel⟩, by decide +kernel⟩
  · exact ⟨odd_str ⟨by decide +kernel, by decide +kernel⟩, by decide +kernel⟩
  · exact ⟨odd_str ⟨by decide +kernel, by decide +kernel⟩, by decide +kernel⟩
  · exact ⟨odd_str ⟨by decide +kernel, by decide +kernel⟩, by decide +kernel⟩
  · exact ⟨odd_str ⟨by decide +kernel, by decide +kernel⟩, by decide +kernel⟩
  · exact ⟨odd_str ⟨by decide +kernel, by decide +kernel⟩, by decide +kernel⟩
  · exact ⟨odd_str ⟨by decide +kernel, by decide +kernel⟩, by decide +kernel⟩
  · exact ⟨odd_str ⟨by decide +kernel, by decide +kernel⟩, by decide +kernel⟩
  · exact ⟨odd_str ⟨by decide +kernel, by decide +kernel⟩, by decide +kernel⟩
  · exact ⟨⟨rfl, szOk_of (by decide +kernel), by unfold okA; decide +kernel, fun z e => by cases e⟩, rfl⟩
  · exact ⟨⟨rfl, szOk_of (by decide +kernel), by unfold okA; decide +kernel, fun z e => by cases e⟩, rfl⟩
theorem cut_len (s : Str) {m k : Nat} (h : m ≤ k) : (L2.cutS s none (some (m : Int))).length + (L2.cutS s (some (k : Int)) none).length ≤ s.length := by
  rw [str_len, str_len, str_len s, cut_to, cut_from, List.length_take, List.length_drop]
  omega
theorem vc__law_right : ∀ svs Qd, sp__law_right svs Qd → svs.length = 1 ∧ w__law_right (endD Qd) (startD 12 svs) := by
  rintro svs Qd ⟨rfl, hq⟩
  refine ⟨rfl, ?_⟩; unfold w__law_right; simp only [startD, List.getElem?_cons_zero, List.getElem?_cons_succ, List.set_cons_zero, List.set_cons_succ, List.length_cons, List.length_nil, List.map_cons, List.map_nil, List.replicate, List.append_assoc, List.nil_append, List.cons_append, List.append_nil, List.foldl_cons, List.foldl_nil, Nat.reduceAdd, Nat.reduceSub, String.reduceBEq, Nat.reduceBEq, String.reduceEq, beq_self_eq_true, List.lookup, if_true, if_false, Bool.false_eq_true, true_and, and_true, Bool.not_true, Bool.not_false, reduceIte]
  refine seq_op fun K0 hK0 => ?_
  dsimp only [wSeq, wSkip, wBrk, wCnt, wNever, wRet, wRetN, wExpr, wIfS, wAsg, sto, wTru, truD, wTAnd, wTOr, wTNot, wTB, wYes, wAnd, wOr, wNot, wIf, wChain, wC, wVar, wOp, wUn, wNil, wCons, allV, wN, wTup, wLst, wd, wRng1, wRng2, wEnum, wZip, wIt, wFor, wLc, wIsi, isiD, tyN, wFld, wSetF, wCall, wCallK, wMeth, wMethK, wMethK0, wBagCall, wBagIx, wBagSet, wScrIx, wSlX, slDX, wSl, slD, wOptI, wNoI, wIxN, wLenN, wListR, wTupR, wR1, wR2, wJoin, joinD, fJs, fmtD, wPar, wPar3, wAsgT, wApp, wExt, wSetI, ownAt, wAug, wFrz, frzD, frz1, wLook, wLookT, prim, addD, subD, mulD, mulT, fdivD, modD, powD, negD, ltD, leD, gtD, geD, ordD, cmpD, isD, inSD, eqT, binO, lenT, strT, negT, lenD, strD, absD, intD, max2D, min2D, allD, anyD, listD, tupleD, reprD, revD, ixD, rgD, permS, pick, dflt, mkF, endD, endO, endI, startD, Pat.put, Pat.putL, blkD, wipeD, keepVB, cntBag, inW, wBmS, wBmL, splitD, partD, sindexD, findD, lindexD, sumD, sortID, wRng3, wCD, wCIx, wDispIx, wDispL, wPr, wAsgP, notLD, notS, wLook2, ownsD, prim, endP, ↓DD.ixK_0, ↓DD.ixK_1, ↓DD.ixK_2, ↓DD.ixK_3, ↓DD.ixK_4, ↓DD.ixK_5, ↓DD.ixK_6, ↓DD.ixK_7, ↓DD.ixK_8, ↓DD.ixK_9, ↓DD.ixK_10, ↓DD.ixK_11, ↓DD.ixK_12, ↓DD.ixK_13, DD.ite_tt, DD.ite_ft, DD.itp_tt, DD.itp_ft, DD.map_c, DD.map_n, DD.set_c0, DD.set_cs, DD.get_c0, DD.get_cs, List.getElem?_cons_zero, List.getElem?_cons_succ, List.set_cons_zero, List.set_cons_succ, List.length_cons, List.length_nil, List.map_cons, List.map_nil, List.replicate, List.append_assoc, List.nil_append, List.cons_append, List.append_nil, List.foldl_cons, List.foldl_nil, Nat.reduceAdd, Nat.reduceSub, String.reduceBEq, Nat.reduceBEq, String.reduceEq, beq_self_eq_true, List.lookup, if_true, if_false, Bool.false_eq_true, true_and, and_true, Bool.not_true, Bool.not_false, reduceIte]
  refine ⟨⟨by omega, by omega⟩, forL_inv (fun δ => ∃ l : DEnv, l.length = 11 ∧ δ = some .bag :: l) _ _ ⟨_, rfl, rfl⟩ ?_ ?_⟩
  · rintro δ ⟨l, hl, rfl⟩
    refine hK0 _ ?_
    clear hK0 K0
    obtain ⟨a1, a2, a3, a4, a5, a6, a7, a8, a9, a10, a11, rfl⟩ := len11 hl
    refine seq_op fun K hK => ?_
    dsimp only [wSeq, wSkip, wBrk, wCnt, wNever, wRet, wRetN, wExpr, wIfS, wAsg, sto, wTru, truD, wTAnd, wTOr, wTNot, wTB, wYes, wAnd, wOr, wNot, wIf, wChain, wC, wVar, wOp, wUn, wNil, wCons, allV, wN, wTup, wLst, wd, wRng1, wRng2, wEnum, wZip, wIt, wFor, wLc, wIsi, isiD, tyN, wFld, wSetF, wCall, wCallK, wMeth, wMethK, wMethK0, wBagCall, wBagIx, wBagSet, wScrIx, wSlX, slDX, wSl, slD, wOptI, wNoI, wIxN, wLenN, wListR, wTupR, wR1, wR2, wJoin, joinD, fJs, fmtD, wPar, wPar3, wAsgT, wApp, wExt, wSetI, ownAt, wAug, wFrz, frzD, frz1, wLook, wLookT, prim, addD, subD, mulD, mulT, fdivD, modD, powD, negD, ltD, leD, gtD, geD, ordD, cmpD, isD, inSD, eqT, binO, lenT, strT, negT, lenD, strD, absD, intD, max2D, min2D, allD, anyD, listD, tupleD, reprD, revD, ixD, rgD, permS, pick, dflt, mkF, endD, endO, endI, startD, Pat.put, Pat.putL, blkD, wipeD, keepVB, cntBag, inW, wBmS, wBmL, splitD, partD, sindexD, findD, lindexD, sumD, sortID, wRng3, wCD, wCIx, wDispIx, wDispL, wPr, wAsgP, notLD, notS, wLook2, ownsD, prim, endP, ↓DD.ixK_0, ↓DD.ixK_1, ↓DD.ixK_2, ↓DD.ixK_3, ↓DD.ixK_4, ↓DD.ixK_5, ↓DD.ixK_6, ↓DD.ixK_7, ↓DD.ixK_8, ↓DD.ixK_9, ↓DD.ixK_10, ↓DD.ixK_11, ↓DD.ixK_12, ↓DD.ixK_13, DD.ite_tt, DD.ite_ft, DD.itp_tt, DD.itp_ft, DD.map_c, DD.map_n, DD.set_c0, DD.set_cs, DD.get_c0, DD.get_cs, List.getElem?_cons_zero, List.getElem?_cons_succ, List.set_cons_zero, List.set_cons_succ, List.length_cons, List.length_nil, List.map_cons, List.map_nil, List.replicate, List.append_assoc, List.nil_append, List.cons_append, List.append_nil, List.foldl_cons, List.foldl_nil, Nat.reduceAdd, Nat.reduceSub, String.reduceBEq, Nat.reduceBEq, String.reduceEq, beq_self_eq_true, List.lookup, if_true, if_false, Bool.false_eq_true, true_and, and_true, Bool.not_true, Bool.not_false, reduceIte]
    refine ⟨szOk_of (by decide), hK _ ?_⟩
    clear hK K
    refine seq_op fun K hK => ?_
    dsimp only [wAsg, wLook2, wLook, wRet, wIfS, wFrz, wApp, ownAt, wLc, wExpr, blkD, wipeD, DD.frzD, frz1, List.foldl_cons, List.foldl_nil, DD.map_c, DD.map_n, DD.set_c0, DD.set_cs, keepVB, DD.get_c0, DD.get_cs]
    dsimp only [wSeq, wSkip, wBrk, wCnt, wNever, wRet, wRetN, wExpr, wIfS, wAsg, sto, wTru, truD, wTAnd, wTOr, wTNot, wTB, wYes, wAnd, wOr, wNot, wIf, wChain, wC, wVar, wOp, wUn, wNil, wCons, allV, wN, wTup, wLst, wd, wRng1, wRng2, wEnum, wZip, wIt, wFor, wLc, wIsi, isiD, tyN, wFld, wSetF, wCall, wCallK, wMeth, wMethK, wMethK0, wBagCall, wBagIx, wBagSet, wScrIx, wSlX, slDX, wSl, slD, wOptI, wNoI, wIxN, wLenN, wListR, wTupR, wR1, wR2, wJoin, joinD, fJs, fmtD, wPar, wPar3, wAsgT, wApp, wExt, wSetI, ownAt, wAug, wFrz, frzD, frz1, wLook, wLookT, prim, addD, subD, mulD, mulT, fdivD, modD, powD, negD, ltD, leD, gtD, geD, ordD, cmpD, isD, inSD, eqT, binO, lenT, strT, negT, lenD, strD, absD, intD, max2D, min2D, allD, anyD, listD, tupleD, reprD, revD, ixD, rgD, permS, pick, dflt, mkF, endD, endO, endI, startD, Pat.put, Pat.putL, blkD, wipeD, keepVB, cntBag, inW, wBmS, wBmL, splitD, partD, sindexD, findD, lindexD, sumD, sortID, wRng3, wCD, wCIx, wDispIx, wDispL, wPr, wAsgP, notLD, notS, wLook2, ownsD, prim, endP, ↓DD.ixK_0, ↓DD.ixK_1, ↓DD.ixK_2, ↓DD.ixK_3, ↓DD.ixK_4, ↓DD.ixK_5, ↓DD.ixK_6, ↓DD.ixK_7, ↓DD.ixK_8, ↓DD.ixK_9, ↓DD.ixK_10, ↓DD.ixK_11, ↓DD.ixK_12, ↓DD.ixK_13, DD.ite_tt, DD.ite_ft, DD.itp_tt, DD.itp_ft, DD.map_c, DD.map_n, DD.set_c0, DD.set_cs, DD.get_c0, DD.get_cs, List.getElem?_cons_zero, List.getElem?_cons_succ, List.set_cons_zero, List.set_cons_succ, List.length_cons, List.length_nil, List.map_cons, List.map_nil, List.replicate, List.append_assoc, List.nil_append, List.cons_append, List.append_nil, List.foldl_cons, List.foldl_nil, Nat.reduceAdd, Nat.reduceSub, String.reduceBEq, Nat.reduceBEq, String.reduceEq, beq_self_eq_true, List.lookup, if_true, if_false, Bool.false_eq_true, true_and, and_true, Bool.not_true, Bool.not_false, reduceIte]
    refine ⟨szOk_of (by decide), szOk_of (by decide), szOk_of (by decide), szOk_of (by decide), Nat.le_refl 1, _, rfl, by simp, by simp, fun d hd => hK _ ?_⟩
    clear hK K
    obtain ⟨od, hn⟩ := odd17 hd
    clear hd
    dsimp only [wSeq, wSkip, wBrk, wCnt, wNever, wRet, wRetN, wExpr, wIfS, wAsg, sto, wTru, truD, wTAnd, wTOr, wTNot, wTB, wYes, wAnd, wOr, wNot, wIf, wChain, wC, wVar, wOp, wUn, wNil, wCons, allV, wN, wTup, wLst, wd, wRng1, wRng2, wEnum, wZip, wIt, wFor, wLc, wIsi, isiD, tyN, wFld, wSetF, wCall, wCallK, wMeth, wMethK, wMethK0, wBagCall, wBagIx, wBagSet, wScrIx, wSlX, slDX, wSl, slD, wOptI, wNoI, wIxN, wLenN, wListR, wTupR, wR1, wR2, wJoin, joinD, fJs, fmtD, wPar, wPar3, wAsgT, wApp, wExt, wSetI, ownAt, wAug, wFrz, frzD, frz1, wLook, wLookT, prim, addD, subD, mulD, mulT, fdivD, modD, powD, negD, ltD, leD, gtD, geD, ordD, cmpD, isD, inSD, eqT, binO, lenT, strT, negT, lenD, strD, absD, intD, max2D, min2D, allD, anyD, listD, tupleD, reprD, revD, ixD, rgD, permS, pick, dflt, mkF, endD, endO, endI, startD, Pat.put, Pat.putL, blkD, wipeD, keepVB, cntBag, inW, wBmS, wBmL, splitD, partD, sindexD, findD, lindexD, sumD, sortID, wRng3, wCD, wCIx, wDispIx, wDispL, wPr, wAsgP, notLD, notS, wLook2, ownsD, prim, endP, ↓DD.ixK_0, ↓DD.ixK_1, ↓DD.ixK_2, ↓DD.ixK_3, ↓DD.ixK_4, ↓DD.ixK_5, ↓DD.ixK_6, ↓DD.ixK_7, ↓DD.ixK_8, ↓DD.ixK_9, ↓DD.ixK_10, ↓DD.ixK_11, ↓DD.ixK_12, ↓DD.ixK_13, DD.ite_tt, DD.ite_ft, DD.itp_tt, DD.itp_ft, DD.map_c, DD.map_n, DD.set_c0, DD.set_cs, DD.get_c0, DD.get_cs, List.getElem?_cons_zero, List.getElem?_cons_succ, List.set_cons_zero, List.set_cons_succ, List.length_cons, List.length_nil, List.map_cons, List.map_nil, List.replicate, List.append_assoc, List.nil_append, List.cons_append, List.append_nil, List.foldl_cons, List.foldl_nil, Nat.reduceAdd, Nat.reduceSub, String.reduceBEq, Nat.reduceBEq, String.reduceEq, beq_self_eq_true, List.lookup, if_true, if_false, Bool.false_eq_true, true_and, and_true, Bool.not_true, Bool.not_false, reduceIte, wAns, wCallX, valD]
    refine ⟨by decide, ans_odd od hn _ ?_ _⟩
    dsimp only
    have oki : okA (Str.ofString "InvalidText") := by unfold okA; decide +kernel
    have two : okD 30 (.lst [.str (Str.ofString "InvalidText"), .str (shownD d)]) = true := by
      unfold okD
      rw [List.all_cons, List.all_cons, List.all_nil, Bool.and_true, Bool.and_eq_true]
      exact ⟨by unfold okD; exact oki.ok, by unfold okD; exact od.ok.ok⟩
    have eqq : eqD (.lst [.str (Str.ofString "InvalidText"), .str (shownD d)]) (.lst [.str (Str.ofString "InvalidText"), .str (shownD d)]) = true := by
      unfold eqD eqDs; simp [eqD, eqDs]
    refine ⟨odd_repr od.odd, od.sz, szOk_of (by decide), ⟨two, two⟩, ?_⟩
    rw [eqq]
    exact hq
  · rintro x hx K2 hK2 δ ⟨l, hl, rfl⟩
    clear hK0
    obtain ⟨a1, a2, a3, a4, a5, a6, a7, a8, a9, a10, a11, rfl⟩ := len11 hl
    dsimp only [Pat.put, DD.set_c0, DD.set_cs]
    refine seq_op fun K hK => ?_
    dsimp only [wSeq, wSkip, wBrk, wCnt, wNever, wRet, wRetN, wExpr, wIfS, wAsg, sto, wTru, truD, wTAnd, wTOr, wTNot, wTB, wYes, wAnd, wOr, wNot, wIf, wChain, wC, wVar, wOp, wUn, wNil, wCons, allV, wN, wTup, wLst, wd, wRng1, wRng2, wEnum, wZip, wIt, wFor, wLc, wIsi, isiD, tyN, wFld, wSetF, wCall, wCallK, wMeth, wMethK, wMethK0, wBagCall, wBagIx, wBagSet, wScrIx, wSlX, slDX, wSl, slD, wOptI, wNoI, wIxN, wLenN, wListR, wTupR, wR1, wR2, wJoin, joinD, fJs, fmtD, wPar, wPar3, wAsgT, wApp, wExt, wSetI, ownAt, wAug, wFrz, frzD, frz1, wLook, wLookT, prim, addD, subD, mulD, mulT, fdivD, modD, powD, negD, ltD, leD, gtD, geD, ordD, cmpD, isD, inSD, eqT, binO, lenT, strT, negT, lenD, strD, absD, intD, max2D, min2D, allD, anyD, listD, tupleD, reprD, revD, ixD, rgD, permS, pick, dflt, mkF, endD, endO, endI, startD, Pat.put, Pat.putL, blkD, wipeD, keepVB, cntBag, inW, wBmS, wBmL, splitD, partD, sindexD, findD, lindexD, sumD, sortID, wRng3, wCD, wCIx, wDispIx, wDispL, wPr, wAsgP, notLD, notS, wLook2, ownsD, prim, endP, ↓DD.ixK_0, ↓DD.ixK_1, ↓DD.ixK_2, ↓DD.ixK_3, ↓DD.ixK_4, ↓DD.ixK_5, ↓DD.ixK_6, ↓DD.ixK_7, ↓DD.ixK_8, ↓DD.ixK_9, ↓DD.ixK_10, ↓DD.ixK_11, ↓DD.ixK_12, ↓DD.ixK_13, DD.ite_tt, DD.ite_ft, DD.itp_tt, DD.itp_ft, DD.map_c, DD.map_n, DD.set_c0, DD.set_cs, DD.get_c0, DD.get_cs, List.getElem?_cons_zero, List.getElem?_cons_succ, List.set_cons_zero, List.set_cons_succ, List.length_cons, List.length_nil, List.map_cons, List.map_nil, List.replicate, List.append_assoc, List.nil_append, List.cons_append, List.append_nil, List.foldl_cons, List.foldl_nil, Nat.reduceAdd, Nat.reduceSub, String.reduceBEq, Nat.reduceBEq, String.reduceEq, beq_self_eq_true, List.lookup, if_true, if_false, Bool.false_eq_true, true_and, and_true, Bool.not_true, Bool.not_false, reduceIte]
    have e9 : (10 : Int) ^ Int.toNat 9 = 1000000000 := by decide
    refine ⟨Nat.le_refl 1, _, rfl, by omega, fun r1 r10 r11 => ⟨⟨by decide, by decide, by decide⟩, Nat.le_refl 1, _, rfl, by rw [e9]; omega, fun r2 r20 r21 => ⟨szOk_of (by decide), Nat.le_refl 1, _, rfl, by simp, by simp, fun d hd => ⟨szOk_of (by decide), Nat.le_refl 1, _, rfl, by simp, by simp, fun e he => ?_⟩⟩⟩⟩
    rw [e9] at r21
    obtain ⟨n, rfl, hn⟩ : ∃ n : Int, d = .int n ∧ 0 ≤ n ∧ n < 1000000000 := by
      simp only [List.mem_cons, List.not_mem_nil, or_false] at hd
      rcases hd with rfl | rfl | rfl | rfl
      · exact ⟨_, rfl, by omega⟩
      · exact ⟨_, rfl, by omega⟩
      · exact ⟨_, rfl, by omega⟩
      · exact ⟨_, rfl, by omega⟩
    obtain ⟨m, rfl, hm⟩ : ∃ m : Int, e = .int m ∧ (m = 1 ∨ m = -1) := by
      simp only [List.mem_cons, List.not_mem_nil, or_false] at he
      rcases he with rfl | rfl
      · exact ⟨_, rfl, .inl rfl⟩
      · exact ⟨_, rfl, .inr rfl⟩
    refine ⟨DD.MulOk.right ⟨by omega, by omega⟩, hK _ ?_⟩
    clear hK K hd he r10 r11 r20 r21
    have hu : (n * m).natAbs < 1000000000 := by rcases hm with rfl | rfl <;> omega
    generalize n * m = u at hu ⊢
    clear hn hm
    have sm : ∀ z : Int, z.natAbs < 1000000000 → small z ∧ mild z := fun z hz => ⟨Nat.lt_of_lt_of_le (m := 2 ^ 100) (by omega) (Nat.pow_le_pow_right (by decide) (by decide)), by unfold mild; rw [e20]; omega⟩
    refine seq_op fun K hK => ?_
    dsimp only [wSeq, wSkip, wBrk, wCnt, wNever, wRet, wRetN, wExpr, wIfS, wAsg, sto, wTru, truD, wTAnd, wTOr, wTNot, wTB, wYes, wAnd, wOr, wNot, wIf, wChain, wC, wVar, wOp, wUn, wNil, wCons, allV, wN, wTup, wLst, wd, wRng1, wRng2, wEnum, wZip, wIt, wFor, wLc, wIsi, isiD, tyN, wFld, wSetF, wCall, wCallK, wMeth, wMethK, wMethK0, wBagCall, wBagIx, wBagSet, wScrIx, wSlX, slDX, wSl, slD, wOptI, wNoI, wIxN, wLenN, wListR, wTupR, wR1, wR2, wJoin, joinD, fJs, fmtD, wPar, wPar3, wAsgT, wApp, wExt, wSetI, ownAt, wAug, wFrz, frzD, frz1, wLook, wLookT, prim, addD, subD, mulD, mulT, fdivD, modD, powD, negD, ltD, leD, gtD, geD, ordD, cmpD, isD, inSD, eqT, binO, lenT, strT, negT, lenD, strD, absD, intD, max2D, min2D, allD, anyD, listD, tupleD, reprD, revD, ixD, rgD, permS, pick, dflt, mkF, endD, endO, endI, startD, Pat.put, Pat.putL, blkD, wipeD, keepVB, cntBag, inW, wBmS, wBmL, splitD, partD, sindexD, findD, lindexD, sumD, sortID, wRng3, wCD, wCIx, wDispIx, wDispL, wPr, wAsgP, notLD, notS, wLook2, ownsD, prim, endP, ↓DD.ixK_0, ↓DD.ixK_1, ↓DD.ixK_2, ↓DD.ixK_3, ↓DD.ixK_4, ↓DD.ixK_5, ↓DD.ixK_6, ↓DD.ixK_7, ↓DD.ixK_8, ↓DD.ixK_9, ↓DD.ixK_10, ↓DD.ixK_11, ↓DD.ixK_12, ↓DD.ixK_13, DD.ite_tt, DD.ite_ft, DD.itp_tt, DD.itp_ft, DD.map_c, DD.map_n, DD.set_c0, DD.set_cs, DD.get_c0, DD.get_cs, List.getElem?_cons_zero, List.getElem?_cons_succ, List.set_cons_zero, List.set_cons_succ, List.length_cons, List.length_nil, List.map_cons, List.map_nil, List.replicate, List.append_assoc, List.nil_append, List.cons_append, List.append_nil, List.foldl_cons, List.foldl_nil, Nat.reduceAdd, Nat.reduceSub, String.reduceBEq, Nat.reduceBEq, String.reduceEq, beq_self_eq_true, List.lookup, if_true, if_false, Bool.false_eq_true, true_and, and_true, Bool.not_true, Bool.not_false, reduceIte]
    refine ⟨Nat.le_refl 1, _, rfl, by omega, fun r r0 r1 => ?_⟩
    refine ⟨Nat.zero_le 1, _, _, rfl, ⟨by omega, (sm u hu).1, (sm _ (by omega)).1⟩, hK _ ?_⟩
    clear hK K
    obtain ⟨hlow, l2, l3⟩ := low_of (x := u) (y := 1 + r) (by omega)
    have hb : 0 < (1 + r) / Int.gcd u (1 + r) := hlow.1
    have hb2 : (1 + r) / Int.gcd u (1 + r) ≤ 60 := by omega
    have ht : (u / Int.gcd u (1 + r)).natAbs < 1000000000 := by omega
    generalize u / Int.gcd u (1 + r) = t at *
    generalize (1 + r) / Int.gcd u (1 + r) = b at *
    have wl := writ_low ht ⟨hb, hb2⟩
    have mt := (sm t ht).2
    have mb := (sm b (by omega)).2
    refine seq_op fun K hK => ?_
    dsimp only [wSeq, wSkip, wBrk, wCnt, wNever, wRet, wRetN, wExpr, wIfS, wAsg, sto, wTru, truD, wTAnd, wTOr, wTNot, wTB, wYes, wAnd, wOr, wNot, wIf, wChain, wC, wVar, wOp, wUn, wNil, wCons, allV, wN, wTup, wLst, wd, wRng1, wRng2, wEnum, wZip, wIt, wFor, wLc, wIsi, isiD, tyN, wFld, wSetF, wCall, wCallK, wMeth, wMethK, wMethK0, wBagCall, wBagIx, wBagSet, wScrIx, wSlX, slDX, wSl, slD, wOptI, wNoI, wIxN, wLenN, wListR, wTupR, wR1, wR2, wJoin, joinD, fJs, fmtD, wPar, wPar3, wAsgT, wApp, wExt, wSetI, ownAt, wAug, wFrz, frzD, frz1, wLook, wLookT, prim, addD, subD, mulD, mulT, fdivD, modD, powD, negD, ltD, leD, gtD, geD, ordD, cmpD, isD, inSD, eqT, binO, lenT, strT, negT, lenD, strD, absD, intD, max2D, min2D, allD, anyD, listD, tupleD, reprD, revD, ixD, rgD, permS, pick, dflt, mkF, endD, endO, endI, startD, Pat.put, Pat.putL, blkD, wipeD, keepVB, cntBag, inW, wBmS, wBmL, splitD, partD, sindexD, findD, lindexD, sumD, sortID, wRng3, wCD, wCIx, wDispIx, wDispL, wPr, wAsgP, notLD, notS, wLook2, ownsD, prim, endP, ↓DD.ixK_0, ↓DD.ixK_1, ↓DD.ixK_2, ↓DD.ixK_3, ↓DD.ixK_4, ↓DD.ixK_5, ↓DD.ixK_6, ↓DD.ixK_7, ↓DD.ixK_8, ↓DD.ixK_9, ↓DD.ixK_10, ↓DD.ixK_11, ↓DD.ixK_12, ↓DD.ixK_13, DD.ite_tt, DD.ite_ft, DD.itp_tt, DD.itp_ft, DD.map_c, DD.map_n, DD.set_c0, DD.set_cs, DD.get_c0, DD.get_cs, List.getElem?_cons_zero, List.getElem?_cons_succ, List.set_cons_zero, List.set_cons_succ, List.length_cons, List.length_nil, List.map_cons, List.map_nil, List.replicate, List.append_assoc, List.nil_append, List.cons_append, List.append_nil, List.foldl_cons, List.foldl_nil, Nat.reduceAdd, Nat.reduceSub, String.reduceBEq, Nat.reduceBEq, String.reduceEq, beq_self_eq_true, List.lookup, if_true, if_false, Bool.false_eq_true, true_and, and_true, Bool.not_true, Bool.not_false, reduceIte, sp__law_written]
    refine ⟨by decide, t, b, rfl, mt, mb, by decide, rfl, ⟨t, b, rfl, hb, Nat.lt_of_lt_of_le (m := 2 ^ 100) (by omega) (Nat.pow_le_pow_right (by decide) (by decide)), szOk_of (by decide), rfl, ?_⟩⟩
    rw [hlow.2]
    rw [show t / ((1 : Nat) : Int) = t by simp, show b / ((1 : Nat) : Int) = b by simp]
    refine hK _ ?_
    clear hK K
    have hrd : readP (S (writL t b)) = some (t, b) := read_writ hlow rfl
    have od := odd_str (wl.mono (by decide))
    have hwl := wl.1
    generalize hS : S (writL t b) = s at hrd od hwl wl ⊢
    refine seq_op fun K hK => ?_
    dsimp only [wSeq, wSkip, wBrk, wCnt, wNever, wRet, wRetN, wExpr, wIfS, wAsg, sto, wTru, truD, wTAnd, wTOr, wTNot, wTB, wYes, wAnd, wOr, wNot, wIf, wChain, wC, wVar, wOp, wUn, wNil, wCons, allV, wN, wTup, wLst, wd, wRng1, wRng2, wEnum, wZip, wIt, wFor, wLc, wIsi, isiD, tyN, wFld, wSetF, wCall, wCallK, wMeth, wMethK, wMethK0, wBagCall, wBagIx, wBagSet, wScrIx, wSlX, slDX, wSl, slD, wOptI, wNoI, wIxN, wLenN, wListR, wTupR, wR1, wR2, wJoin, joinD, fJs, fmtD, wPar, wPar3, wAsgT, wApp, wExt, wSetI, ownAt, wAug, wFrz, frzD, frz1, wLook, wLookT, prim, addD, subD, mulD, mulT, fdivD, modD, powD, negD, ltD, leD, gtD, geD, ordD, cmpD, isD, inSD, eqT, binO, lenT, strT, negT, lenD, strD, absD, intD, max2D, min2D, allD, anyD, listD, tupleD, reprD, revD, ixD, rgD, permS, pick, dflt, mkF, endD, endO, endI, startD, Pat.put, Pat.putL, blkD, wipeD, keepVB, cntBag, inW, wBmS, wBmL, splitD, partD, sindexD, findD, lindexD, sumD, sortID, wRng3, wCD, wCIx, wDispIx, wDispL, wPr, wAsgP, notLD, notS, wLook2, ownsD, prim, endP, ↓DD.ixK_0, ↓DD.ixK_1, ↓DD.ixK_2, ↓DD.ixK_3, ↓DD.ixK_4, ↓DD.ixK_5, ↓DD.ixK_6, ↓DD.ixK_7, ↓DD.ixK_8, ↓DD.ixK_9, ↓DD.ixK_10, ↓DD.ixK_11, ↓DD.ixK_12, ↓DD.ixK_13, DD.ite_tt, DD.ite_ft, DD.itp_tt, DD.itp_ft, DD.map_c, DD.map_n, DD.set_c0, DD.set_cs, DD.get_c0, DD.get_cs, List.getElem?_cons_zero, List.getElem?_cons_succ, List.set_cons_zero, List.set_cons_succ, List.length_cons, List.length_nil, List.map_cons, List.map_nil, List.replicate, List.append_assoc, List.nil_append, List.cons_append, List.append_nil, List.foldl_cons, List.foldl_nil, Nat.reduceAdd, Nat.reduceSub, String.reduceBEq, Nat.reduceBEq, String.reduceEq, beq_self_eq_true, List.lookup, if_true, if_false, Bool.false_eq_true, true_and, and_true, Bool.not_true, Bool.not_false, reduceIte, noX, sp_Ratio_str, spx_Ratio_read]
    have nn : ¬ readD (.str s) = none := fun hn => by
      have : readP s = none := hn
      rw [hrd] at this; cases this
    refine ⟨t, b, rfl, mt, mb, by decide, _, rfl, od.odd, fun hn => nn hn, fun t2 b2 hr2 => ?_⟩
    have hr2 : readP s = some (t2, b2) := hr2
    rw [hrd] at hr2
    obtain ⟨rfl, rfl⟩ := Prod.mk.inj (Option.some.inj hr2)
    dsimp only [rat]
    refine ⟨t, b, rfl, mt, mb, ?_⟩
    dsimp only
    refine ⟨⟨rfl, rfl⟩, by decide, by decide, _, rfl, od.odd, fun hn => nn hn, fun t3 b3 hr3 => ?_⟩
    have hr3 : readP s = some (t3, b3) := hr3
    rw [hrd] at hr3
    obtain ⟨rfl, rfl⟩ := Prod.mk.inj (Option.some.inj hr3)
    refine ⟨rfl, .inl ⟨t, b, _, t, b, rfl, ⟨rfl, hlow, (sm t ht).1, (sm b (by omega)).1⟩, ?_⟩⟩
    dsimp only
    rw [hS, beq_self_eq_true, beq_self_eq_true]
    have sok : okD 29 (.str s) = true := by unfold okD; exact (od.lo s rfl).ok
    refine ⟨szOk_of (by decide), szOk_of (by decide), ⟨?_, ?_⟩, ?_⟩
    · unfold okD
      rw [List.all_cons, List.all_cons, sok]; rfl
    · unfold okD
      rw [List.all_cons, List.all_cons, sok]; rfl
    rw [if_neg (by unfold eqD eqDs; simp [eqD, eqDs])]
    refine hK _ ?_
    clear hK K
    refine seq_op fun K hK => ?_
    dsimp only [wSeq, wSkip, wBrk, wCnt, wNever, wRet, wRetN, wExpr, wIfS, wAsg, sto, wTru, truD, wTAnd, wTOr, wTNot, wTB, wYes, wAnd, wOr, wNot, wIf, wChain, wC, wVar, wOp, wUn, wNil, wCons, allV, wN, wTup, wLst, wd, wRng1, wRng2, wEnum, wZip, wIt, wFor, wLc, wIsi, isiD, tyN, wFld, wSetF, wCall, wCallK, wMeth, wMethK, wMethK0, wBagCall, wBagIx, wBagSet, wScrIx, wSlX, slDX, wSl, slD, wOptI, wNoI, wIxN, wLenN, wListR, wTupR, wR1, wR2, wJoin, joinD, fJs, fmtD, wPar, wPar3, wAsgT, wApp, wExt, wSetI, ownAt, wAug, wFrz, frzD, frz1, wLook, wLookT, prim, addD, subD, mulD, mulT, fdivD, modD, powD, negD, ltD, leD, gtD, geD, ordD, cmpD, isD, inSD, eqT, binO, lenT, strT, negT, lenD, strD, absD, intD, max2D, min2D, allD, anyD, listD, tupleD, reprD, revD, ixD, rgD, permS, pick, dflt, mkF, endD, endO, endI, startD, Pat.put, Pat.putL, blkD, wipeD, keepVB, cntBag, inW, wBmS, wBmL, splitD, partD, sindexD, findD, lindexD, sumD, sortID, wRng3, wCD, wCIx, wDispIx, wDispL, wPr, wAsgP, notLD, notS, wLook2, ownsD, prim, endP, ↓DD.ixK_0, ↓DD.ixK_1, ↓DD.ixK_2, ↓DD.ixK_3, ↓DD.ixK_4, ↓DD.ixK_5, ↓DD.ixK_6, ↓DD.ixK_7, ↓DD.ixK_8, ↓DD.ixK_9, ↓DD.ixK_10, ↓DD.ixK_11, ↓DD.ixK_12, ↓DD.ixK_13, DD.ite_tt, DD.ite_ft, DD.itp_tt, DD.itp_ft, DD.map_c, DD.map_n, DD.set_c0, DD.set_cs, DD.get_c0, DD.get_cs, List.getElem?_cons_zero, List.getElem?_cons_succ, List.set_cons_zero, List.set_cons_succ, List.length_cons, List.length_nil, List.map_cons, List.map_nil, List.replicate, List.append_assoc, List.nil_append, List.cons_append, List.append_nil, List.foldl_cons, List.foldl_nil, Nat.reduceAdd, Nat.reduceSub, String.reduceBEq, Nat.reduceBEq, String.reduceEq, beq_self_eq_true, List.lookup, if_true, if_false, Bool.false_eq_true, true_and, and_true, Bool.not_true, Bool.not_false, reduceIte]
    refine ⟨szOk_of (by omega), Nat.le_refl 1, _, rfl, by omega, fun r r0 r1 => ⟨szOk_of (by decide), Nat.le_refl 1, _, rfl, by simp, by simp, fun sg hsg => ?_⟩⟩
    obtain ⟨w, rfl, hw⟩ : ∃ w : Str, sg = .str w ∧ lowT 1 w := by
      simp only [List.mem_cons, List.not_mem_nil, or_false] at hsg
      rcases hsg with rfl | rfl | rfl | rfl | rfl | rfl | rfl | rfl | rfl <;> exact ⟨_, rfl, by decide +kernel, by decide +kernel⟩
    refine hK _ ?_
    clear hK K hsg
    obtain ⟨m, rfl⟩ : ∃ m : Nat, r = (m : Int) := ⟨r.toNat, by omega⟩
    refine seq_op fun K hK => ?_
    dsimp only [wSeq, wSkip, wBrk, wCnt, wNever, wRet, wRetN, wExpr, wIfS, wAsg, sto, wTru, truD, wTAnd, wTOr, wTNot, wTB, wYes, wAnd, wOr, wNot, wIf, wChain, wC, wVar, wOp, wUn, wNil, wCons, allV, wN, wTup, wLst, wd, wRng1, wRng2, wEnum, wZip, wIt, wFor, wLc, wIsi, isiD, tyN, wFld, wSetF, wCall, wCallK, wMeth, wMethK, wMethK0, wBagCall, wBagIx, wBagSet, wScrIx, wSlX, slDX, wSl, slD, wOptI, wNoI, wIxN, wLenN, wListR, wTupR, wR1, wR2, wJoin, joinD, fJs, fmtD, wPar, wPar3, wAsgT, wApp, wExt, wSetI, ownAt, wAug, wFrz, frzD, frz1, wLook, wLookT, prim, addD, subD, mulD, mulT, fdivD, modD, powD, negD, ltD, leD, gtD, geD, ordD, cmpD, isD, inSD, eqT, binO, lenT, strT, negT, lenD, strD, absD, intD, max2D, min2D, allD, anyD, listD, tupleD, reprD, revD, ixD, rgD, permS, pick, dflt, mkF, endD, endO, endI, startD, Pat.put, Pat.putL, blkD, wipeD, keepVB, cntBag, inW, wBmS, wBmL, splitD, partD, sindexD, findD, lindexD, sumD, sortID, wRng3, wCD, wCIx, wDispIx, wDispL, wPr, wAsgP, notLD, notS, wLook2, ownsD, prim, endP, ↓DD.ixK_0, ↓DD.ixK_1, ↓DD.ixK_2, ↓DD.ixK_3, ↓DD.ixK_4, ↓DD.ixK_5, ↓DD.ixK_6, ↓DD.ixK_7, ↓DD.ixK_8, ↓DD.ixK_9, ↓DD.ixK_10, ↓DD.ixK_11, ↓DD.ixK_12, ↓DD.ixK_13, DD.ite_tt, DD.ite_ft, DD.itp_tt, DD.itp_ft, DD.map_c, DD.map_n, DD.set_c0, DD.set_cs, DD.get_c0, DD.get_cs, List.getElem?_cons_zero, List.getElem?_cons_succ, List.set_cons_zero, List.set_cons_succ, List.length_cons, List.length_nil, List.map_cons, List.map_nil, List.replicate, List.append_assoc, List.nil_append, List.cons_append, List.append_nil, List.foldl_cons, List.foldl_nil, Nat.reduceAdd, Nat.reduceSub, String.reduceBEq, Nat.reduceBEq, String.reduceEq, beq_self_eq_true, List.lookup, if_true, if_false, Bool.false_eq_true, true_and, and_true, Bool.not_true, Bool.not_false, reduceIte]
    rw [show ((m : Int) + 1) = ((m + 1 : Nat) : Int) by omega]
    have c1 := wl.to m
    have c2 := wl.fro m
    have c3 := wl.fro (m + 1)
    have c4 := c1.app hw
    have h1 := c1.1
    have h2 := c2.1
    have h3 := c3.1
    have h4 := hw.1
    have h5 := c4.1
    refine ⟨szOk_of (by omega), szOk_of (by omega), szOk_of (by omega), szOk_of (by omega), szOk_of (by omega), szOk_of (by omega), szOk_of (by omega), szOk_of (by omega), szOk_of (by omega), szOk_of (by omega), szOk_of (by omega), szOk_of (by decide), ?_⟩
    have k1 := cut_len s (m := m) (Nat.le_refl m)
    have k2 := cut_len s (m := m) (k := m + 1) (by omega)
    have A : lowT 19 (L2.cutS s none (some (m : Int)) ++ w ++ L2.cutS s (some (m : Int)) none) := ⟨by rw [alen, alen]; omega, (c4.app c2).2⟩
    have B : lowT 19 (L2.cutS s none (some (m : Int)) ++ L2.cutS s (some ((m + 1 : Nat) : Int)) none) := ⟨by rw [alen]; omega, (c1.app c3).2⟩
    have C : lowT 19 (L2.cutS s none (some (m : Int)) ++ w ++ L2.cutS s (some ((m + 1 : Nat) : Int)) none) := ⟨by rw [alen, alen]; omega, (c4.app c3).2⟩
    generalize L2.cutS s none (some (m : Int)) ++ w ++ L2.cutS s (some (m : Int)) none = tA at A ⊢
    generalize L2.cutS s none (some (m : Int)) ++ w ++ L2.cutS s (some ((m + 1 : Nat) : Int)) none = tB at C ⊢
    generalize L2.cutS s none (some (m : Int)) ++ L2.cutS s (some ((m + 1 : Nat) : Int)) none = tC at B ⊢
    refine hK _ ?_
    clear hK K c1 c2 c3 c4 h1 h2 h3 h4 h5 k1 k2
    refine seq_op fun K hK => ?_
    dsimp only [wAsg, wLook2, wLook, wRet, wIfS, wFrz, wApp, ownAt, wLc, wExpr, blkD, wipeD, DD.frzD, frz1, List.foldl_cons, List.foldl_nil, DD.map_c, DD.map_n, DD.set_c0, DD.set_cs, keepVB, DD.get_c0, DD.get_cs]
    dsimp only [wSeq, wSkip, wBrk, wCnt, wNever, wRet, wRetN, wExpr, wIfS, wAsg, sto, wTru, truD, wTAnd, wTOr, wTNot, wTB, wYes, wAnd, wOr, wNot, wIf, wChain, wC, wVar, wOp, wUn, wNil, wCons, allV, wN, wTup, wLst, wd, wRng1, wRng2, wEnum, wZip, wIt, wFor, wLc, wIsi, isiD, tyN, wFld, wSetF, wCall, wCallK, wMeth, wMethK, wMethK0, wBagCall, wBagIx, wBagSet, wScrIx, wSlX, slDX, wSl, slD, wOptI, wNoI, wIxN, wLenN, wListR, wTupR, wR1, wR2, wJoin, joinD, fJs, fmtD, wPar, wPar3, wAsgT, wApp, wExt, wSetI, ownAt, wAug, wFrz, frzD, frz1, wLook, wLookT, prim, addD, subD, mulD, mulT, fdivD, modD, powD, negD, ltD, leD, gtD, geD, ordD, cmpD, isD, inSD, eqT, binO, lenT, strT, negT, lenD, strD, absD, intD, max2D, min2D, allD, anyD, listD, tupleD, reprD, revD, ixD, rgD, permS, pick, dflt, mkF, endD, endO, endI, startD, Pat.put, Pat.putL, blkD, wipeD, keepVB, cntBag, inW, wBmS, wBmL, splitD, partD, sindexD, findD, lindexD, sumD, sortID, wRng3, wCD, wCIx, wDispIx, wDispL, wPr, wAsgP, notLD, notS, wLook2, ownsD, prim, endP, ↓DD.ixK_0, ↓DD.ixK_1, ↓DD.ixK_2, ↓DD.ixK_3, ↓DD.ixK_4, ↓DD.ixK_5, ↓DD.ixK_6, ↓DD.ixK_7, ↓DD.ixK_8, ↓DD.ixK_9, ↓DD.ixK_10, ↓DD.ixK_11, ↓DD.ixK_12, ↓DD.ixK_13, DD.ite_tt, DD.ite_ft, DD.itp_tt, DD.itp_ft, DD.map_c, DD.map_n, DD.set_c0, DD.set_cs, DD.get_c0, DD.get_cs, List.getElem?_cons_zero, List.getElem?_cons_succ, List.set_cons_zero, List.set_cons_succ, List.length_cons, List.length_nil, List.map_cons, List.map_nil, List.replicate, List.append_assoc, List.nil_append, List.cons_append, List.append_nil, List.foldl_cons, List.foldl_nil, Nat.reduceAdd, Nat.reduceSub, String.reduceBEq, Nat.reduceBEq, String.reduceEq, beq_self_eq_true, List.lookup, if_true, if_false, Bool.false_eq_true, true_and, and_true, Bool.not_true, Bool.not_false, reduceIte]
    refine ⟨Nat.le_refl 1, _, rfl, by simp, by simp, fun d hd => ?_⟩
    obtain ⟨z, rfl, hz⟩ : ∃ z, d = .str z ∧ lowT 19 z := by
      simp only [List.mem_cons, List.not_mem_nil, or_false] at hd
      rcases hd with rfl | rfl | rfl
      · exact ⟨_, rfl, A⟩
      · exact ⟨_, rfl, B⟩
      · exact ⟨_, rfl, C⟩
    refine hK _ ?_
    clear hK K hd A B C
    refine seq_op fun K hK => ?_
    dsimp only [wSeq, wSkip, wBrk, wCnt, wNever, wRet, wRetN, wExpr, wIfS, wAsg, sto, wTru, truD, wTAnd, wTOr, wTNot, wTB, wYes, wAnd, wOr, wNot, wIf, wChain, wC, wVar, wOp, wUn, wNil, wCons, allV, wN, wTup, wLst, wd, wRng1, wRng2, wEnum, wZip, wIt, wFor, wLc, wIsi, isiD, tyN, wFld, wSetF, wCall, wCallK, wMeth, wMethK, wMethK0, wBagCall, wBagIx, wBagSet, wScrIx, wSlX, slDX, wSl, slD, wOptI, wNoI, wIxN, wLenN, wListR, wTupR, wR1, wR2, wJoin, joinD, fJs, fmtD, wPar, wPar3, wAsgT, wApp, wExt, wSetI, ownAt, wAug, wFrz, frzD, frz1, wLook, wLookT, prim, addD, subD, mulD, mulT, fdivD, modD, powD, negD, ltD, leD, gtD, geD, ordD, cmpD, isD, inSD, eqT, binO, lenT, strT, negT, lenD, strD, absD, intD, max2D, min2D, allD, anyD, listD, tupleD, reprD, revD, ixD, rgD, permS, pick, dflt, mkF, endD, endO, endI, startD, Pat.put, Pat.putL, blkD, wipeD, keepVB, cntBag, inW, wBmS, wBmL, splitD, partD, sindexD, findD, lindexD, sumD, sortID, wRng3, wCD, wCIx, wDispIx, wDispL, wPr, wAsgP, notLD, notS, wLook2, ownsD, prim, endP, ↓DD.ixK_0, ↓DD.ixK_1, ↓DD.ixK_2, ↓DD.ixK_3, ↓DD.ixK_4, ↓DD.ixK_5, ↓DD.ixK_6, ↓DD.ixK_7, ↓DD.ixK_8, ↓DD.ixK_9, ↓DD.ixK_10, ↓DD.ixK_11, ↓DD.ixK_12, ↓DD.ixK_13, DD.ite_tt, DD.ite_ft, DD.itp_tt, DD.itp_ft, DD.map_c, DD.map_n, DD.set_c0, DD.set_cs, DD.get_c0, DD.get_cs, List.getElem?_cons_zero, List.getElem?_cons_succ, List.set_cons_zero, List.set_cons_succ, List.length_cons, List.length_nil, List.map_cons, List.map_nil, List.replicate, List.append_assoc, List.nil_append, List.cons_append, List.append_nil, List.foldl_cons, List.foldl_nil, Nat.reduceAdd, Nat.reduceSub, String.reduceBEq, Nat.reduceBEq, String.reduceEq, beq_self_eq_true, List.lookup, if_true, if_false, Bool.false_eq_true, true_and, and_true, Bool.not_true, Bool.not_false, reduceIte, wAns, wN1, wCallX, sp_Ratio_str]
    have odz := odd_str hz
    have okz : okA z := odz.lo z rfl
    have oki : okA (Str.ofString "InvalidText") := by unfold okA; decide +kernel
    have okr : okA (Str.ofString "returned") := by unfold okA; decide +kernel
    have two : ∀ a b : Str, okA a → okA b → okD 30 (.lst [.str a, .str b]) = true := fun a b ha hb => by
      unfold okD
      rw [List.all_cons, List.all_cons, List.all_nil, Bool.and_true, Bool.and_eq_true]
      exact ⟨by unfold okD; exact ha.ok, by unfold okD; exact hb.ok⟩
    have eqq : ∀ a b : Str, (!eqD (.lst [.str a, .str b]) (.lst [.str a, .str b])) = false := fun a b => by
      unfold eqD eqDs; simp [eqD, eqDs]
    refine ⟨by decide, ans_str hz (fun t' b' hr ht' hb' hw' => ?_) fun hn => ?_⟩
    · dsimp only [rat]
      refine ⟨t', b', rfl, ht', hb', ?_⟩
      dsimp only
      rw [hw']
      refine hK _ ?_
      clear hK K
      dsimp only [wSeq, wSkip, wBrk, wCnt, wNever, wRet, wRetN, wExpr, wIfS, wAsg, sto, wTru, truD, wTAnd, wTOr, wTNot, wTB, wYes, wAnd, wOr, wNot, wIf, wChain, wC, wVar, wOp, wUn, wNil, wCons, allV, wN, wTup, wLst, wd, wRng1, wRng2, wEnum, wZip, wIt, wFor, wLc, wIsi, isiD, tyN, wFld, wSetF, wCall, wCallK, wMeth, wMethK, wMethK0, wBagCall, wBagIx, wBagSet, wScrIx, wSlX, slDX, wSl, slD, wOptI, wNoI, wIxN, wLenN, wListR, wTupR, wR1, wR2, wJoin, joinD, fJs, fmtD, wPar, wPar3, wAsgT, wApp, wExt, wSetI, ownAt, wAug, wFrz, frzD, frz1, wLook, wLookT, prim, addD, subD, mulD, mulT, fdivD, modD, powD, negD, ltD, leD, gtD, geD, ordD, cmpD, isD, inSD, eqT, binO, lenT, strT, negT, lenD, strD, absD, intD, max2D, min2D, allD, anyD, listD, tupleD, reprD, revD, ixD, rgD, permS, pick, dflt, mkF, endD, endO, endI, startD, Pat.put, Pat.putL, blkD, wipeD, keepVB, cntBag, inW, wBmS, wBmL, splitD, partD, sindexD, findD, lindexD, sumD, sortID, wRng3, wCD, wCIx, wDispIx, wDispL, wPr, wAsgP, notLD, notS, wLook2, ownsD, prim, endP, ↓DD.ixK_0, ↓DD.ixK_1, ↓DD.ixK_2, ↓DD.ixK_3, ↓DD.ixK_4, ↓DD.ixK_5, ↓DD.ixK_6, ↓DD.ixK_7, ↓DD.ixK_8, ↓DD.ixK_9, ↓DD.ixK_10, ↓DD.ixK_11, ↓DD.ixK_12, ↓DD.ixK_13, DD.ite_tt, DD.ite_ft, DD.itp_tt, DD.itp_ft, DD.map_c, DD.map_n, DD.set_c0, DD.set_cs, DD.get_c0, DD.get_cs, List.getElem?_cons_zero, List.getElem?_cons_succ, List.set_cons_zero, List.set_cons_succ, List.length_cons, List.length_nil, List.map_cons, List.map_nil, List.replicate, List.append_assoc, List.nil_append, List.cons_append, List.append_nil, List.foldl_cons, List.foldl_nil, Nat.reduceAdd, Nat.reduceSub, String.reduceBEq, Nat.reduceBEq, String.reduceEq, beq_self_eq_true, List.lookup, if_true, if_false, Bool.false_eq_true, true_and, and_true, Bool.not_true, Bool.not_false, reduceIte, sp__law_read]
      refine ⟨by decide, z, rfl, hz.1, hz.2, ?_⟩
      rw [hr]
      dsimp only [pairO]
      change if (false : Bool) = true then _ else _
      rw [if_neg Bool.false_ne_true, eqq, if_neg Bool.false_ne_true]
      exact ⟨szOk_of (by decide), ⟨two _ _ okr okz, two _ _ okr okz⟩, hK2 _ ⟨_, rfl, rfl⟩⟩
    · refine hK _ ?_
      clear hK K
      dsimp only [wSeq, wSkip, wBrk, wCnt, wNever, wRet, wRetN, wExpr, wIfS, wAsg, sto, wTru, truD, wTAnd, wTOr, wTNot, wTB, wYes, wAnd, wOr, wNot, wIf, wChain, wC, wVar, wOp, wUn, wNil, wCons, allV, wN, wTup, wLst, wd, wRng1, wRng2, wEnum, wZip, wIt, wFor, wLc, wIsi, isiD, tyN, wFld, wSetF, wCall, wCallK, wMeth, wMethK, wMethK0, wBagCall, wBagIx, wBagSet, wScrIx, wSlX, slDX, wSl, slD, wOptI, wNoI, wIxN, wLenN, wListR, wTupR, wR1, wR2, wJoin, joinD, fJs, fmtD, wPar, wPar3, wAsgT, wApp, wExt, wSetI, ownAt, wAug, wFrz, frzD, frz1, wLook, wLookT, prim, addD, subD, mulD, mulT, fdivD, modD, powD, negD, ltD, leD, gtD, geD, ordD, cmpD, isD, inSD, eqT, binO, lenT, strT, negT, lenD, strD, absD, intD, max2D, min2D, allD, anyD, listD, tupleD, reprD, revD, ixD, rgD, permS, pick, dflt, mkF, endD, endO, endI, startD, Pat.put, Pat.putL, blkD, wipeD, keepVB, cntBag, inW, wBmS, wBmL, splitD, partD, sindexD, findD, lindexD, sumD, sortID, wRng3, wCD, wCIx, wDispIx, wDispL, wPr, wAsgP, notLD, notS, wLook2, ownsD, prim, endP, ↓DD.ixK_0, ↓DD.ixK_1, ↓DD.ixK_2, ↓DD.ixK_3, ↓DD.ixK_4, ↓DD.ixK_5, ↓DD.ixK_6, ↓DD.ixK_7, ↓DD.ixK_8, ↓DD.ixK_9, ↓DD.ixK_10, ↓DD.ixK_11, ↓DD.ixK_12, ↓DD.ixK_13, DD.ite_tt, DD.ite_ft, DD.itp_tt, DD.itp_ft, DD.map_c, DD.map_n, DD.set_c0, DD.set_cs, DD.get_c0, DD.get_cs, List.getElem?_cons_zero, List.getElem?_cons_succ, List.set_cons_zero, List.set_cons_succ, List.length_cons, List.length_nil, List.map_cons, List.map_nil, List.replicate, List.append_assoc, List.nil_append, List.cons_append, List.append_nil, List.foldl_cons, List.foldl_nil, Nat.reduceAdd, Nat.reduceSub, String.reduceBEq, Nat.reduceBEq, String.reduceEq, beq_self_eq_true, List.lookup, if_true, if_false, Bool.false_eq_true, true_and, and_true, Bool.not_true, Bool.not_false, reduceIte, sp__law_read]
      refine ⟨by decide, z, rfl, hz.1, hz.2, ?_⟩
      rw [hn]
      dsimp only [pairO]
      change if (true : Bool) = true then _ else _
      · rw [if_pos rfl, eqq, if_neg Bool.false_ne_true]
        exact ⟨odd_repr odz.odd, odz.sz, szOk_of (by decide), ⟨two _ _ oki odz.ok, two _ _ oki odz.ok⟩, hK2 _ ⟨_, rfl, rfl⟩⟩
end K02
namespace K02
open PySem L2 DD
/-- what stands behind the top -/
structure Txt (K : PySem.W.Frag) (w : World) (mg : Str → Option Value) (cs : List Addr) : Prop where
  c_BLOCK : ∃ t, mg "BLOCK" = some (.int 40 t)
  g_InvalidText : mg "InvalidText" = some (.ref ((tb K cs).ca 1))
  g_QuestionError : mg "QuestionError" = some (.ref ((tb K cs).ca 3))
  g_Ratio : mg "Ratio" = some (.ref ((tb K cs).ca 0))
  g_ShapeError : mg "ShapeError" = some (.ref ((tb K cs).ca 2))
  g_SizeError : mg "SizeError" = some (.ref ((tb K cs).ca 4))
  isi_Ratio : IsiOk (tb K cs) K (.ref ((tb K cs).ca 0)) isiB_Ratio isiC_Ratio
  isi_bool : IsiOk (tb K cs) K (.type "bool") isiB_bool isiC_bool
  isi_int : IsiOk (tb K cs) K (.type "int") isiB_int isiC_int
  isi_str : IsiOk (tb K cs) K (.type "str") isiB_str isiC_str
  isx_ArithmeticError : ∀ p, IsXOk ((tb K cs).at p) K (.type "ArithmeticError") isX_ArithmeticError
  isx_InvalidText : ∀ p, IsXOk ((tb K cs).at p) K (.ref ((tb K cs).ca 1)) isX_InvalidText
  isx_LookupError : ∀ p, IsXOk ((tb K cs).at p) K (.type "LookupError") isX_LookupError
  isx_QuestionError : ∀ p, IsXOk ((tb K cs).at p) K (.ref ((tb K cs).ca 3)) isX_QuestionError
  isx_ShapeError : ∀ p, IsXOk ((tb K cs).at p) K (.ref ((tb K cs).ca 2)) isX_ShapeError
  isx_SizeError : ∀ p, IsXOk ((tb K cs).at p) K (.ref ((tb K cs).ca 4)) isX_SizeError
  isx_ValueError : ∀ p, IsXOk ((tb K cs).at p) K (.type "ValueError") isX_ValueError
  n_ArithmeticError : mg "ArithmeticError" = none
  n_LookupError : mg "LookupError" = none
  n_ValueError : mg "ValueError" = none
  n_abs : mg "abs" = none
  n_all : mg "all" = none
  n_bool : mg "bool" = none
  n_int : mg "int" = none
  n_isinstance : mg "isinstance" = none
  n_len : mg "len" = none
  n_max : mg "max" = none
  n_min : mg "min" = none
  n_range : mg "range" = none
  n_repr : mg "repr" = none
  n_str : mg "str" = none
  xf_value : ∀ p, XfOk ((tb K cs).at p) K "value" xfI_value
  cl_Ratio : Cls K ((tb K cs).ca 0)
  no_Ratio_top : NoAttr K ((tb K cs).ca 0) "top"
  no_Ratio_bottom : NoAttr K ((tb K cs).ca 0) "bottom"
  eq_Ratio : EqCls K ((tb K cs).ca 0)
section
variable {K : PySem.W.Frag} {w : World} {mg : Str → Option Value} {cs : List Addr}
theorem Txt.hK (Z : Txt K w mg cs) : (tb K cs).K = K := rfl
theorem Txt.fld_bottom (Z : Txt K w mg cs) : FldOk (tb K cs) K "bottom" [(0, 1)] := FldOk.cons Z.cl_Ratio Z.no_Ratio_bottom rfl (show (fl 0).Nodup by decide +kernel) (FldOk.nil)
theorem Txt.fld_top (Z : Txt K w mg cs) : FldOk (tb K cs) K "top" [(0, 0)] := FldOk.cons Z.cl_Ratio Z.no_Ratio_top rfl (show (fl 0).Nodup by decide +kernel) (FldOk.nil)
theorem eqc_Ratio (Z : Txt K w mg cs) : ∀ c sp, ([(0, sp_Ratio_eq)] : Tab).lookup c = some sp → EqCls K ((tb K cs).ca c) := EqTab.cons Z.eq_Ratio (EqTab.nil)
end
abbrev st_is_integer : Stmt := top 2
theorem sc_is_integer : FnScope ["value"] ["value"] (defScope st_is_integer) := ⟨rfl, rfl, rfl, by decide +kernel, rfl, by decide +kernel, by decide +kernel⟩
theorem dv_is_integer {P : Program} {w : World} {K : PySem.W.Frag} {mg : Str → Option Value} {base : Heap} {cs : List Addr} (Z : Txt K w mg cs)  {f : Addr} (cdv : Value) (A : Around) (outer : List Env) (s : Shared) (H : Hp) (E : XK)
    (hr : RoomG 0 (A.deeper (PyProof.Rows.envOfC "is_integer" (defScope st_is_integer) s.heap.objs.size f cdv))) : PSs (cxOf CX0 P w K mg base ["value"] "is_integer" (defScope st_is_integer) f cdv A outer s H E).nox (defBody st_is_integer) (liftS (tb K cs) w_is_integer) :=
  s_one (s_ret (d_and (d_isiB Z.isi_int Z.n_int boot_int Z.n_isinstance (d_var 0)) (d_one (d_not (d_isiB Z.isi_bool Z.n_bool boot_bool Z.n_isinstance (d_var 0))))))
abbrev st_are_figures : Stmt := top 3
theorem sc_are_figures : FnScope ["text", "sign"] ["text"] (defScope st_are_figures) := ⟨rfl, rfl, rfl, by decide +kernel, rfl, by decide +kernel, by decide +kernel⟩
theorem dv_are_figures {P : Program} {w : World} {K : PySem.W.Frag} {mg : Str → Option Value} {base : Heap} {cs : List Addr} (Z : Txt K w mg cs)  {f : Addr} (cdv : Value) (A : Around) (outer : List Env) (s : Shared) (H : Hp) (E : XK)
    (hr : RoomG 0 (A.deeper (PyProof.Rows.envOfC "are_figures" (defScope st_are_figures) s.heap.objs.size f cdv))) : PSs (cxOf CX0 P w K mg base ["text", "sign"] "are_figures" (defScope st_are_figures) f cdv A outer s H E).nox (defBody st_are_figures) (liftS (tb K cs) w_are_figures) :=
  s_seq (s_if (PW.pt (tw_or (t_cmp (o_eq hr.rm.units) p_eqD (d_var 0) (d_str)) (tw_or1 (t_not (t_tru (d_callB (cr_all rfl) p_all Z.n_all boot_all (a_cons (d_lc (own := [("sign", 1)]) rfl sc_are_figures.nd (i_seq (d_var 0)) (blkOk_by (N := ["text", "sign"]) (sc := defScope st_are_figures) (own := [("sign", 1)]) (by decide +kernel)) (fun _ _ _ _ _ => g_nm 1 sc_are_figures.nd) (fun _ _ _ _ _ => ts_nil) (fun _ _ _ _ _ => d_cmp (o_inW (room65 hr)) p_inW (d_var 1) (d_str)) (by decide)) (a_nil)))))))) (s_one (s_ret (d_bl))) (s_nil)) (s_one (s_ret (d_or (d_cmp (o_eq hr.rm.units) p_eqD (d_var 0) (d_str)) (d_one (d_cmp (o_ne hr.rm.units) p_neD (d_ixN 0 (d_int)) (d_str))))))
abbrev st_InvalidText_init : Stmt := inClass (top 7) 0
theorem sc_InvalidText_init : FnScope ["self", "value"] ["self", "value"] (defScope st_InvalidText_init) := ⟨rfl, rfl, rfl, by decide +kernel, rfl, by decide +kernel, by decide +kernel⟩
abbrev st_text_of : Stmt := top 12
theorem sc_text_of : FnScope ["number", "rest", "found", "last"] ["number"] (defScope st_text_of) := ⟨rfl, rfl, rfl, by decide +kernel, rfl, by decide +kernel, by decide +kernel⟩
theorem dv_text_of {P : Program} {w : World} {K : PySem.W.Frag} {mg : Str → Option Value} {base : Heap} {cs : List Addr} (Z : Txt K w mg cs)  {f : Addr} (cdv : Value) (A : Around) (outer : List Env) (s : Shared) (H : Hp) (E : XK)
    (hr : RoomG 0 (A.deeper (PyProof.Rows.envOfC "text_of" (defScope st_text_of) s.heap.objs.size f cdv))) : PSs (cxOf CX0 P w K mg base ["number", "rest", "found", "last"] "text_of" (defScope st_text_of) f cdv A outer s H E).nox (defBody st_text_of) (liftS (tb K cs) w_text_of) :=
  s_seq (s_par 1 2 rfl sc_text_of.nd (by decide) (d_callB call_abs p_abs Z.n_abs boot_abs (a_cons (d_var 0) (a_nil))) (d_str) (by rfl)) (s_seq (s_while PassesOwn.never (t_cmp op_ge p_ge (d_var 1) (d_op op_pow p_pow (d_int) (d_int))) (s_seq (s_never) (s_one (s_never)))) (s_one (s_ret (d_op o_add p_add (d_op o_add p_add (d_if (t_cmp op_lt p_lt (d_var 0) (d_int)) (d_str) (d_str)) (d_callTy c_str p_str Z.n_str boot_str (a_cons (d_var 1) (a_nil)))) (d_var 2)))))
abbrev st_number_of : Stmt := top 13
theorem sc_number_of : FnScope ["figures", "first", "found", "at"] ["figures"] (defScope st_number_of) := ⟨rfl, rfl, rfl, by decide +kernel, rfl, by decide +kernel, by decide +kernel⟩
theorem dv_number_of {P : Program} {w : World} {K : PySem.W.Frag} {mg : Str → Option Value} {base : Heap} {cs : List Addr} (Z : Txt K w mg cs)  {f : Addr} (cdv : Value) (A : Around) (outer : List Env) (s : Shared) (H : Hp) (E : XK)
    (hr : RoomG 0 (A.deeper (PyProof.Rows.envOfC "number_of" (defScope st_number_of) s.heap.objs.size f cdv))) : PSs (cxOf CX0 P w K mg base ["figures", "first", "found", "at"] "number_of" (defScope st_number_of) f cdv A outer s H E).nox (defBody st_number_of) (liftS (tb K cs) w_number_of) :=
  s_seq (s_set 1 sc_number_of.nd (d_op op_mod p_mod (d_callB c_len p_len Z.n_len boot_len (a_cons (d_var 0) (a_nil))) (d_globI Z.c_BLOCK))) (s_seq (s_set 2 sc_number_of.nd (d_if (t_cmp op_gt p_gt (d_var 1) (d_int)) (d_callTy c_int p_int Z.n_int boot_int (a_cons (d_sl (d_var 0) (o_none) (o_some (d_var 1))) (a_nil))) (d_int))) (s_seq (s_for PassesOwn.never rfl (i_rng3 Z.n_range (a_cons (d_var 1) (a_cons (d_callB c_len p_len Z.n_len boot_len (a_cons (d_var 0) (a_nil))) (a_cons (d_globI Z.c_BLOCK) (a_nil))))) (g_nm 3 sc_number_of.nd) (s_one (s_set 2 sc_number_of.nd (d_op o_add p_add (d_op o_mulT p_mulT (d_var 2) (d_op op_pow p_pow (d_int) (d_int))) (d_callTy c_int p_int Z.n_int boot_int (a_cons (d_sl (d_var 0) (o_some (d_var 3)) (o_some (d_op o_add p_add (d_var 3) (d_globI Z.c_BLOCK)))) (a_nil))))))) (s_one (s_ret (d_var 2)))))
abbrev st_shared_factor : Stmt := top 14
theorem sc_shared_factor : FnScope ["one", "two", "high", "low"] ["one", "two"] (defScope st_shared_factor) := ⟨rfl, rfl, rfl, by decide +kernel, rfl, by decide +kernel, by decide +kernel⟩
theorem dv_shared_factor {P : Program} {w : World} {K : PySem.W.Frag} {mg : Str → Option Value} {base : Heap} {cs : List Addr} (Z : Txt K w mg cs)  {f : Addr} (cdv : Value) (A : Around) (outer : List Env) (s : Shared) (H : Hp) (E : XK)
    (hr : RoomG 0 (A.deeper (PyProof.Rows.envOfC "shared_factor" (defScope st_shared_factor) s.heap.objs.size f cdv))) : PSs (cxOf CX0 P w K mg base ["one", "two", "high", "low"] "shared_factor" (defScope st_shared_factor) f cdv A outer s H E).nox (defBody st_shared_factor) (liftS (tb K cs) w_shared_factor) :=
  s_seq (s_par 2 3 rfl sc_shared_factor.nd (by decide) (d_callB call_abs p_abs Z.n_abs boot_abs (a_cons (d_var 0) (a_nil))) (d_callB call_abs p_abs Z.n_abs boot_abs (a_cons (d_var 1) (a_nil))) (by rfl)) (s_seq (s_while PassesOwn.never (t_cmp op_gt p_gt (d_var 3) (d_int)) (s_one (s_par 2 3 rfl sc_shared_factor.nd (by decide) (d_var 3) (d_op op_mod p_mod (d_var 2) (d_var 3)) (by rfl)))) (s_one (s_ret (d_var 2))))
abbrev st_is_fraction : Stmt := top 15
theorem sc_is_fraction : FnScope ["value"] ["value"] (defScope st_is_fraction) := ⟨rfl, rfl, rfl, by decide +kernel, rfl, by decide +kernel, by decide +kernel⟩
theorem dv_is_fraction {P : Program} {w : World} {K : PySem.W.Frag} {mg : Str → Option Value} {base : Heap} {cs : List Addr} (Z : Txt K w mg cs) (c_is_integer : CalD P w K mg base (tb K cs) 1 "is_integer" sp_is_integer) {f : Addr} (cdv : Value) (A : Around) (outer : List Env) (s : Shared) (H : Hp) (E : XK)
    (hr : RoomG 1 (A.deeper (PyProof.Rows.envOfC "is_fraction" (defScope st_is_fraction) s.heap.objs.size f cdv))) : PSs (cxOf CX0 P w K mg base ["value"] "is_fraction" (defScope st_is_fraction) f cdv A outer s H E).nox (defBody st_is_fraction) (liftS (tb K cs) w_is_fraction) :=
  s_one (s_ret (d_or (d_cal c_is_integer (hr.mono (by decide : 1 ≤ 1)) (a_cons (d_var 0) (a_nil))) (d_one (d_isiC Z.isi_Ratio Z.g_Ratio Z.n_isinstance (d_var 0)))))
abbrev st_Ratio_init : Stmt := inClass (top 18) 0
theorem sc_Ratio_init : FnScope ["self", "top", "bottom", "factor"] ["self", "top", "bottom"] (defScope st_Ratio_init) := ⟨rfl, rfl, rfl, by decide +kernel, rfl, by decide +kernel, by decide +kernel⟩
theorem dv_Ratio_init {P : Program} {w : World} {K : PySem.W.Frag} {mg : Str → Option Value} {base : Heap} {cs : List Addr} (Z : Txt K w mg cs) (c_shared_factor : CalD P w K mg base (tb K cs) 1 "shared_factor" sp_shared_factor) (c_is_integer : CalD P w K mg base (tb K cs) 1 "is_integer" sp_is_integer) {f : Addr} (cdv : Value) (A : Around) (outer : List Env) (s : Shared) (H : Hp) (E : XK)
    (hr : RoomG 1 (A.deeper (PyProof.Rows.envOfC "Ratio.__init__" (defScope st_Ratio_init) s.heap.objs.size f cdv))) : PSs (cxOf CX0 P w K mg base ["self", "top", "bottom", "factor"] "Ratio.__init__" (defScope st_Ratio_init) f cdv A outer s H E).nox (defBody st_Ratio_init) (liftS (tb K cs) (w_Ratio_init (tb K cs))) :=
  s_seq (s_if (t_not (t_tru (d_cal c_is_integer (hr.mono (by decide : 1 ≤ 1)) (a_cons (d_var 1) (a_nil))))) (s_one (s_never)) (s_nil)) (s_seq (s_if (PW.pt (tw_or (t_not (t_tru (d_cal c_is_integer (hr.mono (by decide : 1 ≤ 1)) (a_cons (d_var 2) (a_nil))))) (tw_or1 (t_cmp op_lt p_lt (d_var 2) (d_int))))) (s_one (s_never)) (s_nil)) (s_seq (s_set 3 sc_Ratio_init.nd (d_cal c_shared_factor (hr.mono (by decide : 1 ≤ 1)) (a_cons (d_var 1) (a_cons (d_var 2) (a_nil))))) (s_seq (s_fld 0 0 Z.cl_Ratio Z.no_Ratio_top (show (fl 0).Nodup by decide +kernel) (show (fl 0).length < 1000 by decide) (d_op o_fdiv p_fdiv (d_var 1) (d_var 3))) (s_one (s_fld 0 0 Z.cl_Ratio Z.no_Ratio_bottom (show (fl 0).Nodup by decide +kernel) (show (fl 0).length < 1000 by decide) (d_op o_fdiv p_fdiv (d_var 2) (d_var 3)))))))
abbrev st_as_ratio : Stmt := top 16
theorem sc_as_ratio : FnScope ["value"] ["value"] (defScope st_as_ratio) := ⟨rfl, rfl, rfl, by decide +kernel, rfl, by decide +kernel, by decide +kernel⟩
theorem dv_as_ratio {P : Program} {w : World} {K : PySem.W.Frag} {mg : Str → Option Value} {base : Heap} {cs : List Addr} (Z : Txt K w mg cs) (n_Ratio_1 : NewK P w K mg base (tb K cs) 2 0 "Ratio" 1 [] [0, 1] [.int 1] fi_Ratio) {f : Addr} (cdv : Value) (A : Around) (outer : List Env) (s : Shared) (H : Hp) (E : XK)
    (hr : RoomG 3 (A.deeper (PyProof.Rows.envOfC "as_ratio" (defScope st_as_ratio) s.heap.objs.size f cdv))) : PSs (cxOf CX0 P w K mg base ["value"] "as_ratio" (defScope st_as_ratio) f cdv A outer s H E).nox (defBody st_as_ratio) (liftS (tb K cs) w_as_ratio) :=
  s_one (s_ret (d_if (t_tru (d_isiC Z.isi_Ratio Z.g_Ratio Z.n_isinstance (d_var 0))) (d_var 0) (d_newK n_Ratio_1 (hr.mono (by decide : 3 ≤ 3)) (a_cons (d_var 0) (a_nil)) (k_nil))))
abbrev st_ratio_in : Stmt := top 17
theorem sc_ratio_in : FnScope ["text", "sign", "first", "line", "second", "bottom"] ["text"] (defScope st_ratio_in) := ⟨rfl, rfl, rfl, by decide +kernel, rfl, by decide +kernel, by decide +kernel⟩
theorem dv_ratio_in {P : Program} {w : World} {K : PySem.W.Frag} {mg : Str → Option Value} {base : Heap} {cs : List Addr} (Z : Txt K w mg cs) (n_Ratio : NewD P w K mg base (tb K cs) 2 0 "Ratio" fi_Ratio) (c_number_of : CalD P w K mg base (tb K cs) 1 "number_of" sp_number_of) (c_are_figures : CalD P w K mg base (tb K cs) 1 "are_figures" sp_are_figures) {f : Addr} (cdv : Value) (A : Around) (outer : List Env) (s : Shared) (H : Hp) (E : XK)
    (hr : RoomG 3 (A.deeper (PyProof.Rows.envOfC "ratio_in" (defScope st_ratio_in) s.heap.objs.size f cdv))) : PSs (cxOf CX0 P w K mg base ["text", "sign", "first", "line", "second", "bottom"] "ratio_in" (defScope st_ratio_in) f cdv A outer s H E).nox (defBody st_ratio_in) (liftS (tb K cs) w_ratio_in) :=
  s_seq (s_set 1 sc_ratio_in.nd (d_if (t_cmp (o_eq hr.rm.units) p_eqD (d_sl (d_var 0) (o_none) (o_some (d_int))) (d_str)) (d_un un_neg p_neg (d_int)) (d_int))) (s_seq (s_asgT (g_tup rfl (g_cons (g_nm 2 sc_ratio_in.nd) (g_cons (g_nm 3 sc_ratio_in.nd) (g_cons (g_nm 4 sc_ratio_in.nd) (g_nil))))) (d_if (t_cmp op_lt p_lt (d_var 1) (d_int)) (d_bmS PySem.F.slot_str_partition PySem.F.type_str_partition mt_partition p_part (d_sl (d_var 0) (o_some (d_int)) (o_none)) (a_cons (d_str) (a_nil))) (d_bmS PySem.F.slot_str_partition PySem.F.type_str_partition mt_partition p_part (d_var 0) (a_cons (d_str) (a_nil))))) (s_seq (s_if (PW.pt (tw_or (t_not (t_tru (d_cal c_are_figures (hr.mono (by decide : 1 ≤ 3)) (a_cons (d_var 2) (a_nil))))) (tw_or1 (PW.pt (tw_and (t_cmp (o_ne hr.rm.units) p_neD (d_var 3) (d_str)) (tw_and1 (t_not (t_tru (d_cal c_are_figures (hr.mono (by decide : 1 ≤ 3)) (a_cons (d_var 4) (a_nil))))))))))) (s_one (s_ret (d_non))) (s_nil)) (s_seq (s_set 5 sc_ratio_in.nd (d_if (t_cmp (o_ne hr.rm.units) p_neD (d_var 3) (d_str)) (d_cal c_number_of (hr.mono (by decide : 1 ≤ 3)) (a_cons (d_var 4) (a_nil))) (d_int))) (s_one (s_ret (d_if (t_cmp op_gt p_gt (d_var 5) (d_int)) (d_new n_Ratio (hr.mono (by decide : 3 ≤ 3)) (a_cons (d_op o_mulT p_mulT (d_var 1) (d_cal c_number_of (hr.mono (by decide : 1 ≤ 3)) (a_cons (d_var 2) (a_nil)))) (a_cons (d_var 5) (a_nil)))) (d_non)))))))
abbrev st_Ratio_eq : Stmt := inClass (top 18) 10
theorem sc_Ratio_eq : FnScope ["self", "other", "by"] ["self", "other"] (defScope st_Ratio_eq) := ⟨rfl, rfl, rfl, by decide +kernel, rfl, by decide +kernel, by decide +kernel⟩
theorem dv_Ratio_eq {P : Program} {w : World} {K : PySem.W.Frag} {mg : Str → Option Value} {base : Heap} {cs : List Addr} (Z : Txt K w mg cs) (c_as_ratio : CalD P w K mg base (tb K cs) 4 "as_ratio" sp_as_ratio) (c_is_fraction : CalD P w K mg base (tb K cs) 2 "is_fraction" sp_is_fraction) {f : Addr} (cdv : Value) (A : Around) (outer : List Env) (s : Shared) (H : Hp) (E : XK)
    (hr : RoomG 4 (A.deeper (PyProof.Rows.envOfC "Ratio.__eq__" (defScope st_Ratio_eq) s.heap.objs.size f cdv))) : PSs (cxOf CX0 P w K mg base ["self", "other", "by"] "Ratio.__eq__" (defScope st_Ratio_eq) f cdv A outer s H E).nox (defBody st_Ratio_eq) (liftS (tb K cs) w_Ratio_eq) :=
  s_seq (s_if (t_not (t_tru (d_cal c_is_fraction (hr.mono (by decide : 2 ≤ 4)) (a_cons (d_var 1) (a_nil))))) (s_one (s_ret (d_bl))) (s_nil)) (s_seq (s_set 2 sc_Ratio_eq.nd (d_cal c_as_ratio (hr.mono (by decide : 4 ≤ 4)) (a_cons (d_var 1) (a_nil)))) (s_one (s_ret (d_and (d_cmp (o_eq hr.rm.units) p_eqD (d_fld Z.fld_top (d_var 0)) (d_fld Z.fld_top (d_var 2))) (d_one (d_cmp (o_eq hr.rm.units) p_eqD (d_fld Z.fld_bottom (d_var 0)) (d_fld Z.fld_bottom (d_var 2))))))))
abbrev st_Ratio_str : Stmt := inClass (top 18) 11
theorem sc_Ratio_str : FnScope ["self"] ["self"] (defScope st_Ratio_str) := ⟨rfl, rfl, rfl, by decide +kernel, rfl, by decide +kernel, by decide +kernel⟩
theorem dv_Ratio_str {P : Program} {w : World} {K : PySem.W.Frag} {mg : Str → Option Value} {base : Heap} {cs : List Addr} (Z : Txt K w mg cs) (c_text_of : CalD P w K mg base (tb K cs) 1 "text_of" sp_text_of) {f : Addr} (cdv : Value) (A : Around) (outer : List Env) (s : Shared) (H : Hp) (E : XK)
    (hr : RoomG 1 (A.deeper (PyProof.Rows.envOfC "Ratio.__str__" (defScope st_Ratio_str) s.heap.objs.size f cdv))) : PSs (cxOf CX0 P w K mg base ["self"] "Ratio.__str__" (defScope st_Ratio_str) f cdv A outer s H E).nox (defBody st_Ratio_str) (liftS (tb K cs) w_Ratio_str) :=
  s_seq (s_if (t_cmp (o_eq hr.rm.units) p_eqD (d_fld Z.fld_bottom (d_var 0)) (d_int)) (s_one (s_ret (d_f1 (d_fmt (d_cal c_text_of (hr.mono (by decide : 1 ≤ 1)) (a_cons (d_fld Z.fld_top (d_var 0)) (a_nil))))))) (s_nil)) (s_one (s_ret (d_fN (FJ.cons (d_fmt (d_cal c_text_of (hr.mono (by decide : 1 ≤ 1)) (a_cons (d_fld Z.fld_top (d_var 0)) (a_nil)))) (FJ.cons (d_str) (FJ.cons (d_fmt (d_cal c_text_of (hr.mono (by decide : 1 ≤ 1)) (a_cons (d_fld Z.fld_bottom (d_var 0)) (a_nil)))) (FJ.nil)))))))
abbrev st_Ratio_read : Stmt := inClass (top 18) 1
theorem sc_Ratio_read : FnScope ["text", "found"] ["text"] (defScope st_Ratio_read) := ⟨rfl, rfl, rfl, by decide +kernel, rfl, by decide +kernel, by decide +kernel⟩
theorem dv_Ratio_read {P : Program} {w : World} {K : PySem.W.Frag} {mg : Str → Option Value} {base : Heap} {cs : List Addr} (Z : Txt K w mg cs) (m_Ratio_str : MetD P w K mg base (tb K cs) 2 0 "__str__" sp_Ratio_str) (e_InvalidText : ErrC P w K mg base (tb K cs) 1 "InvalidText" "value") (c_ratio_in : CalD P w K mg base (tb K cs) 4 "ratio_in" sp_ratio_in) {f : Addr} (e0 : En) (Ed : EK) (cdv : Value) (A : Around) (outer : List Env) (s : Shared) (H : Hp) (E : XK)
    (hr : RoomG 4 (A.deeper (PyProof.Rows.envOfC "Ratio.read" (defScope st_Ratio_read) s.heap.objs.size f cdv))) (tk : Takes (cxOf (L2.CX P w) P w K mg base ["text", "found"] "Ratio.read" (defScope st_Ratio_read) f cdv A outer s H E) (WD (tb K cs) e0 Ed)) : PSs (cxOf (L2.CX P w) P w K mg base ["text", "found"] "Ratio.read" (defScope st_Ratio_read) f cdv A outer s H E) (defBody st_Ratio_read) (liftSX (tb K cs) e0 (w_Ratio_read Ed)) :=
  s_seqX (s_toX (s_set 1 sc_Ratio_read.nd (d_if (t_tru (d_isiB Z.isi_str Z.n_str boot_str Z.n_isinstance (d_var 0))) (d_cal c_ratio_in (hr.mono (by decide : 4 ≤ 4)) (a_cons (d_var 0) (a_nil))) (d_non)))) (s_seqX (s_ifX (PW.pt (tw_or (t_cmp op_isN p_is (d_var 1) (d_non)) (tw_or1 (t_cmp (o_ne hr.rm.units) p_neD (d_callTy (c_strT (MFs.cons (m_Ratio_str.mf.up (by decide)) MFs.nil) (hr.mono (by decide : 4 ≤ 4))) p_strT Z.n_str boot_str (a_cons (d_var 1) (a_nil))) (d_var 0))))) (s_oneX (s_raise e_InvalidText (hr.mono (by decide : 2 ≤ 4)) rfl tk (a_cons (d_var 0) (a_nil)) rfl)) (s_nilX)) (s_oneX (s_toX (s_ret (d_var 1)))))
abbrev st__law_bag : Stmt := top 20
theorem sc__law_bag : FnScope ["_law_script", "_law_k", "_law_held_cell", "_law_seed", "_law_this", "_law_figures"] ["_law_script", "_law_k"] (defScope st__law_bag) := ⟨rfl, rfl, rfl, by decide +kernel, rfl, by decide +kernel, by decide +kernel⟩
theorem dv__law_bag {P : Program} {w : World} {K : PySem.W.Frag} {mg : Str → Option Value} {base : Heap} {cs : List Addr} (Z : Txt K w mg cs)  {f : Addr} (cdv : Value) (A : Around) (outer : List Env) (s : Shared) (H : Hp) (E : XK)
    (hr : RoomG 1 (A.deeper (PyProof.Rows.envOfC "_law_bag" (defScope st__law_bag) s.heap.objs.size f cdv))) : PSs (cxOf CX0 P w K mg base ["_law_script", "_law_k", "_law_held_cell", "_law_seed", "_law_this", "_law_figures"] "_law_bag" (defScope st__law_bag) f cdv A outer s H E).nox (defBody st__law_bag) (liftS (tb K cs) w__law_bag) :=
  s_seq (s_par 2 3 rfl sc__law_bag.nd (by decide) (d_if (t_cmp op_lt p_lt (d_var 1) (d_callB (c_lenT MFs.nil (hr.mono (by decide : 1 ≤ 1))) (p_lenTab Z.hK) Z.n_len boot_len (a_cons (d_var 0) (a_nil)))) (d_callTy c_int p_int Z.n_int boot_int (a_cons (d_scrIx Z.hK 0 (d_var 1)) (a_nil))) (d_int)) (d_op o_mulT p_mulT (d_int) (d_op o_add p_add (d_var 1) (d_int))) (by rfl)) (s_seq (s_for PassesOwn.never rfl (i_seq (d_slX Z.hK (d_var 0) (o_none) (o_some (d_int)))) (g_nm 4 sc__law_bag.nd) (s_one (s_set 3 sc__law_bag.nd (d_op op_mod p_mod (d_callTy c_int p_int Z.n_int boot_int (a_cons (d_op o_add p_add (d_op o_add p_add (d_op o_mulT p_mulT (d_var 3) (d_int)) (d_op op_mod p_mod (d_callTy c_int p_int Z.n_int boot_int (a_cons (d_var 4) (a_nil))) (d_int))) (d_op o_mulT p_mulT (d_int) (d_var 1))) (a_nil))) (d_int))))) (s_seq (s_set 5 sc__law_bag.nd (d_if (PW.pt (tw_or (t_cmp op_lt p_lt (d_var 2) (d_int)) (tw_or1 (t_cmp op_ge p_ge (d_var 2) (d_op op_pow p_pow (d_int) (d_int)))))) (d_callB call_abs p_abs Z.n_abs boot_abs (a_cons (d_var 2) (a_nil))) (d_int))) (s_one (s_ret (d_lst (a_cons (d_var 5) (a_cons (d_op op_mod p_mod (d_callTy c_int p_int Z.n_int boot_int (a_cons (d_op o_add p_add (d_var 3) (d_op o_mulT p_mulT (d_int) (d_op op_mod p_mod (d_callTy c_int p_int Z.n_int boot_int (a_cons (d_var 2) (a_nil))) (d_int)))) (a_nil))) (d_int)) (a_cons (d_int) (a_nil)))))))))
abbrev st__law_draw : Stmt := top 21
theorem sc__law_draw : FnScope ["_law_bag_here", "_law_wide", "_law_figure", "_law_held", "_law_times"] ["_law_bag_here", "_law_wide"] (defScope st__law_draw) := ⟨rfl, rfl, rfl, by decide +kernel, rfl, by decide +kernel, by decide +kernel⟩
theorem dv__law_draw {P : Program} {w : World} {K : PySem.W.Frag} {mg : Str → Option Value} {base : Heap} {cs : List Addr} (Z : Txt K w mg cs)  {f : Addr} (cdv : Value) (A : Around) (outer : List Env) (s : Shared) (H : Hp) (E : XK)
    (hr : RoomG 0 (A.deeper (PyProof.Rows.envOfC "_law_draw" (defScope st__law_draw) s.heap.objs.size f cdv))) : PSs (cxOf CX0 P w K mg base ["_law_bag_here", "_law_wide", "_law_figure", "_law_held", "_law_times"] "_law_draw" (defScope st__law_draw) f cdv A outer s H E).nox (defBody st__law_draw) (liftS (tb K cs) w__law_draw) :=
  s_seq (s_bagSet 0 (d_op o_add p_add (d_bagIx 0 (d_int)) (d_int)) (d_int)) (s_seq (s_if (t_cmp op_gt p_gt (d_bagIx 0 (d_int)) (d_int)) (s_seq (s_set 2 sc__law_draw.nd (d_op op_mod p_mod (d_callTy c_int p_int Z.n_int boot_int (a_cons (d_bagIx 0 (d_int)) (a_nil))) (d_var 1))) (s_seq (s_bagSet 0 (d_op o_fdiv p_fdiv (d_bagIx 0 (d_int)) (d_var 1)) (d_int)) (s_one (s_ret (d_var 2))))) (s_nil)) (s_seq (s_set 3 sc__law_draw.nd (d_op o_add p_add (d_callTy c_int p_int Z.n_int boot_int (a_cons (d_bagIx 0 (d_int)) (a_nil))) (d_op o_mulT p_mulT (d_int) (d_bagIx 0 (d_int))))) (s_seq (s_set 4 sc__law_draw.nd (d_op o_add p_add (d_op op_mod p_mod (d_callTy c_int p_int Z.n_int boot_int (a_cons (d_var 3) (a_nil))) (d_int)) (d_int))) (s_seq (s_bagSet 0 (d_op op_mod p_mod (d_callTy c_int p_int Z.n_int boot_int (a_cons (d_op o_add p_add (d_op o_add p_add (d_op o_mulT p_mulT (d_var 3) (d_var 4)) (d_op o_mulT p_mulT (d_int) (d_bagIx 0 (d_int)))) (d_int)) (a_nil))) (d_int)) (d_int)) (s_one (s_ret (d_op op_mod p_mod (d_op o_fdiv p_fdiv (d_callTy c_int p_int Z.n_int boot_int (a_cons (d_bagIx 0 (d_int)) (a_nil))) (d_int)) (d_var 1))))))))
abbrev st__law_one : Stmt := top 22
theorem sc__law_one : FnScope ["_law_bag_here", "_law_some"] ["_law_bag_here", "_law_some"] (defScope st__law_one) := ⟨rfl, rfl, rfl, by decide +kernel, rfl, by decide +kernel, by decide +kernel⟩
theorem dv__law_one {P : Program} {w : World} {K : PySem.W.Frag} {mg : Str → Option Value} {base : Heap} {cs : List Addr} (Z : Txt K w mg cs) (c__law_draw : CalD P w K mg base (tb K cs) 1 "_law_draw" sp__law_draw) {f : Addr} (cdv : Value) (A : Around) (outer : List Env) (s : Shared) (H : Hp) (E : XK)
    (hr : RoomG 1 (A.deeper (PyProof.Rows.envOfC "_law_one" (defScope st__law_one) s.heap.objs.size f cdv))) : PSs (cxOf CX0 P w K mg base ["_law_bag_here", "_law_some"] "_law_one" (defScope st__law_one) f cdv A outer s H E).nox (defBody st__law_one) (liftS (tb K cs) w__law_one) :=
  s_one (s_ret (d_ixN 1 (d_cal c__law_draw (hr.mono (by decide : 1 ≤ 1)) (a_cons (d_var 0) (a_cons (d_callB c_len p_len Z.n_len boot_len (a_cons (d_var 1) (a_nil))) (a_nil))))))
abbrev st__law_low : Stmt := top 23
theorem sc__law_low : FnScope ["_law_upper", "_law_lower", "_law_left", "_law_right_here", "_law_by"] ["_law_upper", "_law_lower"] (defScope st__law_low) := ⟨rfl, rfl, rfl, by decide +kernel, rfl, by decide +kernel, by decide +kernel⟩
theorem dv__law_low {P : Program} {w : World} {K : PySem.W.Frag} {mg : Str → Option Value} {base : Heap} {cs : List Addr} (Z : Txt K w mg cs)  {f : Addr} (cdv : Value) (A : Around) (outer : List Env) (s : Shared) (H : Hp) (E : XK)
    (hr : RoomG 0 (A.deeper (PyProof.Rows.envOfC "_law_low" (defScope st__law_low) s.heap.objs.size f cdv))) : PSs (cxOf CX0 P w K mg base ["_law_upper", "_law_lower", "_law_left", "_law_right_here", "_law_by"] "_law_low" (defScope st__law_low) f cdv A outer s H E).nox (defBody st__law_low) (liftS (tb K cs) w__law_low) :=
  s_seq (s_par 2 3 rfl sc__law_low.nd (by decide) (d_callB call_abs p_abs Z.n_abs boot_abs (a_cons (d_var 0) (a_nil))) (d_callB call_abs p_abs Z.n_abs boot_abs (a_cons (d_var 1) (a_nil))) (by rfl)) (s_seq (s_while PassesOwn.never (t_cmp op_gt p_gt (d_var 3) (d_int)) (s_one (s_par 2 3 rfl sc__law_low.nd (by decide) (d_var 3) (d_op op_mod p_mod (d_callTy c_int p_int Z.n_int boot_int (a_cons (d_var 2) (a_nil))) (d_var 3)) (by rfl)))) (s_seq (s_set 4 sc__law_low.nd (d_if (t_cmp op_gt p_gt (d_var 1) (d_int)) (d_var 2) (d_op op_sub p_sub (d_int) (d_var 2)))) (s_one (s_ret (d_tup (a_cons (d_op o_fdiv p_fdiv (d_var 0) (d_var 4)) (a_cons (d_op o_fdiv p_fdiv (d_var 1) (d_var 4)) (a_nil))))))))
abbrev st__law_sort : Stmt := top 25
theorem sc__law_sort : FnScope ["_law_e", "_law_bases", "_law_kinds", "_law_found"] ["_law_e"] (defScope st__law_sort) := ⟨rfl, rfl, rfl, by decide +kernel, rfl, by decide +kernel, by decide +kernel⟩
theorem dv__law_sort {P : Program} {w : World} {K : PySem.W.Frag} {mg : Str → Option Value} {base : Heap} {cs : List Addr} (Z : Txt K w mg cs)  {f : Addr} (p : Pin) (cdv : Value) (A : Around) (outer : List Env) (s : Shared) (H : Hp) (po : Addr × Obj)
    (hr : RoomP 0 (A.deeper (PyProof.Rows.envOfC "_law_sort" (defScope st__law_sort) s.heap.objs.size f cdv))) (PX : PinX (L2H.cxH C8.CX0 P w K mg base ["_law_e", "_law_bases", "_law_kinds", "_law_found"] "_law_sort" (defScope st__law_sort) f cdv A outer s H C8.E0 po) ((tb K cs).at p)) : PSs (L2H.cxH C8.CX0 P w K mg base ["_law_e", "_law_bases", "_law_kinds", "_law_found"] "_law_sort" (defScope st__law_sort) f cdv A outer s H C8.E0 po) (defBody st__law_sort) (liftS ((tb K cs).at p) w__law_sort) :=
  s_seq (s_set 1 sc__law_sort.nd (d_lst (a_cons (d_isX (i := 0) PX (Z.isx_ShapeError p) (.own _) (pe_glob (x := "ShapeError") rfl Z.g_ShapeError rfl (by decide)) Z.n_isinstance) (a_cons (d_isX (i := 0) PX (Z.isx_QuestionError p) (.own _) (pe_glob (x := "QuestionError") rfl Z.g_QuestionError rfl (by decide)) Z.n_isinstance) (a_cons (d_isX (i := 0) PX (Z.isx_SizeError p) (.own _) (pe_glob (x := "SizeError") rfl Z.g_SizeError rfl (by decide)) Z.n_isinstance) (a_nil)))))) (s_seq (s_set 2 sc__law_sort.nd (d_lst (a_cons (d_isX (i := 0) PX (Z.isx_ValueError p) (.ty _) (pe_bty (x := "ValueError") Z.n_ValueError boot_ValueError rfl (by decide) (by decide)) Z.n_isinstance) (a_cons (d_isX (i := 0) PX (Z.isx_LookupError p) (.ty _) (pe_bty (x := "LookupError") Z.n_LookupError boot_LookupError rfl (by decide) (by decide)) Z.n_isinstance) (a_cons (d_isX (i := 0) PX (Z.isx_ArithmeticError p) (.ty _) (pe_bty (x := "ArithmeticError") Z.n_ArithmeticError boot_ArithmeticError rfl (by decide) (by decide)) Z.n_isinstance) (a_nil)))))) (s_seq (s_set 3 sc__law_sort.nd (d_lst (a_nil))) (s_seq (s_if (t_tru (d_isX (i := 0) PX (Z.isx_InvalidText p) (.own _) (pe_glob (x := "InvalidText") rfl Z.g_InvalidText rfl (by decide)) Z.n_isinstance)) (s_one (s_app 3 (d_lst (a_cons (d_str) (a_cons (d_callB (call_reprH hr.gd hr.repr) p_repr Z.n_repr boot_repr (a_cons (d_xf (i := 0) PX (Z.xf_value p)) (a_nil))) (a_nil)))))) (s_nil)) (s_one (s_frz [1, 2] (s_ret (d_if (PW.pt (tw_and (t_cmp (o_eq hr.repr) p_eqD (d_lenN 3 Z.n_len) (d_int)) (tw_and (t_cmp (o_eq hr.repr) p_eqD (d_var 1) (d_var 2)) (tw_and1 (t_cmp (o_eq hr.repr) p_eqD (d_bmL PySem.F.slot_list_count PySem.F.type_list_count mt_countF p_count (d_var 1) (a_cons (d_bl) (a_nil))) (d_int)))))) (d_ixN 3 (d_int)) (d_lst (a_cons (d_str) (a_nil))))))))))
abbrev st__law_answer : Stmt := top 24
theorem sc__law_answer : FnScope ["_law_act", "_law_got", "_law_e"] ["_law_act"] (defScope st__law_answer) := ⟨rfl, rfl, rfl, by decide +kernel, rfl, by decide +kernel, by decide +kernel⟩
abbrev st__law_written : Stmt := top 26
theorem sc__law_written : FnScope ["_law_pair"] ["_law_pair"] (defScope st__law_written) := ⟨rfl, rfl, rfl, by decide +kernel, rfl, by decide +kernel, by decide +kernel⟩
theorem dv__law_written {P : Program} {w : World} {K : PySem.W.Frag} {mg : Str → Option Value} {base : Heap} {cs : List Addr} (Z : Txt K w mg cs)  {f : Addr} (cdv : Value) (A : Around) (outer : List Env) (s : Shared) (H : Hp) (E : XK)
    (hr : RoomG 0 (A.deeper (PyProof.Rows.envOfC "_law_written" (defScope st__law_written) s.heap.objs.size f cdv))) : PSs (cxOf CX0 P w K mg base ["_law_pair"] "_law_written" (defScope st__law_written) f cdv A outer s H E).nox (defBody st__law_written) (liftS (tb K cs) w__law_written) :=
  s_one (s_ret (d_if (t_cmp (o_eq hr.rm.units) p_eqD (d_ixN 0 (d_int)) (d_int)) (d_callTy c_str p_str Z.n_str boot_str (a_cons (d_ixN 0 (d_int)) (a_nil))) (d_op o_add p_add (d_op o_add p_add (d_callTy c_str p_str Z.n_str boot_str (a_cons (d_ixN 0 (d_int)) (a_nil))) (d_str)) (d_callTy c_str p_str Z.n_str boot_str (a_cons (d_ixN 0 (d_int)) (a_nil))))))
abbrev st__law_read : Stmt := top 27
theorem sc__law_read : FnScope ["_law_line", "_law_bits", "_law_bit", "_law_sign", "_law_pair"] ["_law_line"] (defScope st__law_read) := ⟨rfl, rfl, rfl, by decide +kernel, rfl, by decide +kernel, by decide +kernel⟩
theorem dv__law_read {P : Program} {w : World} {K : PySem.W.Frag} {mg : Str → Option Value} {base : Heap} {cs : List Addr} (Z : Txt K w mg cs) (c__law_written : CalD P w K mg base (tb K cs) 1 "_law_written" sp__law_written) (c__law_low : CalD P w K mg base (tb K cs) 1 "_law_low" sp__law_low) {f : Addr} (cdv : Value) (A : Around) (outer : List Env) (s : Shared) (H : Hp) (E : XK)
    (hr : RoomG 1 (A.deeper (PyProof.Rows.envOfC "_law_read" (defScope st__law_read) s.heap.objs.size f cdv))) : PSsT (cxOf CX0 P w K mg base ["_law_line", "_law_bits", "_law_bit", "_law_sign", "_law_pair"] "_law_read" (defScope st__law_read) f cdv A outer s H E).nox (defBody st__law_read) (liftS (tb K cs) w__law_read) :=
  sT_seq (PST.of (s_set 1 sc__law_read.nd (d_bmS PySem.F.slot_str_split PySem.F.type_str_split mt_split p_split (d_var 0) (a_cons (d_str) (a_nil))))) (sT_seq (PST.of (s_frz [1] (s_if (PW.pt (tw_or (t_cmp op_gt p_gt (d_lenN 1 Z.n_len) (d_int)) (tw_or1 (t_cmp (o_ne hr.rm.units) p_neD (d_lc (own := [("_law_bit", 2)]) rfl sc__law_read.nd (i_seq (d_var 1)) (blkOk_by (N := ["_law_line", "_law_bits", "_law_bit", "_law_sign", "_law_pair"]) (sc := defScope st__law_read) (own := [("_law_bit", 2)]) (by decide +kernel)) (fun _ _ _ _ _ => g_nm 2 sc__law_read.nd) (fun _ _ _ _ _ => ts_one (t_cmp (o_inW (room65 hr)) p_inW (d_var 2) (d_lst (a_cons (d_str) (a_cons (d_str) (a_nil)))))) (fun _ _ _ _ _ => d_var 2) (by decide)) (d_lst (a_nil)))))) (s_one (s_ret (d_non))) (s_nil)))) (sT_seq (sT_frz [1] (sT_for PassesOwn.never rfl (i_seq (d_var 1)) (g_nm 2 sc__law_read.nd) (sT_seq (sT_ifT (tT_cmp (o_ne hr.rm.units) p_neD (dT_lc (own := [("_law_sign", 3)]) rfl sc__law_read.nd (iT_seq (dT_repl1 (d_var 2))) (blkOk_by (N := ["_law_line", "_law_bits", "_law_bit", "_law_sign", "_law_pair"]) (sc := defScope st__law_read) (own := [("_law_sign", 3)]) (by decide +kernel)) (fun _ _ _ _ _ => g_nm 3 sc__law_read.nd) (fun _ _ _ _ _ => ts_one (t_cmp (o_niW (room65 hr)) p_niW (d_var 3) (d_str))) (fun _ _ _ _ _ => d_var 3) (by decide)) (PET.of (d_lst (a_nil)))) (sT_one (PST.of (s_ret (d_non)))) (sT_nil)) (sT_one (PST.of (s_if (PW.pt (tw_and (t_cmp (o_inW (room65 hr)) p_inW (d_str) (d_var 2)) (tw_and1 (t_cmp (o_ne hr.rm.units) p_neD (d_ixN 2 (d_int)) (d_str))))) (s_one (s_ret (d_non))) (s_nil))))))) (sT_seq (PST.of (s_set 4 sc__law_read.nd (d_tup (a_cons (d_callTy c_int p_int Z.n_int boot_int (a_cons (d_ixN 1 (d_int)) (a_nil))) (a_cons (d_if (t_cmp op_gt p_gt (d_lenN 1 Z.n_len) (d_int)) (d_callTy c_int p_int Z.n_int boot_int (a_cons (d_ixN 1 (d_int)) (a_nil))) (d_int)) (a_nil)))))) (sT_seq (PST.of (s_if (PW.pt (tw_or (t_cmp op_lt p_lt (d_ixN 4 (d_int)) (d_int)) (tw_or (t_cmp (o_ne hr.rm.units) p_neD (d_cal c__law_low (hr.mono (by decide : 1 ≤ 1)) (a_cons (d_ixN 4 (d_int)) (a_cons (d_ixN 4 (d_int)) (a_nil)))) (d_var 4)) (tw_or1 (t_cmp (o_ne hr.rm.units) p_neD (d_cal c__law_written (hr.mono (by decide : 1 ≤ 1)) (a_cons (d_var 4) (a_nil))) (d_var 0)))))) (s_one (s_ret (d_non))) (s_nil))) (sT_one (PST.of (s_ret (d_var 4))))))))
abbrev st__law_right : Stmt := top 28
theorem sc__law_right : FnScope ["_law_bag_here", "_law_turn", "_law_upper", "_law_pair", "_law_line", "_law_mine", "_law_at", "_law_more", "_law_ways", "_law_told", "_law_some", "_law_odd"] ["_law_bag_here"] (defScope st__law_right) := ⟨rfl, rfl, rfl, by decide +kernel, rfl, by decide +kernel, by decide +kernel⟩
theorem dv__law_right {P : Program} {w : World} {K : PySem.W.Frag} {mg : Str → Option Value} {base : Heap} {cs : List Addr} (Z : Txt K w mg cs) (m_Ratio_eq : MetD P w K mg base (tb K cs) 5 0 "__eq__" sp_Ratio_eq) (c__law_answer : AnsC P w K mg base (tb K cs) 1 "_law_answer" sp__law_sort) (sx_Ratio_read : StaX P w K mg base (tb K cs) 5 0 "Ratio" "read" spx_Ratio_read) (c__law_one : CalD P w K mg base (tb K cs) 2 "_law_one" sp__law_one) (c__law_read : CalD P w K mg base (tb K cs) 2 "_law_read" sp__law_read) (m_Ratio_str : MetD P w K mg base (tb K cs) 2 0 "__str__" sp_Ratio_str) (c__law_draw : CalD P w K mg base (tb K cs) 1 "_law_draw" sp__law_draw) (sx_Ratio_read_0_text : StaKX P w K mg base (tb K cs) 5 0 "Ratio" "read" ["text"] [0] [] spx_Ratio_read) (n_Ratio : NewD P w K mg base (tb K cs) 2 0 "Ratio" fi_Ratio) (c__law_written : CalD P w K mg base (tb K cs) 1 "_law_written" sp__law_written) (c__law_low : CalD P w K mg base (tb K cs) 1 "_law_low" sp__law_low) {f cd : Addr} (TBh : LamX.TabB base mg cd (cs.getD 5 0)) (A : Around) (outer : List Env) (s : Shared) (H : Hp) (E : XK)
    (hr : RoomG 7 (A.deeper (PyProof.Rows.envOfC "_law_right" (defScope st__law_right) s.heap.objs.size f (.ref cd)))) : PSs (cxOf CX0 P w K mg base ["_law_bag_here", "_law_turn", "_law_upper", "_law_pair", "_law_line", "_law_mine", "_law_at", "_law_more", "_law_ways", "_law_told", "_law_some", "_law_odd"] "_law_right" (defScope st__law_right) f (.ref cd) A outer s H E).nox (defBody st__law_right) (liftS (tb K cs) w__law_right) :=
  s_seq (s_for PassesOwn.never rfl (i_rng1 Z.n_range (a_cons (d_int) (a_nil))) (g_nm 1 sc__law_right.nd) (s_seq (s_set 2 sc__law_right.nd (d_op o_mulT p_mulT (d_cal c__law_one (hr.mono (by decide : 2 ≤ 7)) (a_cons (d_var 0) (a_cons (d_lst (a_cons (d_int) (a_cons (d_int) (a_cons (d_cal c__law_draw (hr.mono (by decide : 1 ≤ 7)) (a_cons (d_var 0) (a_cons (d_int) (a_nil)))) (a_cons (d_cal c__law_draw (hr.mono (by decide : 1 ≤ 7)) (a_cons (d_var 0) (a_cons (d_op op_pow p_pow (d_int) (d_int)) (a_nil)))) (a_nil)))))) (a_nil)))) (d_cal c__law_one (hr.mono (by decide : 2 ≤ 7)) (a_cons (d_var 0) (a_cons (d_lst (a_cons (d_int) (a_cons (d_op op_sub p_sub (d_int) (d_int)) (a_nil)))) (a_nil)))))) (s_seq (s_set 3 sc__law_right.nd (d_cal c__law_low (hr.mono (by decide : 1 ≤ 7)) (a_cons (d_var 2) (a_cons (d_op o_add p_add (d_int) (d_cal c__law_draw (hr.mono (by decide : 1 ≤ 7)) (a_cons (d_var 0) (a_cons (d_int) (a_nil))))) (a_nil))))) (s_seq (s_asgT (g_tup rfl (g_cons (g_nm 4 sc__law_right.nd) (g_cons (g_nm 5 sc__law_right.nd) (g_nil)))) (d_tup (a_cons (d_cal c__law_written (hr.mono (by decide : 1 ≤ 7)) (a_cons (d_var 3) (a_nil))) (a_cons (d_new n_Ratio (hr.mono (by decide : 3 ≤ 7)) (a_cons (d_ixN 3 (d_int)) (a_cons (d_ixN 3 (d_int)) (a_nil)))) (a_nil))))) (s_seq (s_if (t_cmp (op_neT Z.hK (MFs.cons (m_Ratio_eq.mf.up (by decide)) MFs.nil) (eqc_Ratio Z) (hr.mono (by decide : 6 ≤ 7))) p_neT (d_lst (a_cons (d_callTy (c_strT (MFs.cons (m_Ratio_str.mf.up (by decide)) MFs.nil) (hr.mono (by decide : 4 ≤ 7))) p_strT Z.n_str boot_str (a_cons (d_var 5) (a_nil))) (a_cons (d_callTy (c_strT (MFs.cons (m_Ratio_str.mf.up (by decide)) MFs.nil) (hr.mono (by decide : 4 ≤ 7))) p_strT Z.n_str boot_str (a_cons (d_staN sx_Ratio_read (hr.mono (by decide : 5 ≤ 7)) (a_cons (d_var 4) (a_nil))) (a_nil))) (a_cons (d_cmp (op_eqT Z.hK (MFs.cons (m_Ratio_eq.mf.up (by decide)) MFs.nil) (eqc_Ratio Z) (hr.mono (by decide : 5 ≤ 7))) p_eqT (d_staKN0 sx_Ratio_read_0_text (hr.mono (by decide : 5 ≤ 7)) (k_cons (d_var 4) (k_nil))) (d_var 5)) (a_nil))))) (d_lst (a_cons (d_var 4) (a_cons (d_var 4) (a_cons (d_bl) (a_nil)))))) (s_one (s_ret (d_bl))) (s_nil)) (s_seq (s_par 6 7 rfl sc__law_right.nd (by decide) (d_cal c__law_draw (hr.mono (by decide : 1 ≤ 7)) (a_cons (d_var 0) (a_cons (d_op o_add p_add (d_callB c_len p_len Z.n_len boot_len (a_cons (d_var 4) (a_nil))) (d_int)) (a_nil)))) (d_cal c__law_one (hr.mono (by decide : 2 ≤ 7)) (a_cons (d_var 0) (a_cons (d_lst (a_cons (d_str) (a_cons (d_str) (a_cons (d_str) (a_cons (d_str) (a_cons (d_str) (a_cons (d_str) (a_cons (d_str) (a_cons (d_str) (a_cons (d_str) (a_nil))))))))))) (a_nil)))) (by rfl)) (s_seq (s_set 8 sc__law_right.nd (d_lst (a_cons (d_op o_add p_add (d_op o_add p_add (d_sl (d_var 4) (o_none) (o_some (d_var 6))) (d_var 7)) (d_sl (d_var 4) (o_some (d_var 6)) (o_none))) (a_cons (d_op o_add p_add (d_sl (d_var 4) (o_none) (o_some (d_var 6))) (d_sl (d_var 4) (o_some (d_op o_add p_add (d_var 6) (d_int))) (o_none))) (a_cons (d_op o_add p_add (d_op o_add p_add (d_sl (d_var 4) (o_none) (o_some (d_var 6))) (d_var 7)) (d_sl (d_var 4) (o_some (d_op o_add p_add (d_var 6) (d_int))) (o_none))) (a_nil)))))) (s_seq (s_frz [8] (s_set 4 sc__law_right.nd (d_cal c__law_one (hr.mono (by decide : 2 ≤ 7)) (a_cons (d_var 0) (a_cons (d_var 8) (a_nil)))))) (s_seq (s_set 9 sc__law_right.nd (d_ans (c__law_answer.up (by decide : 1 ≤ 5)) TBh rfl (List.Mem.head _) (fun p hp _ => by have z := List.mem_singleton.mp hp; subst z; rfl) (hr.mono (by decide : 7 ≤ 7)) (LamX.lamS_by (sc := defScope st__law_right) (by decide +kernel)) (fun A outer s H E f c' e0 Ed hr tk => d_callTy1X (c_strT (MFs.cons (m_Ratio_str.mf.up (by decide)) MFs.nil) (hr.mono (by decide : 4 ≤ 5))) p_strT Z.n_str boot_str (d_staX sx_Ratio_read (hr.mono (by decide : 5 ≤ 5)) tk (a_cons (d_var 4) (a_nil)))))) (s_one (s_if (t_cmp (op_neT Z.hK (MFs.cons (m_Ratio_eq.mf.up (by decide)) MFs.nil) (eqc_Ratio Z) (hr.mono (by decide : 6 ≤ 7))) p_neT (d_var 9) (d_if (t_cmp op_isN p_is (d_cal c__law_read (hr.mono (by decide : 2 ≤ 7)) (a_cons (d_var 4) (a_nil))) (d_non)) (d_lst (a_cons (d_str) (a_cons (d_callB (call_reprD (hr.mono (Nat.zero_le _))) p_repr Z.n_repr boot_repr (a_cons (d_var 4) (a_nil))) (a_nil)))) (d_lst (a_cons (d_str) (a_cons (d_var 4) (a_nil)))))) (s_one (s_ret (d_bl))) (s_nil)))))))))))) (s_seq (s_set 10 sc__law_right.nd (d_lst (a_cons (d_non) (a_cons (d_int) (a_cons (d_str) (a_cons (d_str) (a_cons (d_str) (a_cons (d_str) (a_cons (d_str) (a_cons (d_str) (a_cons (d_str) (a_cons (d_str) (a_cons (d_str) (a_nil)))))))))))))) (s_seq (s_frz [10] (s_set 11 sc__law_right.nd (d_cal c__law_one (hr.mono (by decide : 2 ≤ 7)) (a_cons (d_var 0) (a_cons (d_op o_add p_add (d_var 10) (d_lst (a_cons (d_str) (a_cons (d_str) (a_cons (d_str) (a_cons (d_str) (a_cons (d_tup (a_cons (d_str) (a_nil))) (a_cons (d_lst (a_nil)) (a_nil))))))))) (a_nil)))))) (s_one (s_ret (d_cmp (op_eqT Z.hK (MFs.cons (m_Ratio_eq.mf.up (by decide)) MFs.nil) (eqc_Ratio Z) (hr.mono (by decide : 5 ≤ 7))) p_eqT (d_ans (c__law_answer.up (by decide : 1 ≤ 5)) TBh rfl (List.Mem.head _) (fun p hp _ => by have z := List.mem_singleton.mp hp; subst z; rfl) (hr.mono (by decide : 7 ≤ 7)) (LamX.lamS_by (sc := defScope st__law_right) (by decide +kernel)) (fun A outer s H E f c' e0 Ed hr tk => d_staX sx_Ratio_read (hr.mono (by decide : 5 ≤ 5)) tk (a_cons (d_var 11) (a_nil)))) (d_lst (a_cons (d_str) (a_cons (d_callB (call_reprD (hr.mono (Nat.zero_le _))) p_repr Z.n_repr boot_repr (a_cons (d_var 11) (a_nil))) (a_nil)))))))))
abbrev st_law : Stmt := top 29
theorem sc_law : FnScope ["_law_script", "_law_k"] ["_law_script"] (defScope st_law) := ⟨rfl, rfl, rfl, by decide +kernel, rfl, by decide +kernel, by decide +kernel⟩
theorem dv_law {P : Program} {w : World} {K : PySem.W.Frag} {mg : Str → Option Value} {base : Heap} {cs : List Addr} (Z : Txt K w mg cs) (c__law_right : CalD P w K mg base (tb K cs) 8 "_law_right" sp__law_right) (c__law_bag : CalO P w K mg base (tb K cs) 2 "_law_bag" sp__law_bag) {f : Addr} (cdv : Value) (A : Around) (outer : List Env) (s : Shared) (H : Hp) (E : XK)
    (hr : RoomG 8 (A.deeper (PyProof.Rows.envOfC "law" (defScope st_law) s.heap.objs.size f cdv))) : PSs (cxOf CX0 P w K mg base ["_law_script", "_law_k"] "law" (defScope st_law) f cdv A outer s H E).nox (defBody st_law) (liftS (tb K cs) w_law) :=
  s_one (s_ret (d_callB (cr_all rfl) p_all Z.n_all boot_all (a_cons (d_lc (own := [("_law_k", 1)]) rfl sc_law.nd (i_rng1 Z.n_range (a_cons (d_callB (call_max2 rfl) p_max2 Z.n_max boot_max (a_cons (d_int) (a_cons (d_callB (call_min2 rfl) p_min2 Z.n_min boot_min (a_cons (d_callB (c_lenT MFs.nil (hr.mono (by decide : 1 ≤ 8))) (p_lenTab Z.hK) Z.n_len boot_len (a_cons (d_var 0) (a_nil))) (a_cons (d_int) (a_nil)))) (a_nil)))) (a_nil))) (blkOk_by (N := ["_law_script", "_law_k"]) (sc := defScope st_law) (own := [("_law_k", 1)]) (by decide +kernel)) (fun _ _ _ _ _ => g_nm 1 sc_law.nd) (fun _ _ _ _ _ => ts_nil) (fun _ _ _ _ _ => d_calB c__law_right c__law_bag (hr.mono (by decide : 8 ≤ 8)) (hr.mono (by decide : 2 ≤ 8)) (a_cons (d_var 0) (a_cons (d_var 1) (a_nil)))) (by decide)) (a_nil))))
end K02
namespace K02
open PySem L2 DD
theorem ok_is_integer {P : Program} {w : World} {K : PySem.W.Frag} {mg : Str → Option Value} {base : Heap} {cs : List Addr} {f : Addr} {fd : FuncData} {dvs : List V} (F : FunX K "is_integer" "is_integer" st_is_integer dvs f fd) (Z : Txt K w mg cs)  : FnG P w K mg base CX0 1 f fd ["value"] (liftSp (tb K cs) sp_is_integer) :=
  fn_D F sc_is_integer (fun cdv A outer s H E hr => dv_is_integer Z  cdv A outer s H E hr) vc_is_integer
theorem ok_are_figures {P : Program} {w : World} {K : PySem.W.Frag} {mg : Str → Option Value} {base : Heap} {cs : List Addr} {f : Addr} {fd : FuncData} {dvs : List V} (F : FunX K "are_figures" "are_figures" st_are_figures dvs f fd) (Z : Txt K w mg cs)  : FnG P w K mg base CX0 1 f fd ["text"] (liftSp (tb K cs) sp_are_figures) :=
  fn_D F sc_are_figures (fun cdv A outer s H E hr => dv_are_figures Z  cdv A outer s H E hr) vc_are_figures
theorem ok_text_of {P : Program} {w : World} {K : PySem.W.Frag} {mg : Str → Option Value} {base : Heap} {cs : List Addr} {f : Addr} {fd : FuncData} {dvs : List V} (F : FunX K "text_of" "text_of" st_text_of dvs f fd) (Z : Txt K w mg cs)  : FnG P w K mg base CX0 1 f fd ["number"] (liftSp (tb K cs) sp_text_of) :=
  fn_D F sc_text_of (fun cdv A outer s H E hr => dv_text_of Z  cdv A outer s H E hr) vc_text_of
theorem ok_number_of {P : Program} {w : World} {K : PySem.W.Frag} {mg : Str → Option Value} {base : Heap} {cs : List Addr} {f : Addr} {fd : FuncData} {dvs : List V} (F : FunX K "number_of" "number_of" st_number_of dvs f fd) (Z : Txt K w mg cs)  : FnG P w K mg base CX0 1 f fd ["figures"] (liftSp (tb K cs) sp_number_of) :=
  fn_D F sc_number_of (fun cdv A outer s H E hr => dv_number_of Z  cdv A outer s H E hr) vc_number_of
theorem ok_shared_factor {P : Program} {w : World} {K : PySem.W.Frag} {mg : Str → Option Value} {base : Heap} {cs : List Addr} {f : Addr} {fd : FuncData} {dvs : List V} (F : FunX K "shared_factor" "shared_factor" st_shared_factor dvs f fd) (Z : Txt K w mg cs)  : FnG P w K mg base CX0 1 f fd ["one", "two"] (liftSp (tb K cs) sp_shared_factor) :=
  fn_D F sc_shared_factor (fun cdv A outer s H E hr => dv_shared_factor Z  cdv A outer s H E hr) vc_shared_factor
theorem ok_is_fraction {P : Program} {w : World} {K : PySem.W.Frag} {mg : Str → Option Value} {base : Heap} {cs : List Addr} {f : Addr} {fd : FuncData} {dvs : List V} (F : FunX K "is_fraction" "is_fraction" st_is_fraction dvs f fd) (Z : Txt K w mg cs) (c_is_integer : CalD P w K mg base (tb K cs) 1 "is_integer" sp_is_integer) : FnG P w K mg base CX0 2 f fd ["value"] (liftSp (tb K cs) sp_is_fraction) :=
  fn_D F sc_is_fraction (fun cdv A outer s H E hr => dv_is_fraction Z c_is_integer cdv A outer s H E hr) vc_is_fraction
theorem ok_Ratio_init {P : Program} {w : World} {K : PySem.W.Frag} {mg : Str → Option Value} {base : Heap} {cs : List Addr} {f : Addr} {fd : FuncData} {dvs : List V} (F : FunX K "__init__" "Ratio.__init__" st_Ratio_init dvs f fd) (Z : Txt K w mg cs) (c_shared_factor : CalD P w K mg base (tb K cs) 1 "shared_factor" sp_shared_factor) (c_is_integer : CalD P w K mg base (tb K cs) 1 "is_integer" sp_is_integer) : FnG P w K mg base CX0 2 f fd ["self", "top", "bottom"] (liftIn (tb K cs) 0 fi_Ratio) :=
  fn_I 0 F sc_Ratio_init (fun cdv A outer s H E hr => dv_Ratio_init Z c_shared_factor c_is_integer cdv A outer s H E hr) (fun svs Qd h => vc_Ratio_init (tb K cs) rfl svs Qd h)
theorem ok_as_ratio {P : Program} {w : World} {K : PySem.W.Frag} {mg : Str → Option Value} {base : Heap} {cs : List Addr} {f : Addr} {fd : FuncData} {dvs : List V} (F : FunX K "as_ratio" "as_ratio" st_as_ratio dvs f fd) (Z : Txt K w mg cs) (n_Ratio_1 : NewK P w K mg base (tb K cs) 2 0 "Ratio" 1 [] [0, 1] [.int 1] fi_Ratio) : FnG P w K mg base CX0 4 f fd ["value"] (liftSp (tb K cs) sp_as_ratio) :=
  fn_D F sc_as_ratio (fun cdv A outer s H E hr => dv_as_ratio Z n_Ratio_1 cdv A outer s H E hr) vc_as_ratio
theorem ok_ratio_in {P : Program} {w : World} {K : PySem.W.Frag} {mg : Str → Option Value} {base : Heap} {cs : List Addr} {f : Addr} {fd : FuncData} {dvs : List V} (F : FunX K "ratio_in" "ratio_in" st_ratio_in dvs f fd) (Z : Txt K w mg cs) (n_Ratio : NewD P w K mg base (tb K cs) 2 0 "Ratio" fi_Ratio) (c_number_of : CalD P w K mg base (tb K cs) 1 "number_of" sp_number_of) (c_are_figures : CalD P w K mg base (tb K cs) 1 "are_figures" sp_are_figures) : FnG P w K mg base CX0 4 f fd ["text"] (liftSp (tb K cs) sp_ratio_in) :=
  fn_D F sc_ratio_in (fun cdv A outer s H E hr => dv_ratio_in Z n_Ratio c_number_of c_are_figures cdv A outer s H E hr) vc_ratio_in
theorem ok_Ratio_eq {P : Program} {w : World} {K : PySem.W.Frag} {mg : Str → Option Value} {base : Heap} {cs : List Addr} {f : Addr} {fd : FuncData} {dvs : List V} (F : FunX K "__eq__" "Ratio.__eq__" st_Ratio_eq dvs f fd) (Z : Txt K w mg cs) (c_as_ratio : CalD P w K mg base (tb K cs) 4 "as_ratio" sp_as_ratio) (c_is_fraction : CalD P w K mg base (tb K cs) 2 "is_fraction" sp_is_fraction) : FnG P w K mg base CX0 5 f fd ["self", "other"] (liftSp (tb K cs) sp_Ratio_eq) :=
  fn_D F sc_Ratio_eq (fun cdv A outer s H E hr => dv_Ratio_eq Z c_as_ratio c_is_fraction cdv A outer s H E hr) vc_Ratio_eq
theorem ok_Ratio_str {P : Program} {w : World} {K : PySem.W.Frag} {mg : Str → Option Value} {base : Heap} {cs : List Addr} {f : Addr} {fd : FuncData} {dvs : List V} (F : FunX K "__str__" "Ratio.__str__" st_Ratio_str dvs f fd) (Z : Txt K w mg cs) (c_text_of : CalD P w K mg base (tb K cs) 1 "text_of" sp_text_of) : FnG P w K mg base CX0 2 f fd ["self"] (liftSp (tb K cs) sp_Ratio_str) :=
  fn_D F sc_Ratio_str (fun cdv A outer s H E hr => dv_Ratio_str Z c_text_of cdv A outer s H E hr) vc_Ratio_str
theorem ok_Ratio_read {P : Program} {w : World} {K : PySem.W.Frag} {mg : Str → Option Value} {base : Heap} {cs : List Addr} {f : Addr} {fd : FuncData} {dvs : List V} (F : FunX K "read" "Ratio.read" st_Ratio_read dvs f fd) (Z : Txt K w mg cs) (m_Ratio_str : MetD P w K mg base (tb K cs) 2 0 "__str__" sp_Ratio_str) (e_InvalidText : ErrC P w K mg base (tb K cs) 1 "InvalidText" "value") (c_ratio_in : CalD P w K mg base (tb K cs) 4 "ratio_in" sp_ratio_in) : FnG P w K mg base (L2.CX P w) 5 f fd ["text"] (liftSpX (tb K cs) spx_Ratio_read) :=
  fn_DX F sc_Ratio_read (fun e0 Ed cdv A outer s H E hr tk => dv_Ratio_read Z m_Ratio_str e_InvalidText c_ratio_in e0 Ed cdv A outer s H E hr tk) vc_Ratio_read
theorem ok__law_bag {P : Program} {w : World} {K : PySem.W.Frag} {mg : Str → Option Value} {base : Heap} {cs : List Addr} {f : Addr} {fd : FuncData} {dvs : List V} (F : FunX K "_law_bag" "_law_bag" st__law_bag dvs f fd) (Z : Txt K w mg cs)  : FnG P w K mg base CX0 2 f fd ["_law_script", "_law_k"] (liftSpO (tb K cs) sp__law_bag) :=
  fn_O F sc__law_bag (fun cdv A outer s H E hr => dv__law_bag Z  cdv A outer s H E hr) vc__law_bag
theorem ok__law_draw {P : Program} {w : World} {K : PySem.W.Frag} {mg : Str → Option Value} {base : Heap} {cs : List Addr} {f : Addr} {fd : FuncData} {dvs : List V} (F : FunX K "_law_draw" "_law_draw" st__law_draw dvs f fd) (Z : Txt K w mg cs)  : FnG P w K mg base CX0 1 f fd ["_law_bag_here", "_law_wide"] (liftSp (tb K cs) sp__law_draw) :=
  fn_D F sc__law_draw (fun cdv A outer s H E hr => dv__law_draw Z  cdv A outer s H E hr) vc__law_draw
theorem ok__law_one {P : Program} {w : World} {K : PySem.W.Frag} {mg : Str → Option Value} {base : Heap} {cs : List Addr} {f : Addr} {fd : FuncData} {dvs : List V} (F : FunX K "_law_one" "_law_one" st__law_one dvs f fd) (Z : Txt K w mg cs) (c__law_draw : CalD P w K mg base (tb K cs) 1 "_law_draw" sp__law_draw) : FnG P w K mg base CX0 2 f fd ["_law_bag_here", "_law_some"] (liftSp (tb K cs) sp__law_one) :=
  fn_D F sc__law_one (fun cdv A outer s H E hr => dv__law_one Z c__law_draw cdv A outer s H E hr) vc__law_one
theorem ok__law_low {P : Program} {w : World} {K : PySem.W.Frag} {mg : Str → Option Value} {base : Heap} {cs : List Addr} {f : Addr} {fd : FuncData} {dvs : List V} (F : FunX K "_law_low" "_law_low" st__law_low dvs f fd) (Z : Txt K w mg cs)  : FnG P w K mg base CX0 1 f fd ["_law_upper", "_law_lower"] (liftSp (tb K cs) sp__law_low) :=
  fn_D F sc__law_low (fun cdv A outer s H E hr => dv__law_low Z  cdv A outer s H E hr) vc__law_low
theorem ok__law_sort {P : Program} {w : World} {K : PySem.W.Frag} {mg : Str → Option Value} {base : Heap} {cs : List Addr} {f : Addr} {fd : FuncData} {dvs : List V} (F : FunX K "_law_sort" "_law_sort" st__law_sort dvs f fd) (Z : Txt K w mg cs)  : FnZ P w K mg base (tb K cs) 1 f fd "_law_e" sp__law_sort :=
  fn_Z F sc__law_sort (fun p cdv A outer s H po hr PX => dv__law_sort Z  p cdv A outer s H po hr PX) vc__law_sort
theorem ok__law_written {P : Program} {w : World} {K : PySem.W.Frag} {mg : Str → Option Value} {base : Heap} {cs : List Addr} {f : Addr} {fd : FuncData} {dvs : List V} (F : FunX K "_law_written" "_law_written" st__law_written dvs f fd) (Z : Txt K w mg cs)  : FnG P w K mg base CX0 1 f fd ["_law_pair"] (liftSp (tb K cs) sp__law_written) :=
  fn_D F sc__law_written (fun cdv A outer s H E hr => dv__law_written Z  cdv A outer s H E hr) vc__law_written
theorem ok__law_read {P : Program} {w : World} {K : PySem.W.Frag} {mg : Str → Option Value} {base : Heap} {cs : List Addr} {f : Addr} {fd : FuncData} {dvs : List V} (F : FunX K "_law_read" "_law_read" st__law_read dvs f fd) (Z : Txt K w mg cs) (c__law_written : CalD P w K mg base (tb K cs) 1 "_law_written" sp__law_written) (c__law_low : CalD P w K mg base (tb K cs) 1 "_law_low" sp__law_low) : FnG P w K mg base CX0 2 f fd ["_law_line"] (liftSp (tb K cs) sp__law_read) :=
  fn_DT F sc__law_read (by decide +kernel) (by decide) (fun cdv A outer s H E hr => dv__law_read Z c__law_written c__law_low cdv A outer s H E hr) vc__law_read
theorem ok__law_right {P : Program} {w : World} {K : PySem.W.Frag} {mg : Str → Option Value} {base : Heap} {cs : List Addr} {f cd : Addr} {fd : FuncData} {dvs : List V} (F : FunX K "_law_right" "_law_right" st__law_right dvs f fd) (hcd : fd.code = .ref cd) (TBh : LamX.TabB base mg cd (cs.getD 5 0)) (Z : Txt K w mg cs) (m_Ratio_eq : MetD P w K mg base (tb K cs) 5 0 "__eq__" sp_Ratio_eq) (c__law_answer : AnsC P w K mg base (tb K cs) 1 "_law_answer" sp__law_sort) (sx_Ratio_read : StaX P w K mg base (tb K cs) 5 0 "Ratio" "read" spx_Ratio_read) (c__law_one : CalD P w K mg base (tb K cs) 2 "_law_one" sp__law_one) (c__law_read : CalD P w K mg base (tb K cs) 2 "_law_read" sp__law_read) (m_Ratio_str : MetD P w K mg base (tb K cs) 2 0 "__str__" sp_Ratio_str) (c__law_draw : CalD P w K mg base (tb K cs) 1 "_law_draw" sp__law_draw) (sx_Ratio_read_0_text : StaKX P w K mg base (tb K cs) 5 0 "Ratio" "read" ["text"] [0] [] spx_Ratio_read) (n_Ratio : NewD P w K mg base (tb K cs) 2 0 "Ratio" fi_Ratio) (c__law_written : CalD P w K mg base (tb K cs) 1 "_law_written" sp__law_written) (c__law_low : CalD P w K mg base (tb K cs) 1 "_law_low" sp__law_low) : FnG P w K mg base CX0 8 f fd ["_law_bag_here"] (liftSp (tb K cs) sp__law_right) :=
  fn_DC F hcd sc__law_right (fun A outer s H E hr => dv__law_right Z m_Ratio_eq c__law_answer sx_Ratio_read c__law_one c__law_read m_Ratio_str c__law_draw sx_Ratio_read_0_text n_Ratio c__law_written c__law_low TBh A outer s H E hr) vc__law_right
theorem ok_law {P : Program} {w : World} {K : PySem.W.Frag} {mg : Str → Option Value} {base : Heap} {cs : List Addr} {f : Addr} {fd : FuncData} {dvs : List V} (F : FunX K "law" "law" st_law dvs f fd) (Z : Txt K w mg cs) (c__law_right : CalD P w K mg base (tb K cs) 8 "_law_right" sp__law_right) (c__law_bag : CalO P w K mg base (tb K cs) 2 "_law_bag" sp__law_bag) : FnG P w K mg base CX0 9 f fd ["_law_script"] (liftSp (tb K cs) sp_law) :=
  fn_D F sc_law (fun cdv A outer s H E hr => dv_law Z c__law_right c__law_bag cdv A outer s H E hr) vc_law
theorem all_mk {l : PySem.W.OpenLaw} {w : World} {K : PySem.W.Frag} {h : Heap} {mg : Str → Option Value} {fa C_Ratio C_InvalidText C_ShapeError C_QuestionError C_SizeError PT f_is_integer f_are_figures f_InvalidText_init f_text_of f_number_of f_shared_factor f_is_fraction f_Ratio_init f_as_ratio f_ratio_in f_Ratio_eq f_Ratio_str f_Ratio_read f__law_bag f__law_draw f__law_one f__law_low f__law_sort f__law_answer f__law_written f__law_read f__law_right f_law : Addr} (X : K.In h) (G : h.Ns mainGlobals mg) (hfa : mg "law" = some (.ref fa))
    {od_is_integer an_is_integer od_are_figures an_are_figures od_InvalidText_init an_InvalidText_init od_text_of an_text_of od_number_of an_number_of od_shared_factor an_shared_factor od_is_fraction an_is_fraction od_Ratio_init an_Ratio_init od_as_ratio an_as_ratio od_ratio_in an_ratio_in od_Ratio_eq an_Ratio_eq od_Ratio_str an_Ratio_str od_Ratio_read an_Ratio_read od__law_bag an__law_bag od__law_draw an__law_draw od__law_one an__law_one od__law_low an__law_low od__law_sort an__law_sort od__law_answer an__law_answer od__law_written an__law_written od__law_read an__law_read od__law_right an__law_right od_law an_law : Option Addr} {sl_is_integer sl_are_figures sl_InvalidText_init sl_text_of sl_number_of sl_shared_factor sl_is_fraction sl_Ratio_init sl_as_ratio sl_ratio_in sl_Ratio_eq sl_Ratio_str sl_Ratio_read sl__law_bag sl__law_draw sl__law_one sl__law_low sl__law_sort sl__law_answer sl__law_written sl__law_read sl__law_right sl_law : Array (Option Value)} {oc_is_integer kV_is_integer dc_is_integer pm_is_integer cd_is_integer ct_is_integer oc_are_figures kV_are_figures dc_are_figures pm_are_figures cd_are_figures ct_are_figures oc_InvalidText_init kV_InvalidText_init dc_InvalidText_init pm_InvalidText_init cd_InvalidText_init ct_InvalidText_init oc_text_of kV_text_of dc_text_of pm_text_of cd_text_of ct_text_of oc_number_of kV_number_of dc_number_of pm_number_of cd_number_of ct_number_of oc_shared_factor kV_shared_factor dc_shared_factor pm_shared_factor cd_shared_factor ct_shared_factor oc_is_fraction kV_is_fraction dc_is_fraction pm_is_fraction cd_is_fraction ct_is_fraction oc_Ratio_init kV_Ratio_init dc_Ratio_init pm_Ratio_init cd_Ratio_init ct_Ratio_init oc_as_ratio kV_as_ratio dc_as_ratio pm_as_ratio cd_as_ratio ct_as_ratio oc_ratio_in kV_ratio_in dc_ratio_in pm_ratio_in cd_ratio_in ct_ratio_in oc_Ratio_eq kV_Ratio_eq dc_Ratio_eq pm_Ratio_eq cd_Ratio_eq ct_Ratio_eq oc_Ratio_str kV_Ratio_str dc_Ratio_str pm_Ratio_str cd_Ratio_str ct_Ratio_str oc_Ratio_read kV_Ratio_read dc_Ratio_read pm_Ratio_read cd_Ratio_read ct_Ratio_read oc__law_bag kV__law_bag dc__law_bag pm__law_bag cd__law_bag ct__law_bag oc__law_draw kV__law_draw dc__law_draw pm__law_draw cd__law_draw ct__law_draw oc__law_one kV__law_one dc__law_one pm__law_one cd__law_one ct__law_one oc__law_low kV__law_low dc__law_low pm__law_low cd__law_low ct__law_low oc__law_sort kV__law_sort dc__law_sort pm__law_sort cd__law_sort ct__law_sort oc__law_answer kV__law_answer dc__law_answer pm__law_answer cd__law_answer ct__law_answer oc__law_written kV__law_written dc__law_written pm__law_written cd__law_written ct__law_written oc__law_read kV__law_read dc__law_read pm__law_read cd__law_read ct__law_read oc__law_right kV__law_right dc__law_right pm__law_right ct__law_right oc_law kV_law dc_law pm_law cd_law ct_law : Value} {nm_InvalidText : Str} {qq_InvalidText : Str} {N_InvalidText : Addr} {bs_InvalidText : List Value} {bm_InvalidText : List Value} {sn_InvalidText : List Str} {sub_InvalidText : List Value} {ab_InvalidText : Bool} {col_InvalidText : Option Bool} {dd_InvalidText : Option Addr} {k0_InvalidText : Option Value} {k1_InvalidText : Option Value} {k2_InvalidText : Option Value} {k3_InvalidText : Option Value} {k5_InvalidText : Option Value} {D_Ratio_init : Addr} {odD_Ratio_init : Option Addr} {ocD_Ratio_init : Value} {nD_Ratio_init : Nat} {slD_Ratio_init : Array (Option Value)} {t0_Ratio_init : Tok} {p_Ratio_read : Addr} {rs_Ratio_read : List Value} {cd__law_right : Addr} {oP__law_right : Value} {dP__law_right : Option Addr} {vP__law_right : Array Value} {sP__law_right : Array (Option Value)} {t_c_BLOCK : Tok}
    (aC_Ratio : PySem.W.nsIn K mainGlobals "Ratio" = some (some (.ref C_Ratio)))
    (pg_Ratio : PySem.W.plainGet K C_Ratio Str.empty = true)
    (hd_Ratio : PySem.W.hasDictIn K C_Ratio = true)
    (po_Ratio : PySem.W.plainOver K C_Ratio = true)
    (sa_Ratio : PySem.W.findIn K (.ref C_Ratio) "__setattr__" = some (some (.builtin "object.__setattr__")))
    (mk_Ratio : PySem.W.makesIn K C_Ratio = true)
    (kc_Ratio : PySem.W.keepIn K (.ref C_Ratio) = true)
    (no_Ratio_top : PySem.W.findIn K (.ref C_Ratio) "top" = some none)
    (no_Ratio_bottom : PySem.W.findIn K (.ref C_Ratio) "bottom" = some none)
    (ha_Ratio : PySem.W.findIn K (.ref C_Ratio) "__class__" = some (some (.builtin "object.__class__")))
    (hn_Ratio : PySem.W.specialIn K (.builtin "object.__class__") "__get__" = some (some (.builtin "getset_descriptor.__get__")))
    (ht_Ratio : PySem.W.takesIn K (.builtin "object.__class__") = some true)
    (hm_Ratio : PySem.W.mroIn K C_Ratio (.type "object") = some true)
    (ne_Ratio : PySem.W.findIn K (.ref C_Ratio) "__ne__" = some (some (.builtin "object.__ne__")))
    (mi_Ratio : PySem.W.mroIn K C_Ratio (.type "int") = some false)
    (aC_ShapeError : PySem.W.nsIn K mainGlobals "ShapeError" = some (some (.ref C_ShapeError)))
    (sb_ShapeError : PySem.W.subIn K (.ref C_ShapeError) (.type "BaseException") = some true)
    (hd_ShapeError : PySem.W.hasDictIn K C_ShapeError = true)
    (it_ShapeError : PySem.W.typeIn K (.ref C_ShapeError) = some (.type "type"))
    (ic_ShapeError : PySem.W.isClsIn K C_ShapeError = true)
    (aC_QuestionError : PySem.W.nsIn K mainGlobals "QuestionError" = some (some (.ref C_QuestionError)))
    (sb_QuestionError : PySem.W.subIn K (.ref C_QuestionError) (.type "BaseException") = some true)
    (hd_QuestionError : PySem.W.hasDictIn K C_QuestionError = true)
    (it_QuestionError : PySem.W.typeIn K (.ref C_QuestionError) = some (.type "type"))
    (ic_QuestionError : PySem.W.isClsIn K C_QuestionError = true)
    (aC_SizeError : PySem.W.nsIn K mainGlobals "SizeError" = some (some (.ref C_SizeError)))
    (sb_SizeError : PySem.W.subIn K (.ref C_SizeError) (.type "BaseException") = some true)
    (hd_SizeError : PySem.W.hasDictIn K C_SizeError = true)
    (it_SizeError : PySem.W.typeIn K (.ref C_SizeError) = some (.type "type"))
    (ic_SizeError : PySem.W.isClsIn K C_SizeError = true)
    (aC_InvalidText : PySem.W.nsIn K mainGlobals "InvalidText" = some (some (.ref C_InvalidText)))
    (hd_InvalidText : PySem.W.hasDictIn K C_InvalidText = true)
    (ga_InvalidText : PySem.W.findIn K (.ref C_InvalidText) "__getattribute__" = some (some (.builtin "BaseException.__getattribute__")))
    (gg_InvalidText : PySem.W.findIn K (.ref C_InvalidText) "__getattr__" = some none)
    (sb_InvalidText : PySem.W.subIn K (.ref C_InvalidText) (.type "BaseException") = some true)
    (ha_InvalidText : PySem.W.findIn K (.ref C_InvalidText) "__class__" = some (some (.builtin "object.__class__")))
    (hn_InvalidText : PySem.W.specialIn K (.builtin "object.__class__") "__get__" = some (some (.builtin "getset_descriptor.__get__")))
    (ht_InvalidText : PySem.W.takesIn K (.builtin "object.__class__") = some true)
    (hm_InvalidText : PySem.W.mroIn K C_InvalidText (.type "object") = some true)
    (sa_InvalidText : PySem.W.findIn K (.ref C_InvalidText) "__setattr__" = some (some (.builtin "object.__setattr__")))
    (it_InvalidText : PySem.W.typeIn K (.ref C_InvalidText) = some (.type "type"))
    (kc_InvalidText : PySem.W.keepIn K (.ref C_InvalidText) = true)
    (no_InvalidText_value : PySem.W.findIn K (.ref C_InvalidText) "value" = some none)
    (ox_InvalidText : K.lookup C_InvalidText = some (excClassObj nm_InvalidText qq_InvalidText C_InvalidText N_InvalidText bs_InvalidText bm_InvalidText true sn_InvalidText sub_InvalidText ab_InvalidText col_InvalidText dd_InvalidText k0_InvalidText k1_InvalidText k2_InvalidText k3_InvalidText k5_InvalidText "ValueError.__new__"))
    (rv_InvalidText : PySem.HandSPX.refsVE bm_InvalidText = true)
    (su_InvalidText_ShapeError : PySem.W.subIn K (.ref C_InvalidText) (.ref C_ShapeError) = some true)
    (nq_ShapeError_InvalidText : ((Value.ref C_InvalidText : Value) == Value.ref C_ShapeError) = false)
    (su_InvalidText_QuestionError : PySem.W.subIn K (.ref C_InvalidText) (.ref C_QuestionError) = some false)
    (nq_QuestionError_InvalidText : ((Value.ref C_InvalidText : Value) == Value.ref C_QuestionError) = false)
    (su_InvalidText_SizeError : PySem.W.subIn K (.ref C_InvalidText) (.ref C_SizeError) = some false)
    (nq_SizeError_InvalidText : ((Value.ref C_InvalidText : Value) == Value.ref C_SizeError) = false)
    (su_InvalidText_ArithmeticError : PySem.W.subIn K (.ref C_InvalidText) (.type "ArithmeticError") = some false)
    (su_InvalidText_LookupError : PySem.W.subIn K (.ref C_InvalidText) (.type "LookupError") = some false)
    (su_InvalidText_ValueError : PySem.W.subIn K (.ref C_InvalidText) (.type "ValueError") = some true)
    (ic_InvalidText : PySem.W.isClsIn K C_InvalidText = true)
    (ic_Ratio : PySem.W.isClsIn K C_Ratio = true)
    (it_Ratio : PySem.W.typeIn K (.ref C_Ratio) = some (.type "type"))
    (kj_bool_Ratio : PySem.W.mroIn K C_Ratio (.type "bool") = some false)
    (kj_int_Ratio : PySem.W.mroIn K C_Ratio (.type "int") = some false)
    (kj_str_Ratio : PySem.W.mroIn K C_Ratio (.type "str") = some false)
    (a_is_integer : PySem.W.nsIn K mainGlobals "is_integer" = some (some (.ref f_is_integer)))
    (l_is_integer : K.lookup f_is_integer = some ⟨oc_is_integer, od_is_integer, .func (PySem.W.fnOf "is_integer" "is_integer" (defArgs st_is_integer) (defBody st_is_integer) (defScope st_is_integer) .none kV_is_integer dc_is_integer pm_is_integer an_is_integer cd_is_integer ct_is_integer), sl_is_integer⟩)
    (c_is_integer : PySem.W.codeIn K cd_is_integer "is_integer" = true)
    (k_is_integer : PySem.W.keepIn K (.ref f_is_integer) = true)
    (a_are_figures : PySem.W.nsIn K mainGlobals "are_figures" = some (some (.ref f_are_figures)))
    (l_are_figures : K.lookup f_are_figures = some ⟨oc_are_figures, od_are_figures, .func (PySem.W.fnOf "are_figures" "are_figures" (defArgs st_are_figures) (defBody st_are_figures) (defScope st_are_figures) .none kV_are_figures dc_are_figures pm_are_figures an_are_figures cd_are_figures ct_are_figures), sl_are_figures⟩)
    (c_are_figures : PySem.W.codeIn K cd_are_figures "are_figures" = true)
    (k_are_figures : PySem.W.keepIn K (.ref f_are_figures) = true)
    (a_InvalidText_init : PySem.W.findIn K (.ref C_InvalidText) "__init__" = some (some (.ref f_InvalidText_init)))
    (i_InvalidText_init : PySem.W.isFn K (.ref f_InvalidText_init) = true)
    (tI_InvalidText_init : PySem.W.typeIn K (.ref f_InvalidText_init) = some (.type "function"))
    (l_InvalidText_init : K.lookup f_InvalidText_init = some ⟨oc_InvalidText_init, od_InvalidText_init, .func (PySem.W.fnOf "__init__" "InvalidText.__init__" (defArgs st_InvalidText_init) (defBody st_InvalidText_init) (defScope st_InvalidText_init) .none kV_InvalidText_init dc_InvalidText_init pm_InvalidText_init an_InvalidText_init cd_InvalidText_init ct_InvalidText_init), sl_InvalidText_init⟩)
    (c_InvalidText_init : PySem.W.codeIn K cd_InvalidText_init "InvalidText.__init__" = true)
    (k_InvalidText_init : PySem.W.keepIn K (.ref f_InvalidText_init) = true)
    (a_text_of : PySem.W.nsIn K mainGlobals "text_of" = some (some (.ref f_text_of)))
    (l_text_of : K.lookup f_text_of = some ⟨oc_text_of, od_text_of, .func (PySem.W.fnOf "text_of" "text_of" (defArgs st_text_of) (defBody st_text_of) (defScope st_text_of) .none kV_text_of dc_text_of pm_text_of an_text_of cd_text_of ct_text_of), sl_text_of⟩)
    (c_text_of : PySem.W.codeIn K cd_text_of "text_of" = true)
    (k_text_of : PySem.W.keepIn K (.ref f_text_of) = true)
    (a_number_of : PySem.W.nsIn K mainGlobals "number_of" = some (some (.ref f_number_of)))
    (l_number_of : K.lookup f_number_of = some ⟨oc_number_of, od_number_of, .func (PySem.W.fnOf "number_of" "number_of" (defArgs st_number_of) (defBody st_number_of) (defScope st_number_of) .none kV_number_of dc_number_of pm_number_of an_number_of cd_number_of ct_number_of), sl_number_of⟩)
    (c_number_of : PySem.W.codeIn K cd_number_of "number_of" = true)
    (k_number_of : PySem.W.keepIn K (.ref f_number_of) = true)
    (a_shared_factor : PySem.W.nsIn K mainGlobals "shared_factor" = some (some (.ref f_shared_factor)))
    (l_shared_factor : K.lookup f_shared_factor = some ⟨oc_shared_factor, od_shared_factor, .func (PySem.W.fnOf "shared_factor" "shared_factor" (defArgs st_shared_factor) (defBody st_shared_factor) (defScope st_shared_factor) .none kV_shared_factor dc_shared_factor pm_shared_factor an_shared_factor cd_shared_factor ct_shared_factor), sl_shared_factor⟩)
    (c_shared_factor : PySem.W.codeIn K cd_shared_factor "shared_factor" = true)
    (k_shared_factor : PySem.W.keepIn K (.ref f_shared_factor) = true)
    (a_is_fraction : PySem.W.nsIn K mainGlobals "is_fraction" = some (some (.ref f_is_fraction)))
    (l_is_fraction : K.lookup f_is_fraction = some ⟨oc_is_fraction, od_is_fraction, .func (PySem.W.fnOf "is_fraction" "is_fraction" (defArgs st_is_fraction) (defBody st_is_fraction) (defScope st_is_fraction) .none kV_is_fraction dc_is_fraction pm_is_fraction an_is_fraction cd_is_fraction ct_is_fraction), sl_is_fraction⟩)
    (c_is_fraction : PySem.W.codeIn K cd_is_fraction "is_fraction" = true)
    (k_is_fraction : PySem.W.keepIn K (.ref f_is_fraction) = true)
    (a_Ratio_init : PySem.W.findIn K (.ref C_Ratio) "__init__" = some (some (.ref f_Ratio_init)))
    (i_Ratio_init : PySem.W.isFn K (.ref f_Ratio_init) = true)
    (l_Ratio_init : K.lookup f_Ratio_init = some ⟨oc_Ratio_init, od_Ratio_init, .func (PySem.W.fnOf "__init__" "Ratio.__init__" (defArgs st_Ratio_init) (defBody st_Ratio_init) (defScope st_Ratio_init) (.ref D_Ratio_init) kV_Ratio_init dc_Ratio_init pm_Ratio_init an_Ratio_init cd_Ratio_init ct_Ratio_init), sl_Ratio_init⟩)
    (d_Ratio_init : K.lookup D_Ratio_init = some ⟨ocD_Ratio_init, odD_Ratio_init, .seq ([.int 1 t0_Ratio_init] : List Value).toArray nD_Ratio_init, slD_Ratio_init⟩)
    (c_Ratio_init : PySem.W.codeIn K cd_Ratio_init "Ratio.__init__" = true)
    (k_Ratio_init : PySem.W.keepIn K (.ref f_Ratio_init) = true)
    (a_as_ratio : PySem.W.nsIn K mainGlobals "as_ratio" = some (some (.ref f_as_ratio)))
    (l_as_ratio : K.lookup f_as_ratio = some ⟨oc_as_ratio, od_as_ratio, .func (PySem.W.fnOf "as_ratio" "as_ratio" (defArgs st_as_ratio) (defBody st_as_ratio) (defScope st_as_ratio) .none kV_as_ratio dc_as_ratio pm_as_ratio an_as_ratio cd_as_ratio ct_as_ratio), sl_as_ratio⟩)
    (c_as_ratio : PySem.W.codeIn K cd_as_ratio "as_ratio" = true)
    (k_as_ratio : PySem.W.keepIn K (.ref f_as_ratio) = true)
    (a_ratio_in : PySem.W.nsIn K mainGlobals "ratio_in" = some (some (.ref f_ratio_in)))
    (l_ratio_in : K.lookup f_ratio_in = some ⟨oc_ratio_in, od_ratio_in, .func (PySem.W.fnOf "ratio_in" "ratio_in" (defArgs st_ratio_in) (defBody st_ratio_in) (defScope st_ratio_in) .none kV_ratio_in dc_ratio_in pm_ratio_in an_ratio_in cd_ratio_in ct_ratio_in), sl_ratio_in⟩)
    (c_ratio_in : PySem.W.codeIn K cd_ratio_in "ratio_in" = true)
    (k_ratio_in : PySem.W.keepIn K (.ref f_ratio_in) = true)
    (a_Ratio_eq : PySem.W.findIn K (.ref C_Ratio) "__eq__" = some (some (.ref f_Ratio_eq)))
    (i_Ratio_eq : PySem.W.isFn K (.ref f_Ratio_eq) = true)
    (l_Ratio_eq : K.lookup f_Ratio_eq = some ⟨oc_Ratio_eq, od_Ratio_eq, .func (PySem.W.fnOf "__eq__" "Ratio.__eq__" (defArgs st_Ratio_eq) (defBody st_Ratio_eq) (defScope st_Ratio_eq) .none kV_Ratio_eq dc_Ratio_eq pm_Ratio_eq an_Ratio_eq cd_Ratio_eq ct_Ratio_eq), sl_Ratio_eq⟩)
    (c_Ratio_eq : PySem.W.codeIn K cd_Ratio_eq "Ratio.__eq__" = true)
    (k_Ratio_eq : PySem.W.keepIn K (.ref f_Ratio_eq) = true)
    (a_Ratio_str : PySem.W.findIn K (.ref C_Ratio) "__str__" = some (some (.ref f_Ratio_str)))
    (i_Ratio_str : PySem.W.isFn K (.ref f_Ratio_str) = true)
    (l_Ratio_str : K.lookup f_Ratio_str = some ⟨oc_Ratio_str, od_Ratio_str, .func (PySem.W.fnOf "__str__" "Ratio.__str__" (defArgs st_Ratio_str) (defBody st_Ratio_str) (defScope st_Ratio_str) .none kV_Ratio_str dc_Ratio_str pm_Ratio_str an_Ratio_str cd_Ratio_str ct_Ratio_str), sl_Ratio_str⟩)
    (c_Ratio_str : PySem.W.codeIn K cd_Ratio_str "Ratio.__str__" = true)
    (k_Ratio_str : PySem.W.keepIn K (.ref f_Ratio_str) = true)
    (at_Ratio_read : PySem.W.findCls K (.ref C_Ratio) (.type "type") "read" = some (.get (.builtin "staticmethod.__get__") (.ref p_Ratio_read) .none (.ref C_Ratio)))
    (rc_Ratio_read : PySem.W.recIn K p_Ratio_read "staticmethod" = some (.ref f_Ratio_read :: rs_Ratio_read))
    (rd_Ratio : PySem.W.readsIn K C_Ratio (.type "type") = true)
    (gt_Ratio : PySem.W.specialIn K (.ref C_Ratio) "__getattribute__" = some (some (.builtin "type.__getattribute__")))
    (l_Ratio_read : K.lookup f_Ratio_read = some ⟨oc_Ratio_read, od_Ratio_read, .func (PySem.W.fnOf "read" "Ratio.read" (defArgs st_Ratio_read) (defBody st_Ratio_read) (defScope st_Ratio_read) .none kV_Ratio_read dc_Ratio_read pm_Ratio_read an_Ratio_read cd_Ratio_read ct_Ratio_read), sl_Ratio_read⟩)
    (c_Ratio_read : PySem.W.codeIn K cd_Ratio_read "Ratio.read" = true)
    (k_Ratio_read : PySem.W.keepIn K (.ref f_Ratio_read) = true)
    (a__law_bag : PySem.W.nsIn K mainGlobals "_law_bag" = some (some (.ref f__law_bag)))
    (l__law_bag : K.lookup f__law_bag = some ⟨oc__law_bag, od__law_bag, .func (PySem.W.fnOf "_law_bag" "_law_bag" (defArgs st__law_bag) (defBody st__law_bag) (defScope st__law_bag) .none kV__law_bag dc__law_bag pm__law_bag an__law_bag cd__law_bag ct__law_bag), sl__law_bag⟩)
    (c__law_bag : PySem.W.codeIn K cd__law_bag "_law_bag" = true)
    (k__law_bag : PySem.W.keepIn K (.ref f__law_bag) = true)
    (a__law_draw : PySem.W.nsIn K mainGlobals "_law_draw" = some (some (.ref f__law_draw)))
    (l__law_draw : K.lookup f__law_draw = some ⟨oc__law_draw, od__law_draw, .func (PySem.W.fnOf "_law_draw" "_law_draw" (defArgs st__law_draw) (defBody st__law_draw) (defScope st__law_draw) .none kV__law_draw dc__law_draw pm__law_draw an__law_draw cd__law_draw ct__law_draw), sl__law_draw⟩)
    (c__law_draw : PySem.W.codeIn K cd__law_draw "_law_draw" = true)
    (k__law_draw : PySem.W.keepIn K (.ref f__law_draw) = true)
    (a__law_one : PySem.W.nsIn K mainGlobals "_law_one" = some (some (.ref f__law_one)))
    (l__law_one : K.lookup f__law_one = some ⟨oc__law_one, od__law_one, .func (PySem.W.fnOf "_law_one" "_law_one" (defArgs st__law_one) (defBody st__law_one) (defScope st__law_one) .none kV__law_one dc__law_one pm__law_one an__law_one cd__law_one ct__law_one), sl__law_one⟩)
    (c__law_one : PySem.W.codeIn K cd__law_one "_law_one" = true)
    (k__law_one : PySem.W.keepIn K (.ref f__law_one) = true)
    (a__law_low : PySem.W.nsIn K mainGlobals "_law_low" = some (some (.ref f__law_low)))
    (l__law_low : K.lookup f__law_low = some ⟨oc__law_low, od__law_low, .func (PySem.W.fnOf "_law_low" "_law_low" (defArgs st__law_low) (defBody st__law_low) (defScope st__law_low) .none kV__law_low dc__law_low pm__law_low an__law_low cd__law_low ct__law_low), sl__law_low⟩)
    (c__law_low : PySem.W.codeIn K cd__law_low "_law_low" = true)
    (k__law_low : PySem.W.keepIn K (.ref f__law_low) = true)
    (a__law_sort : PySem.W.nsIn K mainGlobals "_law_sort" = some (some (.ref f__law_sort)))
    (l__law_sort : K.lookup f__law_sort = some ⟨oc__law_sort, od__law_sort, .func (PySem.W.fnOf "_law_sort" "_law_sort" (defArgs st__law_sort) (defBody st__law_sort) (defScope st__law_sort) .none kV__law_sort dc__law_sort pm__law_sort an__law_sort cd__law_sort ct__law_sort), sl__law_sort⟩)
    (c__law_sort : PySem.W.codeIn K cd__law_sort "_law_sort" = true)
    (k__law_sort : PySem.W.keepIn K (.ref f__law_sort) = true)
    (a__law_answer : PySem.W.nsIn K mainGlobals "_law_answer" = some (some (.ref f__law_answer)))
    (l__law_answer : K.lookup f__law_answer = some ⟨oc__law_answer, od__law_answer, .func (PySem.W.fnOf "_law_answer" "_law_answer" (defArgs st__law_answer) (defBody st__law_answer) (defScope st__law_answer) .none kV__law_answer dc__law_answer pm__law_answer an__law_answer cd__law_answer ct__law_answer), sl__law_answer⟩)
    (c__law_answer : PySem.W.codeIn K cd__law_answer "_law_answer" = true)
    (k__law_answer : PySem.W.keepIn K (.ref f__law_answer) = true)
    (a__law_written : PySem.W.nsIn K mainGlobals "_law_written" = some (some (.ref f__law_written)))
    (l__law_written : K.lookup f__law_written = some ⟨oc__law_written, od__law_written, .func (PySem.W.fnOf "_law_written" "_law_written" (defArgs st__law_written) (defBody st__law_written) (defScope st__law_written) .none kV__law_written dc__law_written pm__law_written an__law_written cd__law_written ct__law_written), sl__law_written⟩)
    (c__law_written : PySem.W.codeIn K cd__law_written "_law_written" = true)
    (k__law_written : PySem.W.keepIn K (.ref f__law_written) = true)
    (a__law_read : PySem.W.nsIn K mainGlobals "_law_read" = some (some (.ref f__law_read)))
    (l__law_read : K.lookup f__law_read = some ⟨oc__law_read, od__law_read, .func (PySem.W.fnOf "_law_read" "_law_read" (defArgs st__law_read) (defBody st__law_read) (defScope st__law_read) .none kV__law_read dc__law_read pm__law_read an__law_read cd__law_read ct__law_read), sl__law_read⟩)
    (c__law_read : PySem.W.codeIn K cd__law_read "_law_read" = true)
    (k__law_read : PySem.W.keepIn K (.ref f__law_read) = true)
    (a__law_right : PySem.W.nsIn K mainGlobals "_law_right" = some (some (.ref f__law_right)))
    (l__law_right : K.lookup f__law_right = some ⟨oc__law_right, od__law_right, .func (PySem.W.fnOf "_law_right" "_law_right" (defArgs st__law_right) (defBody st__law_right) (defScope st__law_right) .none kV__law_right dc__law_right pm__law_right an__law_right (.ref cd__law_right) ct__law_right), sl__law_right⟩)
    (lc__law_right : K.lookup cd__law_right = some ⟨oP__law_right, dP__law_right, .fields vP__law_right, sP__law_right⟩)
    (vp__law_right : (vP__law_right[11]? : Option Value) = some (.ref PT))
    (ch__law_right : PySem.W.codeHdIn K cd__law_right PT = true)
    (nk__law_right : K.lookup PT = none)
    (hP__law_right : h.get? PT = some { cls := .none, data := .fields #[] })
    (c__law_right : PySem.W.codeIn K (.ref cd__law_right) "_law_right" = true)
    (k__law_right : PySem.W.keepIn K (.ref f__law_right) = true)
    (a_law : PySem.W.nsIn K mainGlobals "law" = some (some (.ref f_law)))
    (l_law : K.lookup f_law = some ⟨oc_law, od_law, .func (PySem.W.fnOf "law" "law" (defArgs st_law) (defBody st_law) (defScope st_law) .none kV_law dc_law pm_law an_law cd_law ct_law), sl_law⟩)
    (c_law : PySem.W.codeIn K cd_law "law" = true)
    (k_law : PySem.W.keepIn K (.ref f_law) = true)
    (z_c_BLOCK : PySem.W.nsIn K mainGlobals "BLOCK" = some (some (.int 40 t_c_BLOCK)))
    (z_n_ArithmeticError : PySem.W.nsIn K mainGlobals "ArithmeticError" = some none)
    (z_n_LookupError : PySem.W.nsIn K mainGlobals "LookupError" = some none)
    (z_n_ValueError : PySem.W.nsIn K mainGlobals "ValueError" = some none)
    (z_n_abs : PySem.W.nsIn K mainGlobals "abs" = some none)
    (z_n_all : PySem.W.nsIn K mainGlobals "all" = some none)
    (z_n_bool : PySem.W.nsIn K mainGlobals "bool" = some none)
    (z_n_int : PySem.W.nsIn K mainGlobals "int" = some none)
    (z_n_isinstance : PySem.W.nsIn K mainGlobals "isinstance" = some none)
    (z_n_len : PySem.W.nsIn K mainGlobals "len" = some none)
    (z_n_max : PySem.W.nsIn K mainGlobals "max" = some none)
    (z_n_min : PySem.W.nsIn K mainGlobals "min" = some none)
    (z_n_range : PySem.W.nsIn K mainGlobals "range" = some none)
    (z_n_repr : PySem.W.nsIn K mainGlobals "repr" = some none)
    (z_n_str : PySem.W.nsIn K mainGlobals "str" = some none)
    : ∃ (fd : FuncData) (qs : List (Addr × Addr)) (sp : Sp), (∀ p ∈ qs, h.get? p.2 = some { cls := .none, data := .fields #[] }) ∧ (∀ p ∈ qs, K.lookup p.2 = none) ∧ (∀ p ∈ qs, PySem.W.CodeHd h p.1 p.2) ∧ (∀ (s : Shared) (u : Value), BindsTo s fd ⟨[u], []⟩ [("_law_script", u)]) ∧
      (∀ (H : Hp) (a : Addr) (ns : List Int), ns.length ≤ 63 → (∀ p ∈ qs, H p.2 = some (.tbl #[])) → SqL K H a (ns.map V.int) → sp [.ref a] H (fun v _ => v = .bl true) fun _ _ _ => False) ∧
      ∀ base : Heap, K.In base → base.Ns mainGlobals mg → (∀ p ∈ qs, LamX.TabB base mg p.1 p.2) → FnG l.prog w K mg base CX0 9 fa fd ["_law_script"] sp := by
  have e := hfa.symm.trans (PySem.W.mg_of X G a_law)
  cases e
  have Z : Txt K w mg [C_Ratio, C_InvalidText, C_ShapeError, C_QuestionError, C_SizeError, PT] := ⟨⟨_, PySem.W.mg_of X G z_c_BLOCK⟩, PySem.W.mg_of X G aC_InvalidText, PySem.W.mg_of X G aC_QuestionError, PySem.W.mg_of X G aC_Ratio, PySem.W.mg_of X G aC_ShapeError, PySem.W.mg_of X G aC_SizeError, IsiOk.mk2 (isi_own ic_Ratio it_Ratio (IsNo.cons (by kernel_rfl) (IsNo.cons (by kernel_rfl) (IsNo.cons (by kernel_rfl) (IsNo.cons (by kernel_rfl) (IsNo.cons (by kernel_rfl) (IsNo.cons (by kernel_rfl) (IsNo.cons (by kernel_rfl) (IsNo.nil))))))))) (IsAllC.cons (⟨⟨pg_Ratio, hd_Ratio, po_Ratio, sa_Ratio⟩, ha_Ratio, hn_Ratio, ht_Ratio, hm_Ratio⟩) kit_self (IsAllC.nil)), IsiOk.mk2 (isi_all (by decide +kernel)) (IsAllC.cons (⟨⟨pg_Ratio, hd_Ratio, po_Ratio, sa_Ratio⟩, ha_Ratio, hn_Ratio, ht_Ratio, hm_Ratio⟩) (kit_bty (by decide +kernel) kj_bool_Ratio) (IsAllC.nil)), IsiOk.mk2 (isi_all (by decide +kernel)) (IsAllC.cons (⟨⟨pg_Ratio, hd_Ratio, po_Ratio, sa_Ratio⟩, ha_Ratio, hn_Ratio, ht_Ratio, hm_Ratio⟩) (kit_bty (by decide +kernel) kj_int_Ratio) (IsAllC.nil)), IsiOk.mk2 (isi_all (by decide +kernel)) (IsAllC.cons (⟨⟨pg_Ratio, hd_Ratio, po_Ratio, sa_Ratio⟩, ha_Ratio, hn_Ratio, ht_Ratio, hm_Ratio⟩) (kit_bty (by decide +kernel) kj_str_Ratio) (IsAllC.nil)), fun p => IsXOk.of (List.forall_mem_cons.mpr ⟨⟨⟨ga_InvalidText, gg_InvalidText, sb_InvalidText, hd_InvalidText, ha_InvalidText, hn_InvalidText, ht_InvalidText, hm_InvalidText⟩, (kit_subT (by decide +kernel) su_InvalidText_ArithmeticError)⟩, (fun _ h => nomatch h)⟩), fun p => IsXOk.of (List.forall_mem_cons.mpr ⟨⟨⟨ga_InvalidText, gg_InvalidText, sb_InvalidText, hd_InvalidText, ha_InvalidText, hn_InvalidText, ht_InvalidText, hm_InvalidText⟩, kit_same⟩, (fun _ h => nomatch h)⟩), fun p => IsXOk.of (List.forall_mem_cons.mpr ⟨⟨⟨ga_InvalidText, gg_InvalidText, sb_InvalidText, hd_InvalidText, ha_InvalidText, hn_InvalidText, ht_InvalidText, hm_InvalidText⟩, (kit_subT (by decide +kernel) su_InvalidText_LookupError)⟩, (fun _ h => nomatch h)⟩), fun p => IsXOk.of (List.forall_mem_cons.mpr ⟨⟨⟨ga_InvalidText, gg_InvalidText, sb_InvalidText, hd_InvalidText, ha_InvalidText, hn_InvalidText, ht_InvalidText, hm_InvalidText⟩, (kit_sub ic_QuestionError it_QuestionError nq_QuestionError_InvalidText su_InvalidText_QuestionError)⟩, (fun _ h => nomatch h)⟩), fun p => IsXOk.of (List.forall_mem_cons.mpr ⟨⟨⟨ga_InvalidText, gg_InvalidText, sb_InvalidText, hd_InvalidText, ha_InvalidText, hn_InvalidText, ht_InvalidText, hm_InvalidText⟩, (kit_sub ic_ShapeError it_ShapeError nq_ShapeError_InvalidText su_InvalidText_ShapeError)⟩, (fun _ h => nomatch h)⟩), fun p => IsXOk.of (List.forall_mem_cons.mpr ⟨⟨⟨ga_InvalidText, gg_InvalidText, sb_InvalidText, hd_InvalidText, ha_InvalidText, hn_InvalidText, ht_InvalidText, hm_InvalidText⟩, (kit_sub ic_SizeError it_SizeError nq_SizeError_InvalidText su_InvalidText_SizeError)⟩, (fun _ h => nomatch h)⟩), fun p => IsXOk.of (List.forall_mem_cons.mpr ⟨⟨⟨ga_InvalidText, gg_InvalidText, sb_InvalidText, hd_InvalidText, ha_InvalidText, hn_InvalidText, ht_InvalidText, hm_InvalidText⟩, (kit_subT (by decide +kernel) su_InvalidText_ValueError)⟩, (fun _ h => nomatch h)⟩), PySem.W.mg_none_of X G z_n_ArithmeticError, PySem.W.mg_none_of X G z_n_LookupError, PySem.W.mg_none_of X G z_n_ValueError, PySem.W.mg_none_of X G z_n_abs, PySem.W.mg_none_of X G z_n_all, PySem.W.mg_none_of X G z_n_bool, PySem.W.mg_none_of X G z_n_int, PySem.W.mg_none_of X G z_n_isinstance, PySem.W.mg_none_of X G z_n_len, PySem.W.mg_none_of X G z_n_max, PySem.W.mg_none_of X G z_n_min, PySem.W.mg_none_of X G z_n_range, PySem.W.mg_none_of X G z_n_repr, PySem.W.mg_none_of X G z_n_str, fun p => XfOk.of (List.forall_mem_cons.mpr ⟨⟨⟨ga_InvalidText, gg_InvalidText, sb_InvalidText, hd_InvalidText⟩, no_InvalidText_value, rfl, (show (fl 1).Nodup by decide +kernel)⟩, (fun _ h => nomatch h)⟩), ⟨pg_Ratio, hd_Ratio, po_Ratio, sa_Ratio⟩, no_Ratio_top, no_Ratio_bottom, ⟨⟨ne_Ratio, hm_Ratio⟩, mi_Ratio⟩⟩
  have F_is_integer := funX_mk (st := st_is_integer) (dvs := []) l_is_integer c_is_integer k_is_integer (.inl ⟨rfl, rfl⟩)
  have b_is_integer : Binds K _ ["value"] [] := F_is_integer.binds fun _ _ _ _ _ _ us hl => match us, hl with | [_], _ => rfl
  have F_are_figures := funX_mk (st := st_are_figures) (dvs := []) l_are_figures c_are_figures k_are_figures (.inl ⟨rfl, rfl⟩)
  have b_are_figures : Binds K _ ["text"] [] := F_are_figures.binds fun _ _ _ _ _ _ us hl => match us, hl with | [_], _ => rfl
  have F_InvalidText_init := funX_mk (st := st_InvalidText_init) (dvs := []) l_InvalidText_init c_InvalidText_init k_InvalidText_init (.inl ⟨rfl, rfl⟩)
  have b_InvalidText_init : Binds K _ ["self", "value"] [] := F_InvalidText_init.binds fun _ _ _ _ _ _ us hl => match us, hl with | [_, _], _ => rfl
  have F_text_of := funX_mk (st := st_text_of) (dvs := []) l_text_of c_text_of k_text_of (.inl ⟨rfl, rfl⟩)
  have b_text_of : Binds K _ ["number"] [] := F_text_of.binds fun _ _ _ _ _ _ us hl => match us, hl with | [_], _ => rfl
  have F_number_of := funX_mk (st := st_number_of) (dvs := []) l_number_of c_number_of k_number_of (.inl ⟨rfl, rfl⟩)
  have b_number_of : Binds K _ ["figures"] [] := F_number_of.binds fun _ _ _ _ _ _ us hl => match us, hl with | [_], _ => rfl
  have F_shared_factor := funX_mk (st := st_shared_factor) (dvs := []) l_shared_factor c_shared_factor k_shared_factor (.inl ⟨rfl, rfl⟩)
  have b_shared_factor : Binds K _ ["one", "two"] [] := F_shared_factor.binds fun _ _ _ _ _ _ us hl => match us, hl with | [_, _], _ => rfl
  have F_is_fraction := funX_mk (st := st_is_fraction) (dvs := []) l_is_fraction c_is_fraction k_is_fraction (.inl ⟨rfl, rfl⟩)
  have b_is_fraction : Binds K _ ["value"] [] := F_is_fraction.binds fun _ _ _ _ _ _ us hl => match us, hl with | [_], _ => rfl
  have F_Ratio_init := funX_mk (st := st_Ratio_init) (dvs := [.int 1]) l_Ratio_init c_Ratio_init k_Ratio_init (.inr ⟨by simp, _, _, _, _, rfl, d_Ratio_init, rfl, (.cons ⟨_, rfl⟩ (.nil))⟩)
  obtain ⟨_, hv_Ratio_init_ALL, hb_Ratio_init_ALL⟩ := F_Ratio_init.kbD (ps := ["self", "top", "bottom"]) (by simp) 3 [] [0, 1, 2] (fun _ _ _ _ _ _ _ us ws its h1 h2 h3 => match us, ws, its, h1, h2, h3 with | [_, _, _], [], [_], _, _, _ => ⟨_, rfl, rfl⟩)
  have b_Ratio_init : Binds K _ ["self", "top", "bottom"] [] := fun s us X hl => match us, hl with | [u0, u1, u2], _ => hb_Ratio_init_ALL s [u0, u1, u2] [] X rfl rfl
  have F_as_ratio := funX_mk (st := st_as_ratio) (dvs := []) l_as_ratio c_as_ratio k_as_ratio (.inl ⟨rfl, rfl⟩)
  have b_as_ratio : Binds K _ ["value"] [] := F_as_ratio.binds fun _ _ _ _ _ _ us hl => match us, hl with | [_], _ => rfl
  have F_ratio_in := funX_mk (st := st_ratio_in) (dvs := []) l_ratio_in c_ratio_in k_ratio_in (.inl ⟨rfl, rfl⟩)
  have b_ratio_in : Binds K _ ["text"] [] := F_ratio_in.binds fun _ _ _ _ _ _ us hl => match us, hl with | [_], _ => rfl
  have F_Ratio_eq := funX_mk (st := st_Ratio_eq) (dvs := []) l_Ratio_eq c_Ratio_eq k_Ratio_eq (.inl ⟨rfl, rfl⟩)
  have b_Ratio_eq : Binds K _ ["self", "other"] [] := F_Ratio_eq.binds fun _ _ _ _ _ _ us hl => match us, hl with | [_, _], _ => rfl
  have F_Ratio_str := funX_mk (st := st_Ratio_str) (dvs := []) l_Ratio_str c_Ratio_str k_Ratio_str (.inl ⟨rfl, rfl⟩)
  have b_Ratio_str : Binds K _ ["self"] [] := F_Ratio_str.binds fun _ _ _ _ _ _ us hl => match us, hl with | [_], _ => rfl
  have F_Ratio_read := funX_mk (st := st_Ratio_read) (dvs := []) l_Ratio_read c_Ratio_read k_Ratio_read (.inl ⟨rfl, rfl⟩)
  have b_Ratio_read : Binds K _ ["text"] [] := F_Ratio_read.binds fun _ _ _ _ _ _ us hl => match us, hl with | [_], _ => rfl
  have F__law_bag := funX_mk (st := st__law_bag) (dvs := []) l__law_bag c__law_bag k__law_bag (.inl ⟨rfl, rfl⟩)
  have b__law_bag : Binds K _ ["_law_script", "_law_k"] [] := F__law_bag.binds fun _ _ _ _ _ _ us hl => match us, hl with | [_, _], _ => rfl
  have F__law_draw := funX_mk (st := st__law_draw) (dvs := []) l__law_draw c__law_draw k__law_draw (.inl ⟨rfl, rfl⟩)
  have b__law_draw : Binds K _ ["_law_bag_here", "_law_wide"] [] := F__law_draw.binds fun _ _ _ _ _ _ us hl => match us, hl with | [_, _], _ => rfl
  have F__law_one := funX_mk (st := st__law_one) (dvs := []) l__law_one c__law_one k__law_one (.inl ⟨rfl, rfl⟩)
  have b__law_one : Binds K _ ["_law_bag_here", "_law_some"] [] := F__law_one.binds fun _ _ _ _ _ _ us hl => match us, hl with | [_, _], _ => rfl
  have F__law_low := funX_mk (st := st__law_low) (dvs := []) l__law_low c__law_low k__law_low (.inl ⟨rfl, rfl⟩)
  have b__law_low : Binds K _ ["_law_upper", "_law_lower"] [] := F__law_low.binds fun _ _ _ _ _ _ us hl => match us, hl with | [_, _], _ => rfl
  have F__law_sort := funX_mk (st := st__law_sort) (dvs := []) l__law_sort c__law_sort k__law_sort (.inl ⟨rfl, rfl⟩)
  have b__law_sort : Binds K _ ["_law_e"] [] := F__law_sort.binds fun _ _ _ _ _ _ us hl => match us, hl with | [_], _ => rfl
  have F__law_answer := funX_mk (st := st__law_answer) (dvs := []) l__law_answer c__law_answer k__law_answer (.inl ⟨rfl, rfl⟩)
  have b__law_answer : Binds K _ ["_law_act"] [] := F__law_answer.binds fun _ _ _ _ _ _ us hl => match us, hl with | [_], _ => rfl
  have F__law_written := funX_mk (st := st__law_written) (dvs := []) l__law_written c__law_written k__law_written (.inl ⟨rfl, rfl⟩)
  have b__law_written : Binds K _ ["_law_pair"] [] := F__law_written.binds fun _ _ _ _ _ _ us hl => match us, hl with | [_], _ => rfl
  have F__law_read := funX_mk (st := st__law_read) (dvs := []) l__law_read c__law_read k__law_read (.inl ⟨rfl, rfl⟩)
  have b__law_read : Binds K _ ["_law_line"] [] := F__law_read.binds fun _ _ _ _ _ _ us hl => match us, hl with | [_], _ => rfl
  have F__law_right := funX_mk (st := st__law_right) (dvs := []) l__law_right c__law_right k__law_right (.inl ⟨rfl, rfl⟩)
  have b__law_right : Binds K _ ["_law_bag_here"] [] := F__law_right.binds fun _ _ _ _ _ _ us hl => match us, hl with | [_], _ => rfl
  have F_law := funX_mk (st := st_law) (dvs := []) l_law c_law k_law (.inl ⟨rfl, rfl⟩)
  have b_law : Binds K _ ["_law_script"] [] := F_law.binds fun _ _ _ _ _ _ us hl => match us, hl with | [_], _ => rfl
  refine ⟨PySem.W.fnOf "law" "law" (defArgs st_law) (defBody st_law) (defScope st_law) .none kV_law dc_law pm_law an_law cd_law ct_law, [(cd__law_right, PT)], liftSp (tb K [C_Ratio, C_InvalidText, C_ShapeError, C_QuestionError, C_SizeError, PT]) (lawS 63), List.forall_mem_cons.mpr ⟨hP__law_right, fun _ h => nomatch h⟩, List.forall_mem_cons.mpr ⟨nk__law_right, fun _ h => nomatch h⟩, List.forall_mem_cons.mpr ⟨PySem.W.codeHd_of_K X ch__law_right, fun _ h => nomatch h⟩, fun s u => .of_eq rfl,
    fun H a ns hl hH hS => spLaw_ofT (T := tb K [C_Ratio, C_InvalidText, C_ShapeError, C_QuestionError, C_SizeError, PT]) _ _ _ _ (tabs_start (hH _ List.mem_cons_self)) ⟨a, ns, rfl, hS, hl, fun _ => rfl⟩, fun base _ _ hTB => ?_⟩
  have TBh : LamX.TabB base mg cd__law_right ([C_Ratio, C_InvalidText, C_ShapeError, C_QuestionError, C_SizeError, PT].getD 5 0) := hTB _ List.mem_cons_self
  have G_is_integer := ok_is_integer (P := l.prog) (w := w) (base := base) F_is_integer Z 
  have c_is_integer : CalD l.prog w K mg base (tb K [C_Ratio, C_InvalidText, C_ShapeError, C_QuestionError, C_SizeError, PT]) 1 "is_integer" sp_is_integer := ⟨_, _, _, G_is_integer, PySem.W.mg_of X G a_is_integer, F_is_integer.kp, b_is_integer⟩
  have G_are_figures := ok_are_figures (P := l.prog) (w := w) (base := base) F_are_figures Z 
  have c_are_figures : CalD l.prog w K mg base (tb K [C_Ratio, C_InvalidText, C_ShapeError, C_QuestionError, C_SizeError, PT]) 1 "are_figures" sp_are_figures := ⟨_, _, _, G_are_figures, PySem.W.mg_of X G a_are_figures, F_are_figures.kp, b_are_figures⟩
  have e_InvalidText : ErrC l.prog w K mg base (tb K [C_Ratio, C_InvalidText, C_ShapeError, C_QuestionError, C_SizeError, PT]) 1 "InvalidText" "value" := ⟨_, _, ⟨⟨_, _, _, _, _, _, _, _, _, _, _, _, _, _, _, ox_InvalidText, rv_InvalidText⟩, sa_InvalidText, sb_InvalidText, it_InvalidText, kc_InvalidText⟩, a_InvalidText_init, tI_InvalidText_init, fn_err F_InvalidText_init sc_InvalidText_init rfl rfl rfl, b_InvalidText_init, PySem.W.mg_of X G aC_InvalidText, no_InvalidText_value, rfl⟩
  have G_text_of := ok_text_of (P := l.prog) (w := w) (base := base) F_text_of Z 
  have c_text_of : CalD l.prog w K mg base (tb K [C_Ratio, C_InvalidText, C_ShapeError, C_QuestionError, C_SizeError, PT]) 1 "text_of" sp_text_of := ⟨_, _, _, G_text_of, PySem.W.mg_of X G a_text_of, F_text_of.kp, b_text_of⟩
  have G_number_of := ok_number_of (P := l.prog) (w := w) (base := base) F_number_of Z 
  have c_number_of : CalD l.prog w K mg base (tb K [C_Ratio, C_InvalidText, C_ShapeError, C_QuestionError, C_SizeError, PT]) 1 "number_of" sp_number_of := ⟨_, _, _, G_number_of, PySem.W.mg_of X G a_number_of, F_number_of.kp, b_number_of⟩
  have G_shared_factor := ok_shared_factor (P := l.prog) (w := w) (base := base) F_shared_factor Z 
  have c_shared_factor : CalD l.prog w K mg base (tb K [C_Ratio, C_InvalidText, C_ShapeError, C_QuestionError, C_SizeError, PT]) 1 "shared_factor" sp_shared_factor := ⟨_, _, _, G_shared_factor, PySem.W.mg_of X G a_shared_factor, F_shared_factor.kp, b_shared_factor⟩
  have G_is_fraction := ok_is_fraction (P := l.prog) (w := w) (base := base) F_is_fraction Z c_is_integer
  have c_is_fraction : CalD l.prog w K mg base (tb K [C_Ratio, C_InvalidText, C_ShapeError, C_QuestionError, C_SizeError, PT]) 2 "is_fraction" sp_is_fraction := ⟨_, _, _, G_is_fraction, PySem.W.mg_of X G a_is_fraction, F_is_fraction.kp, b_is_fraction⟩
  have G_Ratio_init := ok_Ratio_init (P := l.prog) (w := w) (base := base) F_Ratio_init Z c_shared_factor c_is_integer
  have n_Ratio : NewD l.prog w K mg base (tb K [C_Ratio, C_InvalidText, C_ShapeError, C_QuestionError, C_SizeError, PT]) 2 0 "Ratio" fi_Ratio := ⟨_, _, _, ⟨mk_Ratio, a_Ratio_init, i_Ratio_init, kc_Ratio⟩, G_Ratio_init, PySem.W.mg_of X G aC_Ratio, b_Ratio_init⟩
  obtain ⟨_, hv_Ratio_init_1, hb_Ratio_init_1⟩ := F_Ratio_init.kbD (ps := ["self", "top", "bottom"]) (by simp) 2 [] [0, 1, 2] (fun _ _ _ _ _ _ _ us ws its h1 h2 h3 => match us, ws, its, h1, h2, h3 with | [_, _], [], [_], _, _, _ => ⟨_, rfl, rfl⟩)
  have n_Ratio_1 : NewK l.prog w K mg base (tb K [C_Ratio, C_InvalidText, C_ShapeError, C_QuestionError, C_SizeError, PT]) 2 0 "Ratio" 1 [] [0, 1] [.int 1] fi_Ratio := ⟨_, _, _, _, _, ⟨mk_Ratio, a_Ratio_init, i_Ratio_init, kc_Ratio⟩, G_Ratio_init, PySem.W.mg_of X G aC_Ratio, hb_Ratio_init_1, hv_Ratio_init_1, fun F => IsL.cons _ Is.int (IsL.nil _)⟩
  have G_as_ratio := ok_as_ratio (P := l.prog) (w := w) (base := base) F_as_ratio Z n_Ratio_1
  have c_as_ratio : CalD l.prog w K mg base (tb K [C_Ratio, C_InvalidText, C_ShapeError, C_QuestionError, C_SizeError, PT]) 4 "as_ratio" sp_as_ratio := ⟨_, _, _, G_as_ratio, PySem.W.mg_of X G a_as_ratio, F_as_ratio.kp, b_as_ratio⟩
  have G_ratio_in := ok_ratio_in (P := l.prog) (w := w) (base := base) F_ratio_in Z n_Ratio c_number_of c_are_figures
  have c_ratio_in : CalD l.prog w K mg base (tb K [C_Ratio, C_InvalidText, C_ShapeError, C_QuestionError, C_SizeError, PT]) 4 "ratio_in" sp_ratio_in := ⟨_, _, _, G_ratio_in, PySem.W.mg_of X G a_ratio_in, F_ratio_in.kp, b_ratio_in⟩
  have G_Ratio_eq := ok_Ratio_eq (P := l.prog) (w := w) (base := base) F_Ratio_eq Z c_as_ratio c_is_fraction
  have m_Ratio_eq : MetD l.prog w K mg base (tb K [C_Ratio, C_InvalidText, C_ShapeError, C_QuestionError, C_SizeError, PT]) 5 0 "__eq__" sp_Ratio_eq := ⟨_, _, _, ⟨a_Ratio_eq, i_Ratio_eq, k_Ratio_eq⟩, G_Ratio_eq, b_Ratio_eq⟩
  have G_Ratio_str := ok_Ratio_str (P := l.prog) (w := w) (base := base) F_Ratio_str Z c_text_of
  have m_Ratio_str : MetD l.prog w K mg base (tb K [C_Ratio, C_InvalidText, C_ShapeError, C_QuestionError, C_SizeError, PT]) 2 0 "__str__" sp_Ratio_str := ⟨_, _, _, ⟨a_Ratio_str, i_Ratio_str, k_Ratio_str⟩, G_Ratio_str, b_Ratio_str⟩
  have G_Ratio_read := ok_Ratio_read (P := l.prog) (w := w) (base := base) F_Ratio_read Z m_Ratio_str e_InvalidText c_ratio_in
  have sx_Ratio_read : StaX l.prog w K mg base (tb K [C_Ratio, C_InvalidText, C_ShapeError, C_QuestionError, C_SizeError, PT]) 5 0 "Ratio" "read" spx_Ratio_read := ⟨_, _, _, _, ⟨at_Ratio_read, ⟨_, rc_Ratio_read⟩⟩, ⟨rd_Ratio, gt_Ratio⟩, G_Ratio_read, PySem.W.mg_of X G aC_Ratio, k_Ratio_read, b_Ratio_read⟩
  obtain ⟨_, hv_Ratio_read_0_text, hb_Ratio_read_0_text⟩ := F_Ratio_read.kb0 (ps := ["text"]) 0 ["text"] [0] (fun _ _ _ _ _ _ us ws h1 h2 => match us, ws, h1, h2 with | [], [_], _, _ => rfl)
  have sx_Ratio_read_0_text : StaKX l.prog w K mg base (tb K [C_Ratio, C_InvalidText, C_ShapeError, C_QuestionError, C_SizeError, PT]) 5 0 "Ratio" "read" ["text"] [0] [] spx_Ratio_read := ⟨_, _, _, _, _, _, ⟨at_Ratio_read, ⟨_, rc_Ratio_read⟩⟩, ⟨rd_Ratio, gt_Ratio⟩, G_Ratio_read, PySem.W.mg_of X G aC_Ratio, k_Ratio_read, hb_Ratio_read_0_text, hv_Ratio_read_0_text, fun F => IsL.nil _⟩
  have G__law_bag := ok__law_bag (P := l.prog) (w := w) (base := base) F__law_bag Z 
  have c__law_bag : CalO l.prog w K mg base (tb K [C_Ratio, C_InvalidText, C_ShapeError, C_QuestionError, C_SizeError, PT]) 2 "_law_bag" sp__law_bag := ⟨_, _, _, G__law_bag, PySem.W.mg_of X G a__law_bag, F__law_bag.kp, b__law_bag⟩
  have G__law_draw := ok__law_draw (P := l.prog) (w := w) (base := base) F__law_draw Z 
  have c__law_draw : CalD l.prog w K mg base (tb K [C_Ratio, C_InvalidText, C_ShapeError, C_QuestionError, C_SizeError, PT]) 1 "_law_draw" sp__law_draw := ⟨_, _, _, G__law_draw, PySem.W.mg_of X G a__law_draw, F__law_draw.kp, b__law_draw⟩
  have G__law_one := ok__law_one (P := l.prog) (w := w) (base := base) F__law_one Z c__law_draw
  have c__law_one : CalD l.prog w K mg base (tb K [C_Ratio, C_InvalidText, C_ShapeError, C_QuestionError, C_SizeError, PT]) 2 "_law_one" sp__law_one := ⟨_, _, _, G__law_one, PySem.W.mg_of X G a__law_one, F__law_one.kp, b__law_one⟩
  have G__law_low := ok__law_low (P := l.prog) (w := w) (base := base) F__law_low Z 
  have c__law_low : CalD l.prog w K mg base (tb K [C_Ratio, C_InvalidText, C_ShapeError, C_QuestionError, C_SizeError, PT]) 1 "_law_low" sp__law_low := ⟨_, _, _, G__law_low, PySem.W.mg_of X G a__law_low, F__law_low.kp, b__law_low⟩
  have G__law_sort := ok__law_sort (P := l.prog) (w := w) (base := base) F__law_sort Z 
  have c__law_answer : AnsC l.prog w K mg base (tb K [C_Ratio, C_InvalidText, C_ShapeError, C_QuestionError, C_SizeError, PT]) 1 "_law_answer" sp__law_sort := by
    refine ans_mk (ie := 2) (a := "_law_act") (got := "_law_got") (e := "_law_e") (so := "_law_sort") (x1 := "ShapeError") (x2 := "QuestionError") (x3 := "SizeError") F__law_answer sc__law_answer (PySem.W.mg_of X G a__law_answer) b__law_answer rfl rfl rfl rfl rfl rfl rfl rfl rfl (PySem.W.mg_of X G aC_ShapeError) (PySem.W.mg_of X G aC_QuestionError) (PySem.W.mg_of X G aC_SizeError) G__law_sort (PySem.W.mg_of X G a__law_sort) F__law_sort.kp b__law_sort ?_ (by decide) (by decide) (by decide) (by decide)
    · intro c ds Qd hh
      have z := so_cls hh
      simp only [List.mem_cons, List.not_mem_nil, or_false] at z
      rcases z with rfl
      · exact exm3 (PySem.W.exm_ref sb_ShapeError hd_ShapeError it_ShapeError su_InvalidText_ShapeError) (PySem.W.exm_ref sb_QuestionError hd_QuestionError it_QuestionError su_InvalidText_QuestionError) (PySem.W.exm_ref sb_SizeError hd_SizeError it_SizeError su_InvalidText_SizeError) (by decide)
  have G__law_written := ok__law_written (P := l.prog) (w := w) (base := base) F__law_written Z 
  have c__law_written : CalD l.prog w K mg base (tb K [C_Ratio, C_InvalidText, C_ShapeError, C_QuestionError, C_SizeError, PT]) 1 "_law_written" sp__law_written := ⟨_, _, _, G__law_written, PySem.W.mg_of X G a__law_written, F__law_written.kp, b__law_written⟩
  have G__law_read := ok__law_read (P := l.prog) (w := w) (base := base) F__law_read Z c__law_written c__law_low
  have c__law_read : CalD l.prog w K mg base (tb K [C_Ratio, C_InvalidText, C_ShapeError, C_QuestionError, C_SizeError, PT]) 2 "_law_read" sp__law_read := ⟨_, _, _, G__law_read, PySem.W.mg_of X G a__law_read, F__law_read.kp, b__law_read⟩
  have G__law_right := ok__law_right (P := l.prog) (w := w) (base := base) F__law_right rfl TBh Z m_Ratio_eq c__law_answer sx_Ratio_read c__law_one c__law_read m_Ratio_str c__law_draw sx_Ratio_read_0_text n_Ratio c__law_written c__law_low
  have c__law_right : CalD l.prog w K mg base (tb K [C_Ratio, C_InvalidText, C_ShapeError, C_QuestionError, C_SizeError, PT]) 8 "_law_right" sp__law_right := ⟨_, _, _, G__law_right, PySem.W.mg_of X G a__law_right, F__law_right.kp, b__law_right⟩
  have G_law := ok_law (P := l.prog) (w := w) (base := base) F_law Z c__law_right c__law_bag
  exact G_law
end K02
open PySem PySem.W PyProof.Rows
set_option maxRecDepth 100000 in
set_option maxHeartbeats 0 in
theorem PySem.Challenge.cw_anycreases_k02_texts_of_ratios_holds : PySem.Challenge.rw_anycreases_k02_texts_of_ratios.Holds := by
  w_on; o_law; k_head; (case hw => w_witness2)
  k_fill
  refine DD.walkGT (l := PySem.Challenge.rw_anycreases_k02_texts_of_ratios) (n := 63) (k := 9) (x := "_law_script") rfl (by decide) rfl ⟨rfl, by decide, by decide⟩ (fun w h Y => PySem.W.km_in_of Y) ?F
  case F =>
    intro w mg fa h Y KX G hmg
    have hT8 := PySem.W.km_tabs_of Y
    refine' K02.all_mk KX G hmg ?aC_Ratio ?pg_Ratio ?hd_Ratio ?po_Ratio ?sa_Ratio ?mk_Ratio ?kc_Ratio ?no_Ratio_top ?no_Ratio_bottom ?ha_Ratio ?hn_Ratio ?ht_Ratio ?hm_Ratio ?ne_Ratio ?mi_Ratio ?aC_ShapeError ?sb_ShapeError ?hd_ShapeError ?it_ShapeError ?ic_ShapeError ?aC_QuestionError ?sb_QuestionError ?hd_QuestionError ?it_QuestionError ?ic_QuestionError ?aC_SizeError ?sb_SizeError ?hd_SizeError ?it_SizeError ?ic_SizeError ?aC_InvalidText ?hd_InvalidText ?ga_InvalidText ?gg_InvalidText ?sb_InvalidText ?ha_InvalidText ?hn_InvalidText ?ht_InvalidText ?hm_InvalidText ?sa_InvalidText ?it_InvalidText ?kc_InvalidText ?no_InvalidText_value ?ox_InvalidText ?rv_InvalidText ?su_InvalidText_ShapeError ?nq_ShapeError_InvalidText ?su_InvalidText_QuestionError ?nq_QuestionError_InvalidText ?su_InvalidText_SizeError ?nq_SizeError_InvalidText ?su_InvalidText_ArithmeticError ?su_InvalidText_LookupError ?su_InvalidText_ValueError ?ic_InvalidText ?ic_Ratio ?it_Ratio ?kj_bool_Ratio ?kj_int_Ratio ?kj_str_Ratio ?a_is_integer ?l_is_integer ?c_is_integer ?k_is_integer ?a_are_figures ?l_are_figures ?c_are_figures ?k_are_figures ?a_InvalidText_init ?i_InvalidText_init ?tI_InvalidText_init ?l_InvalidText_init ?c_InvalidText_init ?k_InvalidText_init ?a_text_of ?l_text_of ?c_text_of ?k_text_of ?a_number_of ?l_number_of ?c_number_of ?k_number_of ?a_shared_factor ?l_shared_factor ?c_shared_factor ?k_shared_factor ?a_is_fraction ?l_is_fraction ?c_is_fraction ?k_is_fraction ?a_Ratio_init ?i_Ratio_init ?l_Ratio_init ?d_Ratio_init ?c_Ratio_init ?k_Ratio_init ?a_as_ratio ?l_as_ratio ?c_as_ratio ?k_as_ratio ?a_ratio_in ?l_ratio_in ?c_ratio_in ?k_ratio_in ?a_Ratio_eq ?i_Ratio_eq ?l_Ratio_eq ?c_Ratio_eq ?k_Ratio_eq ?a_Ratio_str ?i_Ratio_str ?l_Ratio_str ?c_Ratio_str ?k_Ratio_str ?at_Ratio_read ?rc_Ratio_read ?rd_Ratio ?gt_Ratio ?l_Ratio_read ?c_Ratio_read ?k_Ratio_read ?a__law_bag ?l__law_bag ?c__law_bag ?k__law_bag ?a__law_draw ?l__law_draw ?c__law_draw ?k__law_draw ?a__law_one ?l__law_one ?c__law_one ?k__law_one ?a__law_low ?l__law_low ?c__law_low ?k__law_low ?a__law_sort ?l__law_sort ?c__law_sort ?k__law_sort ?a__law_answer ?l__law_answer ?c__law_answer ?k__law_answer ?a__law_written ?l__law_written ?c__law_written ?k__law_written ?a__law_read ?l__law_read ?c__law_read ?k__law_read ?a__law_right ?l__law_right ?lc__law_right ?vp__law_right ?ch__law_right ?nk__law_right ?hP__law_right ?c__law_right ?k__law_right ?a_law ?l_law ?c_law ?k_law ?z_c_BLOCK ?z_n_ArithmeticError ?z_n_LookupError ?z_n_ValueError ?z_n_abs ?z_n_all ?z_n_bool ?z_n_int ?z_n_isinstance ?z_n_len ?z_n_max ?z_n_min ?z_n_range ?z_n_repr ?z_n_str
    (case aC_Ratio => k_is); (case pg_Ratio => k_is); (case hd_Ratio => k_is); (case po_Ratio => k_is); (case sa_Ratio => k_is); (case mk_Ratio => k_is)
    (case kc_Ratio => k_is); (case no_Ratio_top => k_is); (case no_Ratio_bottom => k_is); (case ha_Ratio => k_is); (case hn_Ratio => k_is); (case ht_Ratio => k_is)
    (case hm_Ratio => k_is); (case ne_Ratio => k_is); (case mi_Ratio => k_is); (case aC_ShapeError => k_is); (case sb_ShapeError => k_is); (case hd_ShapeError => k_is)
    (case it_ShapeError => k_is); (case ic_ShapeError => k_is); (case aC_QuestionError => k_is); (case sb_QuestionError => k_is); (case hd_QuestionError => k_is); (case it_QuestionError => k_is)
    (case ic_QuestionError => k_is); (case aC_SizeError => k_is); (case sb_SizeError => k_is); (case hd_SizeError => k_is); (case it_SizeError => k_is); (case ic_SizeError => k_is)
    (case aC_InvalidText => k_is); (case hd_InvalidText => k_is); (case ga_InvalidText => k_is); (case gg_InvalidText => k_is); (case sb_InvalidText => k_is); (case ha_InvalidText => k_is)
    (case hn_InvalidText => k_is); (case ht_InvalidText => k_is); (case hm_InvalidText => k_is); (case sa_InvalidText => k_is); (case it_InvalidText => k_is); (case kc_InvalidText => k_is)
    (case no_InvalidText_value => k_is); (case ox_InvalidText => k_is); (case rv_InvalidText => kernel_rfl); (case su_InvalidText_ShapeError => k_is); (case nq_ShapeError_InvalidText => exact rfl); (case su_InvalidText_QuestionError => k_is)
    (case nq_QuestionError_InvalidText => exact rfl); (case su_InvalidText_SizeError => k_is); (case nq_SizeError_InvalidText => exact rfl); (case su_InvalidText_ArithmeticError => k_is); (case su_InvalidText_LookupError => k_is); (case su_InvalidText_ValueError => k_is)
    (case ic_InvalidText => k_is); (case ic_Ratio => k_is); (case it_Ratio => k_is); (case kj_bool_Ratio => k_is); (case kj_int_Ratio => k_is); (case kj_str_Ratio => k_is)
    (case a_is_integer => k_is); (case l_is_integer => k_is); (case c_is_integer => k_is); (case k_is_integer => k_is); (case a_are_figures => k_is); (case l_are_figures => k_is)
    (case c_are_figures => k_is); (case k_are_figures => k_is); (case a_InvalidText_init => k_is); (case i_InvalidText_init => k_is); (case tI_InvalidText_init => k_is); (case l_InvalidText_init => k_is)
    (case c_InvalidText_init => k_is); (case k_InvalidText_init => k_is); (case a_text_of => k_is); (case l_text_of => k_is); (case c_text_of => k_is); (case k_text_of => k_is)
    (case a_number_of => k_is); (case l_number_of => k_is); (case c_number_of => k_is); (case k_number_of => k_is); (case a_shared_factor => k_is); (case l_shared_factor => k_is)
    (case c_shared_factor => k_is); (case k_shared_factor => k_is); (case a_is_fraction => k_is); (case l_is_fraction => k_is); (case c_is_fraction => k_is); (case k_is_fraction => k_is)
    (case a_Ratio_init => k_is); (case i_Ratio_init => k_is); (case l_Ratio_init => k_is); (case d_Ratio_init => k_is); (case c_Ratio_init => k_is); (case k_Ratio_init => k_is)
    (case a_as_ratio => k_is); (case l_as_ratio => k_is); (case c_as_ratio => k_is); (case k_as_ratio => k_is); (case a_ratio_in => k_is); (case l_ratio_in => k_is)
    (case c_ratio_in => k_is); (case k_ratio_in => k_is); (case a_Ratio_eq => k_is); (case i_Ratio_eq => k_is); (case l_Ratio_eq => k_is); (case c_Ratio_eq => k_is)
    (case k_Ratio_eq => k_is); (case a_Ratio_str => k_is); (case i_Ratio_str => k_is); (case l_Ratio_str => k_is); (case c_Ratio_str => k_is); (case k_Ratio_str => k_is)
    (case at_Ratio_read => k_is); (case rc_Ratio_read => k_is); (case rd_Ratio => k_is); (case gt_Ratio => k_is); (case l_Ratio_read => k_is); (case c_Ratio_read => k_is)
    (case k_Ratio_read => k_is); (case a__law_bag => k_is); (case l__law_bag => k_is); (case c__law_bag => k_is); (case k__law_bag => k_is); (case a__law_draw => k_is)
    (case l__law_draw => k_is); (case c__law_draw => k_is); (case k__law_draw => k_is); (case a__law_one => k_is); (case l__law_one => k_is); (case c__law_one => k_is)
    (case k__law_one => k_is); (case a__law_low => k_is); (case l__law_low => k_is); (case c__law_low => k_is); (case k__law_low => k_is); (case a__law_sort => k_is)
    (case l__law_sort => k_is); (case c__law_sort => k_is); (case k__law_sort => k_is); (case a__law_answer => k_is); (case l__law_answer => k_is); (case c__law_answer => k_is)
    (case k__law_answer => k_is); (case a__law_written => k_is); (case l__law_written => k_is); (case c__law_written => k_is); (case k__law_written => k_is); (case a__law_read => k_is)
    (case l__law_read => k_is); (case c__law_read => k_is); (case k__law_read => k_is); (case a__law_right => k_is); (case l__law_right => k_is); (case lc__law_right => k_is)
    (case vp__law_right => exact rfl); (case ch__law_right => kernel_rfl); (case nk__law_right => kernel_rfl); (case hP__law_right => exact hT8 _ (by k_mem)); (case c__law_right => k_is); (case k__law_right => k_is)
    (case a_law => k_is); (case l_law => k_is); (case c_law => k_is); (case k_law => k_is); (case z_c_BLOCK => k_is); (case z_n_ArithmeticError => k_is)
    (case z_n_LookupError => k_is); (case z_n_ValueError => k_is); (case z_n_abs => k_is); (case z_n_all => k_is); (case z_n_bool => k_is); (case z_n_int => k_is)
    (case z_n_isinstance => k_is); (case z_n_len => k_is); (case z_n_max => k_is); (case z_n_min => k_is); (case z_n_range => k_is); (case z_n_repr => k_is)
    (case z_n_str => k_is)
