import PyProof.Rows.All
import Wide.All
import OpenK.AllK
import Wide.FinOn
import PySem.Challenge.RW_campsapart_k00_sizes_pages_edits_made
import HandS.ForMost
import HandS.ForExc
import HandS.TupAny
import HandS.TupMul
import HandS.Deep
import HandS.Wide
import HandS.IsInst
import HandS.Style
import HandS.Small
import HandS.Lambda
import HandS.AnyAll
import HandS.ExcCtx
import HandS.HotCalls
import HandS.ExcInit
import HandS.ExcIs
import HandS.ExcField
import KE.KExcSuper
import KE.KDictPairs
import HandS.SortInts
import HandS.More
import KE.GoesEnum
import PyProof.WalksPairs
import PyProof.GenCompD
set_option Elab.async false
set_option linter.all false
set_option maxRecDepth 100000
set_option maxHeartbeats 4000000
set_option autoImplicit false
namespace Mv
open PySem PySem.Spec L2
open PyProof.Rows hiding St

abbrev D := PyData
/-- a slot: nothing, or a value and whether the slot alone holds it (a list or dict that may be changed) -/
abbrev Sl := Option (D × Bool)
abbrev En := List Sl
inductive Op where
  | val (d : D) (own : Bool)
  | ref (i : Nat)
inductive ER where
  | ok (o : Op) (ρ : En)
  | ex (c : Nat) (p : D) (ρ : En)
  | bad

def kD : Key → D
  | .inl i => .int i
  | .inr x => .str x
def ktD (ks : List Key) : D := .tuple (ks.map kD)

/-- a list of the written part -/
def WrL (K : PySem.W.Frag) (a : Addr) (xs : List V) : Prop :=
  ∃ (its : Array Value) (n : Nat), K.lookup a = some { cls := .type "list", data := .seq its n } ∧ its.size ≤ sizeLine ∧ Vals xs its.toList
/-- a tuple's object, exactly -/
def tupO (us : List Value) : Obj := { cls := .type "tuple", data := .seq us.toArray }
def TupX (H : Hp) (a : Addr) (xs : List V) : Prop := ∃ us : List Value, H a = some (.frz (tupO us) (.tup xs))
theorem TupX.sq {K : PySem.W.Frag} {H : Hp} {a : Addr} {xs : List V} (h : TupX H a xs) : SqT K H a xs := let ⟨_, e⟩ := h; .inl (.inr ⟨_, e⟩)
mutual
/-- shared data: its lists and dicts stand at addresses of Z and are never changed -/
inductive Sh (K : PySem.W.Frag) (Z : Addr → Prop) (H : Hp) : V → D → Prop
  | non : Sh K Z H .non .none
  | bl (b : Bool) : Sh K Z H (.bl b) (.bool b)
  | int (i : Int) : Sh K Z H (.int i) (.int i)
  | str (x : Str) : Sh K Z H (.str x) (.str x)
  | lst {a : Addr} {xs : List V} {ds : List D} : Z a → Rd H a (.lst xs) → xs.length ≤ sizeLine → ShL K Z H xs ds → Sh K Z H (.ref a) (.list ds)
  | lsk {a : Addr} {xs : List V} {ds : List D} : WrL K a xs → xs.length ≤ sizeLine → ShL K Z H xs ds → Sh K Z H (.ref a) (.list ds)
  | tup {a : Addr} {xs : List V} {ds : List D} : TupX H a xs → xs.length ≤ sizeLine → ShL K Z H xs ds → Sh K Z H (.ref a) (.tuple ds)
  | dK {a : Addr} {kvs : List (Key × V)} {es : List (D × D)} : Z a → H a = some (.dK kvs) → ShK K Z H kvs es → Sh K Z H (.ref a) (.dict es)
  | dT {a : Addr} {kvs : List (List Key × V)} {es : List (D × D)} : Z a → H a = some (.dT kvs) → ShT K Z H kvs es → Sh K Z H (.ref a) (.dict ((.none, .none) :: es))
inductive ShL (K : PySem.W.Frag) (Z : Addr → Prop) (H : Hp) : List V → List D → Prop
  | nil : ShL K Z H [] []
  | cons {v : V} {vs : List V} {d : D} {ds : List D} : Sh K Z H v d → ShL K Z H vs ds → ShL K Z H (v :: vs) (d :: ds)
inductive ShK (K : PySem.W.Frag) (Z : Addr → Prop) (H : Hp) : List (Key × V) → List (D × D) → Prop
  | nil : ShK K Z H [] []
  | cons {k : Key} {v : V} {kvs : List (Key × V)} {d : D} {es : List (D × D)} : Sh K Z H v d → ShK K Z H kvs es → ShK K Z H ((k, v) :: kvs) ((kD k, d) :: es)
inductive ShT (K : PySem.W.Frag) (Z : Addr → Prop) (H : Hp) : List (List Key × V) → List (D × D) → Prop
  | nil : ShT K Z H [] []
  | cons {k : List Key} {v : V} {kvs : List (List Key × V)} {d : D} {es : List (D × D)} : Sh K Z H v d → ShT K Z H kvs es → ShT K Z H ((k, v) :: kvs) ((ktD k, d) :: es)
end
/-- a table (of lambdas of the name q) -/
def TabO (H : Hp) (P : Addr) : Option Str → Prop
  | none => GxR.TabG H P
  | some q => LamX.TabS H P q
class TabC where
  T : Addr → Option Str → Prop
def TbOk [TabC] (H : Hp) : Prop := ∀ P q, TabC.T P q → TabO H P q
theorem TabO.ext {H H' : Hp} {P : Addr} {q : Option Str} (t : TabO H P q) (e : ∀ b o, H b = some o → ((∃ ps, o = .tbl ps) ∨ ∃ φ, o = .ext φ) → H' b = some o) : TabO H' P q := by
  cases q with
  | none =>
    obtain ⟨ps, h1, h2⟩ := t
    exact ⟨ps, e _ _ h1 (.inl ⟨_, rfl⟩), h2⟩
  | some q =>
    obtain ⟨ps, h1, h2, h3⟩ := t
    refine ⟨ps, e _ _ h1 (.inl ⟨_, rfl⟩), h2, fun pos cv hc => ?_⟩
    obtain ⟨c, e1, e2⟩ := h3 pos cv hc
    exact ⟨c, e1, e _ _ e2 (.inr ⟨_, rfl⟩)⟩
theorem TbOk.grow [TabC] {H H' : Hp} (t : TbOk H) (g : ∀ a o, H a = some o → H' a = some o) : TbOk H' := fun P q h => (t P q h).ext fun b o e _ => g b o e
theorem TbOk.upd [TabC] {H : Hp} {a : Addr} {o ob : HO} (t : TbOk H) (h : H a = some o) (n1 : ∀ ps, o ≠ .tbl ps) (n2 : ∀ φ, o ≠ .ext φ) : TbOk (upd H a ob) := fun P q hq => (t P q hq).ext fun b u e k => by
  rw [upd_ne (fun z => ?_)]
  · exact e
  · rw [z, h] at e
    cases e
    rcases k with ⟨ps, k⟩ | ⟨φ, k⟩
    · exact n1 ps k
    · exact n2 φ k
/-- what shared data leans on is kept -/
structure Ext [TabC] (Z : Addr → Prop) (H : Hp) (Z' : Addr → Prop) (H' : Hp) : Prop where
  zz : ∀ a, Z a → Z' a
  kz : ∀ a o, Z a → H a = some o → H' a = some o
  kt : ∀ a xs, H a = some (.tup xs) → H' a = some (.tup xs)
  kf : ∀ a o u, H a = some (.frz o u) → H' a = some (.frz o u)
  kb : TbOk H → TbOk H'
  ke : ∀ a φ, H a = some (.ext φ) → H' a = some (.ext φ)
/-- what else a context knows; it leans on the slots fix alone -/
class Glo extends TabC where
  F : L2.St → Hp → (Addr → Prop) → Prop
  fix : List Nat
  up : ∀ {σ : L2.St} {Z : Addr → Prop} {H : Hp} {Z' : Addr → Prop} {H' : Hp}, F σ H Z → Ext Z H Z' H' → F σ H' Z'
  sl : ∀ {σ σ' : L2.St} {Z : Addr → Prop} {H : Hp}, F σ H Z → (∀ i ∈ fix, σ'[i]? = σ[i]?) → F σ' H Z
/-- nothing more -/
abbrev TabC.bare (t : TabC) : Glo := { t with F := fun _ _ _ => True, fix := [], up := fun _ _ => trivial, sl := fun _ _ => trivial }
section
variable [G : Glo]
variable {K : PySem.W.Frag} {Z Z' Z2 : Addr → Prop} {H H' H2 : Hp}
theorem Ext.refl : Ext Z H Z H := ⟨fun _ h => h, fun _ _ _ h => h, fun _ _ h => h, fun _ _ _ h => h, id, fun _ _ h => h⟩
theorem Ext.sqT {a : Addr} {xs : List V} (e : Ext Z H Z' H') (h : SqT K H a xs) : SqT K H' a xs := by
  rcases h with (h | ⟨o, h⟩) | h
  · exact .inl (.inl (e.kt _ _ h))
  · exact .inl (.inr ⟨o, e.kf _ _ _ h⟩)
  · exact .inr h
theorem Ext.rd {a : Addr} {xs : List V} (e : Ext Z H Z' H') (z : Z a) (h : Rd H a (.lst xs)) : Rd H' a (.lst xs) := by
  rcases h with h | ⟨o, h⟩
  · exact .inl (e.kz _ _ z h)
  · exact .inr ⟨o, e.kf _ _ _ h⟩
mutual
theorem Sh.ext (e : Ext Z H Z' H') : ∀ {v : V} {d : D}, Sh K Z H v d → Sh K Z' H' v d
  | _, _, .non => .non
  | _, _, .bl b => .bl b
  | _, _, .int i => .int i
  | _, _, .str x => .str x
  | _, _, .lst z r n l => .lst (e.zz _ z) (e.rd z r) n (l.ext e)
  | _, _, .lsk w n l => .lsk w n (l.ext e)
  | _, _, .tup t n l => .tup (t.imp fun _ q => e.kf _ _ _ q) n (l.ext e)
  | _, _, .dK z r l => .dK (e.zz _ z) (e.kz _ _ z r) (l.ext e)
  | _, _, .dT z r l => .dT (e.zz _ z) (e.kz _ _ z r) (l.ext e)
theorem ShL.ext (e : Ext Z H Z' H') : ∀ {v : List V} {d : List D}, ShL K Z H v d → ShL K Z' H' v d
  | _, _, .nil => .nil
  | _, _, .cons x l => .cons (x.ext e) (l.ext e)
theorem ShK.ext (e : Ext Z H Z' H') : ∀ {v : List (Key × V)} {d : List (D × D)}, ShK K Z H v d → ShK K Z' H' v d
  | _, _, .nil => .nil
  | _, _, .cons x l => .cons (x.ext e) (l.ext e)
theorem ShT.ext (e : Ext Z H Z' H') : ∀ {v : List (List Key × V)} {d : List (D × D)}, ShT K Z H v d → ShT K Z' H' v d
  | _, _, .nil => .nil
  | _, _, .cons x l => .cons (x.ext e) (l.ext e)
end
theorem ShL.length : ∀ {v : List V} {d : List D}, ShL K Z H v d → v.length = d.length
  | _, _, .nil => rfl
  | _, _, .cons _ l => by rw [List.length_cons, List.length_cons, l.length]
theorem ShL.get : ∀ {vs : List V} {ds : List D} {i : Nat} {d : D}, ShL K Z H vs ds → ds[i]? = some d → ∃ v, vs[i]? = some v ∧ Sh K Z H v d
  | _, _, _, _, .nil, e => by simp at e
  | _, _, 0, _, .cons r _, e => by simp at e; subst e; exact ⟨_, rfl, r⟩
  | _, _, i + 1, d, .cons _ t, e => by
    obtain ⟨u, h1, h2⟩ := ShL.get (i := i) (d := d) t (by simpa using e)
    exact ⟨u, by simpa using h1, h2⟩
theorem ShL.getV : ∀ {vs : List V} {ds : List D} {i : Nat} {v : V}, ShL K Z H vs ds → vs[i]? = some v → ∃ d, ds[i]? = some d ∧ Sh K Z H v d
  | _, _, _, _, .nil, e => by simp at e
  | _, _, 0, _, .cons r _, e => by simp at e; subst e; exact ⟨_, rfl, r⟩
  | _, _, i + 1, d, .cons _ t, e => by
    obtain ⟨u, h1, h2⟩ := ShL.getV (i := i) (v := d) t (by simpa using e)
    exact ⟨u, by simpa using h1, h2⟩
theorem ShL.append : ∀ {vs ws : List V} {ds es : List D}, ShL K Z H vs ds → ShL K Z H ws es → ShL K Z H (vs ++ ws) (ds ++ es)
  | _, _, _, _, .nil, s => s
  | _, _, _, _, .cons r t, s => .cons r (ShL.append t s)
theorem ShL.set {v : V} {d : D} (r : Sh K Z H v d) : ∀ {vs : List V} {ds : List D} (i : Nat), ShL K Z H vs ds → ShL K Z H (vs.set i v) (ds.set i d)
  | _, _, _, .nil => .nil
  | _, _, 0, .cons _ t => .cons r t
  | _, _, i + 1, .cons q t => .cons q (ShL.set r i t)
theorem ShL.take : ∀ {vs : List V} {ds : List D} (n : Nat), ShL K Z H vs ds → ShL K Z H (vs.take n) (ds.take n)
  | _, _, 0, _ => .nil
  | _, _, _ + 1, .nil => .nil
  | _, _, n + 1, .cons r t => .cons r (ShL.take n t)
theorem ShL.drop : ∀ {vs : List V} {ds : List D} (n : Nat), ShL K Z H vs ds → ShL K Z H (vs.drop n) (ds.drop n)
  | _, _, 0, r => r
  | _, _, _ + 1, .nil => .nil
  | _, _, n + 1, .cons _ t => ShL.drop n t
theorem ShL.eraseIdx : ∀ {vs : List V} {ds : List D} (n : Nat), ShL K Z H vs ds → ShL K Z H (vs.eraseIdx n) (ds.eraseIdx n)
  | _, _, _, .nil => .nil
  | _, _, 0, .cons _ t => t
  | _, _, n + 1, .cons r t => .cons r (ShL.eraseIdx n t)
theorem ShL.one {v : V} {d : D} (h : Sh K Z H v d) : ShL K Z H [v] [d] := .cons h .nil
end

/-- a slot's own list or dict -/
def Ow (K : PySem.W.Frag) (Z : Addr → Prop) (H : Hp) (v : V) (d : D) : Prop :=
  ∃ a, v = .ref a ∧ ¬ Z a ∧ ((∃ vs ds, d = .list ds ∧ H a = some (.lst vs) ∧ vs.length ≤ sizeLine ∧ ShL K Z H vs ds) ∨
    (∃ kvs es, d = .dict es ∧ H a = some (.dK kvs) ∧ ShK K Z H kvs es) ∨ (∃ kvs es, d = .dict ((.none, .none) :: es) ∧ H a = some (.dT kvs) ∧ ShT K Z H kvs es))
def Has (K : PySem.W.Frag) (Z : Addr → Prop) (H : Hp) (v : V) (d : D) (own : Bool) : Prop := if own = true then Ow K Z H v d else Sh K Z H v d
/-- the addresses that slots own -/
def Own (ρ : En) (σ : St) (a : Addr) : Prop := ∃ (i : Nat) (d : D), ρ[i]? = some (some (d, true)) ∧ σ[i]? = some (some (V.ref a))
structure Ge [G : Glo] (σ : L2.St) (H : Hp) (Z : Addr → Prop) : Prop where
  tb : TbOk H
  f : G.F σ H Z
theorem Ge.ext [G : Glo] {σ : L2.St} {H H' : Hp} {Z Z' : Addr → Prop} (g : Ge σ H Z) (x : Ext Z H Z' H') : Ge σ H' Z' := ⟨x.kb g.tb, G.up g.f x⟩
theorem Ge.sl [G : Glo] {σ σ' : L2.St} {H : Hp} {Z : Addr → Prop} (g : Ge σ H Z) (x : ∀ i ∈ G.fix, σ'[i]? = σ[i]?) : Ge σ' H Z := ⟨g.tb, G.sl g.f x⟩
structure Rel [G : Glo] (K : PySem.W.Frag) (ρ : En) (σ : St) (H : Hp) (Z : Addr → Prop) : Prop where
  ge : Ge σ H Z
  len : ρ.length = σ.length
  zt : ∀ a, Z a → ∃ o, H a = some o ∧ ∀ ps, o ≠ .tbl ps
  has : ∀ (i : Nat) (d : D) (own : Bool), ρ[i]? = some (some (d, own)) → ∃ v, σ[i]? = some (some v) ∧ Has K Z H v d own
  sep : ∀ (i j : Nat) (d e : D) (a : Addr), ρ[i]? = some (some (d, true)) → ρ[j]? = some (some (e, true)) → σ[i]? = some (some (V.ref a)) → σ[j]? = some (some (V.ref a)) → i = j
/-- what a run may change -/
structure Aft [G : Glo] (K : PySem.W.Frag) (ρ : En) (σ : St) (H : Hp) (Z : Addr → Prop) (ρ' : En) (σ' : St) (H' : Hp) (Z' : Addr → Prop) : Prop where
  rel : Rel K ρ' σ' H' Z'
  zz : ∀ a, Z a → Z' a
  keep : ∀ a o, H a = some o → (∀ ps, o ≠ .tbl ps) → ¬ Own ρ σ a → H' a = some o
  tk : ∀ a ps, H a = some (.tbl ps) → ∃ ps', H' a = some (.tbl ps')
  zn : ∀ a, Z' a → Z a ∨ Own ρ σ a ∨ H a = none
  on : ∀ a, Own ρ' σ' a → Own ρ σ a ∨ H a = none

/-- the same without what a context knows -/
structure RelF (K : PySem.W.Frag) (ρ : En) (σ : St) (H : Hp) (Z : Addr → Prop) : Prop where
  len : ρ.length = σ.length
  zt : ∀ a, Z a → ∃ o, H a = some o ∧ ∀ ps, o ≠ .tbl ps
  has : ∀ (i : Nat) (d : D) (own : Bool), ρ[i]? = some (some (d, own)) → ∃ v, σ[i]? = some (some v) ∧ Has K Z H v d own
  sep : ∀ (i j : Nat) (d e : D) (a : Addr), ρ[i]? = some (some (d, true)) → ρ[j]? = some (some (e, true)) → σ[i]? = some (some (V.ref a)) → σ[j]? = some (some (V.ref a)) → i = j
structure AftF (K : PySem.W.Frag) (ρ : En) (σ : St) (H : Hp) (Z : Addr → Prop) (ρ' : En) (σ' : St) (H' : Hp) (Z' : Addr → Prop) : Prop where
  rel : RelF K ρ' σ' H' Z'
  zz : ∀ a, Z a → Z' a
  keep : ∀ a o, H a = some o → (∀ ps, o ≠ .tbl ps) → ¬ Own ρ σ a → H' a = some o
  tk : ∀ a ps, H a = some (.tbl ps) → ∃ ps', H' a = some (.tbl ps')
  zn : ∀ a, Z' a → Z a ∨ Own ρ σ a ∨ H a = none
  on : ∀ a, Own ρ' σ' a → Own ρ σ a ∨ H a = none
section
variable [G : Glo]
variable {K : PySem.W.Frag} {Z Z' Z1 Z2 : Addr → Prop} {H H' H1 H2 : Hp} {ρ ρ' ρ1 ρ2 : En} {σ σ' σ1 σ2 : St}
theorem Ow.at {a : Addr} {d : D} (h : Ow K Z H (.ref a) d) : ¬ Z a ∧ ∃ o, H a = some o ∧ (∀ xs, o ≠ .tup xs) ∧ (∀ ob u, o ≠ .frz ob u) ∧ (∀ ps, o ≠ .tbl ps) ∧ ∀ φ, o ≠ .ext φ := by
  obtain ⟨b, e, z, h⟩ := h
  cases e
  refine ⟨z, ?_⟩
  rcases h with ⟨vs, ds, _, h, _, _⟩ | ⟨kvs, es, _, h, _⟩ | ⟨kvs, es, _, h, _⟩ <;> exact ⟨_, h, (fun _ q => nomatch q), (fun _ _ q => nomatch q), (fun _ q => nomatch q), fun _ q => nomatch q⟩
theorem Rel.own (R : Rel K ρ σ H Z) {a : Addr} (h : Own ρ σ a) : ¬ Z a ∧ ∃ o, H a = some o ∧ (∀ xs, o ≠ .tup xs) ∧ (∀ ob u, o ≠ .frz ob u) ∧ (∀ ps, o ≠ .tbl ps) ∧ ∀ φ, o ≠ .ext φ := by
  obtain ⟨i, d, h1, h2⟩ := h
  obtain ⟨v, h3, h4⟩ := R.has i d true h1
  rw [h2] at h3
  cases h3
  exact Ow.at h4
theorem Aft.ext (R : Rel K ρ σ H Z) (A : Aft K ρ σ H Z ρ' σ' H' Z') : Ext Z H Z' H' where
  zz := A.zz
  kz := fun a o z h => A.keep a o h (by
    obtain ⟨u, e, n⟩ := R.zt a z
    rw [h] at e; cases e
    exact n) fun q => (R.own q).1 z
  kt := fun a xs h => A.keep a _ h (fun _ z => nomatch z) fun q => by
    obtain ⟨_, o, e, n, _⟩ := R.own q
    rw [h] at e
    cases e
    exact n xs rfl
  kf := fun a ob u h => A.keep a _ h (fun _ z => nomatch z) fun q => by
    obtain ⟨_, o, e, _, n, _⟩ := R.own q
    rw [h] at e
    cases e
    exact n ob u rfl
  kb := fun _ => A.rel.ge.tb
  ke := fun a φ h => A.keep a _ h (fun _ z => nomatch z) fun q => by
    obtain ⟨_, o, e, _, _, _, n⟩ := R.own q
    rw [h] at e
    cases e
    exact n φ rfl
theorem Rel.f (R : Rel K ρ σ H Z) : RelF K ρ σ H Z := ⟨R.len, R.zt, R.has, R.sep⟩
theorem Aft.f (A : Aft K ρ σ H Z ρ' σ' H' Z') : AftF K ρ σ H Z ρ' σ' H' Z' := ⟨A.rel.f, A.zz, A.keep, A.tk, A.zn, A.on⟩
theorem RelF.own (R : RelF K ρ σ H Z) {a : Addr} (h : Own ρ σ a) : ¬ Z a ∧ ∃ o, H a = some o ∧ (∀ xs, o ≠ .tup xs) ∧ (∀ ob u, o ≠ .frz ob u) ∧ (∀ ps, o ≠ .tbl ps) ∧ ∀ φ, o ≠ .ext φ := by
  obtain ⟨i, d, h1, h2⟩ := h
  obtain ⟨v, h3, h4⟩ := R.has i d true h1
  rw [h2] at h3
  cases h3
  exact Ow.at h4
theorem AftF.ext (R : RelF K ρ σ H Z) (A : AftF K ρ σ H Z ρ' σ' H' Z') (tb : TbOk H') : Ext Z H Z' H' where
  zz := A.zz
  kz := fun a o z h => A.keep a o h (by
    obtain ⟨u, e, n⟩ := R.zt a z
    rw [h] at e; cases e
    exact n) fun q => (R.own q).1 z
  kt := fun a xs h => A.keep a _ h (fun _ z => nomatch z) fun q => by
    obtain ⟨_, o, e, n, _⟩ := R.own q
    rw [h] at e
    cases e
    exact n xs rfl
  kf := fun a ob u h => A.keep a _ h (fun _ z => nomatch z) fun q => by
    obtain ⟨_, o, e, _, n, _⟩ := R.own q
    rw [h] at e
    cases e
    exact n ob u rfl
  kb := fun _ => tb
  ke := fun a φ h => A.keep a _ h (fun _ z => nomatch z) fun q => by
    obtain ⟨_, o, e, _, _, _, n⟩ := R.own q
    rw [h] at e
    cases e
    exact n φ rfl
theorem Aft.refl (R : Rel K ρ σ H Z) : Aft K ρ σ H Z ρ σ H Z := ⟨R, fun _ h => h, fun _ _ h _ _ => h, fun _ ps h => ⟨ps, h⟩, fun _ h => .inl h, fun _ h => .inl h⟩
theorem Aft.new (A : Aft K ρ σ H Z ρ1 σ1 H1 Z1) {a : Addr} (h : H1 a = none) : Own ρ σ a ∨ H a = none := by
  cases e : H a with
  | none => exact .inr rfl
  | some o =>
    by_cases ht : ∃ ps, o = .tbl ps
    · obtain ⟨ps, rfl⟩ := ht
      obtain ⟨ps', z⟩ := A.tk a ps e
      rw [h] at z; cases z
    · refine .inl (Classical.byContradiction fun n => ?_)
      rw [A.keep a o e (fun ps z => ht ⟨ps, z⟩) n] at h
      cases h
theorem Aft.trans (A : Aft K ρ σ H Z ρ1 σ1 H1 Z1) (B : Aft K ρ1 σ1 H1 Z1 ρ2 σ2 H2 Z2) : Aft K ρ σ H Z ρ2 σ2 H2 Z2 where
  rel := B.rel
  zz := fun a h => B.zz a (A.zz a h)
  keep := fun a o h t n => B.keep a o (A.keep a o h t n) t fun q => by
    rcases A.on a q with q | q
    · exact n q
    · rw [h] at q
      cases q
  tk := fun a ps h => by
    obtain ⟨p1, e1⟩ := A.tk a ps h
    exact B.tk a p1 e1
  zn := fun a h => by
    rcases B.zn a h with h | h | h
    · exact A.zn a h
    · exact .inr (A.on a h)
    · exact .inr (A.new h)
  on := fun a h => by
    rcases B.on a h with h | h
    · exact A.on a h
    · exact A.new h
end
section
variable {K : PySem.W.Frag} {Z Z' : Addr → Prop} {H H' : Hp} {ρ ρ' : En} {σ σ' : St}
theorem rel_bare (t : TabC) (F : RelF K ρ σ H Z) (tb : @TbOk t H) : @Rel t.bare K ρ σ H Z :=
  letI := t.bare
  ⟨⟨tb, trivial⟩, F.len, F.zt, F.has, F.sep⟩
theorem aft_bare (t : TabC) (A : @Aft t.bare K ρ σ H Z ρ' σ' H' Z') : AftF K ρ σ H Z ρ' σ' H' Z' ∧ @TbOk t H' :=
  letI := t.bare
  ⟨A.f, A.rel.ge.tb⟩
end
end Mv
namespace Mv
open PySem PySem.Spec L2
open PyProof.Rows hiding St

inductive Rs (α : Type) where
  | ok (x : α) (ρ : En)
  | ex (c : Nat) (p : D) (ρ : En)
  | bad
def Rs.bind {α β : Type} (r : Rs α) (f : α → En → Rs β) : Rs β := match r with
  | .ok x ρ => f x ρ
  | .ex c p ρ => .ex c p ρ
  | .bad => .bad
def deref (ρ : En) : Op → Option (D × Bool)
  | .val d b => some (d, b)
  | .ref i => ρ[i]?.join
/-- what is known of the classes of errors -/
abbrev Cl := Nat → Addr
/-- an exception of class c that bears p -/
def XAt (K : PySem.W.Frag) (cl : Cl) (Z : Addr → Prop) (H : Hp) (c : Nat) (p : D) (cls : Value) (dx : Option Addr) : Prop :=
  cls = .ref (cl c) ∧ ∃ d v, dx = some d ∧ Z d ∧ H d = some (.xd [("what", v)]) ∧ Sh K Z H v p
def Val (K : PySem.W.Frag) (ρ : En) (σ : L2.St) (H : Hp) (ρ' : En) (σ' : L2.St) (H' : Hp) (Z' : Addr → Prop) (v : V) : Op → Prop
  | .val d own => Has K Z' H' v d own ∧ (own = true → ∀ a, v = .ref a → ¬ Own ρ' σ' a ∧ (Own ρ σ a ∨ H a = none))
  | .ref i => σ'[i]? = some (some v)
abbrev Zt := Addr → Prop
section
variable [G : Glo]
variable {α : Type} (K : PySem.W.Frag) (cl : Cl) (W : WX) (ρ : En) (σ : L2.St) (H : Hp) (Z : Zt)
def Post (r : Rs α) (k : α → En → Hp → Zt → Prop) : Prop := match r with
  | .ok x ρ' => ∀ H' Z', Aft K ρ σ H Z ρ' σ H' Z' → k x ρ' H' Z'
  | .ex c p ρ' => ∀ H' Z' cls dx, Aft K ρ σ H Z ρ' σ H' Z' → XAt K cl Z' H' c p cls dx → W cls dx σ H'
  | .bad => False
def kE (Q : VK) : Op → En → Hp → Zt → Prop := fun o ρ' H' Z' => ∀ v, Val K ρ σ H ρ' σ H' Z' v o → Q v H'
def kT (Q : Bool → Hp → Prop) : Bool → En → Hp → Zt → Prop := fun b _ H' _ => Q b H'
end
abbrev ME := En → Rs Op
abbrev MT := En → Rs Bool
def TDE [G : Glo] (K : PySem.W.Frag) (cl : Cl) (W : WX) (m : ME) : TE := fun σ H Q => ∃ ρ Z, Rel K ρ σ H Z ∧ Post K cl W ρ σ H Z (m ρ) (kE K ρ σ H Q)
def TDT [G : Glo] (K : PySem.W.Frag) (cl : Cl) (W : WX) (m : MT) : TT := fun σ H Q => ∃ ρ Z, Rel K ρ σ H Z ∧ Post K cl W ρ σ H Z (m ρ) (kT Q)

section
variable [G : Glo]
variable {K : PySem.W.Frag} {cl : Cl} {W : WX} {Z Z' Z0 Z1 Z2 : Zt} {H H' H0 H1 H2 : Hp} {ρ ρ' ρ0 ρ1 ρ2 : En} {σ σ' : L2.St} {v w : V} {d e : D} {own : Bool} {o : Op}
theorem Has.ext (A : Ext Z H Z' H') (h : Has K Z H v d false) : Has K Z' H' v d false := by
  have h' : Sh K Z H v d := h
  exact (h'.ext A : Sh K Z' H' v d)
/-- an owned thing that nobody touched -/
theorem Ow.stay (A : Ext Z H Z' H') (h : Ow K Z H v d) (hk : ∀ a o, v = .ref a → H a = some o → (∀ ps, o ≠ .tbl ps) → H' a = some o) (hz : ∀ a, v = .ref a → ¬ Z' a) : Ow K Z' H' v d := by
  obtain ⟨a, e, z, h⟩ := h
  refine ⟨a, e, hz a e, ?_⟩
  rcases h with ⟨vs, ds, e1, h, hz, l⟩ | ⟨kvs, es, e1, h, l⟩ | ⟨kvs, es, e1, h, l⟩
  · exact .inl ⟨vs, ds, e1, hk a _ e h (fun _ q => nomatch q), hz, l.ext A⟩
  · exact .inr (.inl ⟨kvs, es, e1, hk a _ e h (fun _ q => nomatch q), l.ext A⟩)
  · exact .inr (.inr ⟨kvs, es, e1, hk a _ e h (fun _ q => nomatch q), l.ext A⟩)
theorem Ow.ref (h : Ow K Z H v d) : ∃ a o, v = .ref a ∧ ¬ Z a ∧ H a = some o := by
  obtain ⟨a, e, z, h⟩ := h
  rcases h with ⟨vs, ds, e1, h, hz, l⟩ | ⟨kvs, es, e1, h, l⟩ | ⟨kvs, es, e1, h, l⟩ <;> exact ⟨a, _, e, z, h⟩
theorem Val.keep {σ1 σ2 : L2.St} (R : Rel K ρ1 σ1 H1 Z1) (hv : Val K ρ σ H ρ1 σ1 H1 Z1 v o) (A : Aft K ρ1 σ1 H1 Z1 ρ2 σ2 H2 Z2) (hσ : σ2 = σ1 := by rfl) : Val K ρ σ H ρ2 σ2 H2 Z2 v o := by
  subst hσ
  cases o with
  | ref i => exact hv
  | val d own =>
    obtain ⟨h, hf⟩ := hv
    cases own with
    | false => exact ⟨Has.ext (A.ext R) h, fun e => nomatch e⟩
    | true =>
      have h' : Ow K Z1 H1 v d := h
      obtain ⟨a, o, ea, nz, ha⟩ := h'.ref
      have nO : ¬ Own ρ1 σ2 a := (hf rfl a ea).1
      refine ⟨(Ow.stay (A.ext R) h' (fun b u e q t => ?_) (fun b e q => ?_) : Ow K Z2 H2 v d), fun _ b e => ?_⟩
      · rw [ea] at e; cases e
        exact A.keep _ _ q t nO
      · rw [ea] at e; cases e
        rcases A.zn _ q with z | z | z
        · exact nz z
        · exact nO z
        · rw [ha] at z; cases z
      · rw [ea] at e; cases e
        refine ⟨fun q => ?_, (hf rfl a ea).2⟩
        rcases A.on _ q with z | z
        · exact nO z
        · rw [ha] at z; cases z
theorem Val.deref {σ1 : L2.St} {own : Bool} (R : Rel K ρ1 σ1 H1 Z1) (hv : Val K ρ σ H ρ1 σ1 H1 Z1 v o) (h : deref ρ1 o = some (d, own)) : Has K Z1 H1 v d own := by
  cases o with
  | val d' own' =>
    cases h
    exact hv.1
  | ref i =>
    have h' : ρ1[i]? = some (some (d, own)) := by
      have q : ρ1[i]?.join = some (d, own) := h
      cases e : ρ1[i]? with
      | none => rw [e] at q; cases q
      | some x => rw [e] at q; rw [show x = some (d, own) from q]
    obtain ⟨u, h1, h2⟩ := R.has i d own h'
    have h3 : σ1[i]? = some (some v) := hv
    rw [h1] at h3; cases h3
    exact h2
/-- a later start wants less -/
theorem Val.base {σ0 : L2.St} (A : Aft K ρ0 σ0 H0 Z0 ρ σ H Z) (hv : Val K ρ σ H ρ' σ' H' Z' v o) : Val K ρ0 σ0 H0 ρ' σ' H' Z' v o := by
  cases o with
  | ref i => exact hv
  | val d own =>
    refine ⟨hv.1, fun e a q => ⟨(hv.2 e a q).1, ?_⟩⟩
    rcases (hv.2 e a q).2 with z | z
    · exact A.on a z
    · exact A.new z
theorem tde_bind {α : Type} {m : ME} {f : Op → En → Rs α} {k : α → En → Hp → Zt → Prop} (A : Aft K ρ0 σ H0 Z0 ρ σ H Z) (h : Post K cl W ρ0 σ H0 Z0 ((m ρ).bind f) k) :
    TDE K cl W m σ H (fun v H' => ∃ o ρ' Z', Aft K ρ0 σ H0 Z0 ρ' σ H' Z' ∧ Aft K ρ σ H Z ρ' σ H' Z' ∧ Val K ρ0 σ H0 ρ' σ H' Z' v o ∧ Post K cl W ρ0 σ H0 Z0 (f o ρ') k) := by
  refine ⟨ρ, Z, A.rel, ?_⟩
  cases e : m ρ with
  | bad => rw [e] at h; exact h
  | ex c p ρ' =>
    rw [e] at h
    exact fun H' Z' cls dx B x => h H' Z' cls dx (A.trans B) x
  | ok o ρ' =>
    rw [e] at h
    exact fun H' Z' B v hv => ⟨o, ρ', Z', A.trans B, B, hv.base A, h⟩
theorem tdt_bind {α : Type} {m : MT} {f : Bool → En → Rs α} {k : α → En → Hp → Zt → Prop} (A : Aft K ρ0 σ H0 Z0 ρ σ H Z) (h : Post K cl W ρ0 σ H0 Z0 ((m ρ).bind f) k) :
    TDT K cl W m σ H (fun b H' => ∃ ρ' Z', Aft K ρ0 σ H0 Z0 ρ' σ H' Z' ∧ Aft K ρ σ H Z ρ' σ H' Z' ∧ Post K cl W ρ0 σ H0 Z0 (f b ρ') k) := by
  refine ⟨ρ, Z, A.rel, ?_⟩
  cases e : m ρ with
  | bad => rw [e] at h; exact h
  | ex c p ρ' =>
    rw [e] at h
    exact fun H' Z' cls dx B x => h H' Z' cls dx (A.trans B) x
  | ok o ρ' =>
    rw [e] at h
    exact fun H' Z' B => ⟨ρ', Z', A.trans B, B, h⟩
/-- the end: no more run -/
theorem tde_last {m : ME} {Q : VK} (A : Aft K ρ0 σ H0 Z0 ρ σ H Z) (h : Post K cl W ρ0 σ H0 Z0 (m ρ) (kE K ρ0 σ H0 Q)) : TDE K cl W m σ H Q := by
  refine ⟨ρ, Z, A.rel, ?_⟩
  cases e : m ρ with
  | bad => rw [e] at h; exact h
  | ex c p ρ' =>
    rw [e] at h
    exact fun H' Z' cls dx B x => h H' Z' cls dx (A.trans B) x
  | ok o ρ' =>
    rw [e] at h
    exact fun H' Z' B v hv => h H' Z' (A.trans B) v (hv.base A)
theorem tdt_last {m : MT} {Q : Bool → Hp → Prop} (A : Aft K ρ0 σ H0 Z0 ρ σ H Z) (h : Post K cl W ρ0 σ H0 Z0 (m ρ) (kT Q)) : TDT K cl W m σ H Q := by
  refine ⟨ρ, Z, A.rel, ?_⟩
  cases e : m ρ with
  | bad => rw [e] at h; exact h
  | ex c p ρ' =>
    rw [e] at h
    exact fun H' Z' cls dx B x => h H' Z' cls dx (A.trans B) x
  | ok o ρ' =>
    rw [e] at h
    exact fun H' Z' B => h H' Z' (A.trans B)
theorem TDE.mono {m : ME} {Q Q' : VK} (h : TDE K cl W m σ H Q) (q : ∀ v H', Q v H' → Q' v H') : TDE K cl W m σ H Q' := by
  obtain ⟨ρ, Z, R, h⟩ := h
  refine ⟨ρ, Z, R, ?_⟩
  cases e : m ρ with
  | bad => rw [e] at h; exact h
  | ex c p ρ' => rw [e] at h; exact h
  | ok o ρ' =>
    rw [e] at h
    exact fun H' Z' B v hv => q _ _ (h H' Z' B v hv)
theorem TDT.mono {m : MT} {Q Q' : Bool → Hp → Prop} (h : TDT K cl W m σ H Q) (q : ∀ v H', Q v H' → Q' v H') : TDT K cl W m σ H Q' := by
  obtain ⟨ρ, Z, R, h⟩ := h
  refine ⟨ρ, Z, R, ?_⟩
  cases e : m ρ with
  | bad => rw [e] at h; exact h
  | ex c p ρ' => rw [e] at h; exact h
  | ok o ρ' =>
    rw [e] at h
    exact fun H' Z' B => q _ _ (h H' Z' B)
theorem PE.weak {X : Cx} {e : Expr} {t t' : TE} (h : PE X e t) (q : ∀ σ H Q, t' σ H Q → t σ H Q) : PE X e t' := ⟨fun pins s σ H Q I hw => h.run pins s σ H Q I (q σ H Q hw)⟩
theorem PT.weak {X : Cx} {e : Expr} {t t' : TT} (h : PT X e t) (q : ∀ σ H Q, t' σ H Q → t σ H Q) : PT X e t' := ⟨fun pins s σ H Q I hw => h.run pins s σ H Q I (q σ H Q hw)⟩
/-- what a built-in operation gives: the heap has grown -/
structure Gv (K : PySem.W.Frag) (Z : Zt) (H : Hp) (v : V) (d : D) (own : Bool) (H' : Hp) : Prop where
  grow : ∀ a o, H a = some o → H' a = some o
  has : Has K Z H' v d own
  fr : own = true → ∀ a, v = .ref a → H a = none
theorem ext_grow (g : ∀ a o, H a = some o → H' a = some o) : Ext Z H Z H' := ⟨fun _ h => h, fun a o _ h => g a o h, fun a _ h => g a _ h, fun a _ _ h => g a _ h, fun t => t.grow g, fun a _ h => g a _ h⟩
theorem Rel.grow (R : Rel K ρ σ H Z) (g : ∀ a o, H a = some o → H' a = some o) : Rel K ρ σ H' Z where
  ge := R.ge.ext (ext_grow g)
  len := R.len
  zt := fun a z => let ⟨o, e, n⟩ := R.zt a z; ⟨o, g a o e, n⟩
  has := fun i d own h => by
    obtain ⟨v, h1, h2⟩ := R.has i d own h
    refine ⟨v, h1, ?_⟩
    cases own with
    | false => exact Has.ext (ext_grow g) h2
    | true =>
      have h2' : Ow K Z H v d := h2
      exact (Ow.stay (ext_grow g) h2' (fun a o _ e _ => g a o e) (fun a e => by
        obtain ⟨b, _, e1, nz, _⟩ := h2'.ref
        rw [e] at e1; cases e1
        exact nz) : Ow K Z H' v d)
  sep := R.sep
theorem Aft.grow (R : Rel K ρ σ H Z) (g : ∀ a o, H a = some o → H' a = some o) : Aft K ρ σ H Z ρ σ H' Z :=
  ⟨R.grow g, fun _ h => h, fun a o h _ _ => g a o h, fun a ps h => ⟨ps, g a _ h⟩, fun _ h => .inl h, fun _ h => .inl h⟩
theorem Gv.val (R : Rel K ρ σ H Z) (A : Aft K ρ0 σ H0 Z0 ρ σ H Z) (g : Gv K Z H v d own H') : Val K ρ0 σ H0 ρ σ H' Z v (.val d own) := by
  refine ⟨g.has, fun e a q => ?_⟩
  have n := g.fr e a q
  refine ⟨fun z => ?_, A.new n⟩
  obtain ⟨_, o, e1, _⟩ := R.own z
  rw [n] at e1
  cases e1
/-- .. in a heap that did not grow: a scalar or shared thing -/
theorem Gv.same (h : Sh K Z H v d) : Gv K Z H v d false H := ⟨fun _ _ h => h, h, fun e => nomatch e⟩
theorem Gv.tup {vs : List V} {ds : List D} {p : Addr} {us : List Value} (n : H p = none) (hz : vs.length ≤ sizeLine) (l : ShL K Z H vs ds) : Gv K Z H (.ref p) (.tuple ds) false (upd H p (.frz (tupO us) (.tup vs))) := by
  have g : ∀ a o, H a = some o → upd H p (.frz (tupO us) (.tup vs)) a = some o := fun a o h => by rw [upd_ne (ne_of_none h n)]; exact h
  exact ⟨g, (.tup ⟨us, upd_same⟩ hz (l.ext (ext_grow g)) : Sh K Z _ _ _), fun e => nomatch e⟩
theorem Gv.lst {vs : List V} {ds : List D} {p : Addr} (nz : ¬ Z p) (n : H p = none) (hz : vs.length ≤ sizeLine) (l : ShL K Z H vs ds) : Gv K Z H (.ref p) (.list ds) true (upd H p (.lst vs)) := by
  have g : ∀ a o, H a = some o → upd H p (.lst vs) a = some o := fun a o h => by rw [upd_ne (ne_of_none h n)]; exact h
  exact ⟨g, (⟨p, rfl, nz, .inl ⟨vs, ds, rfl, upd_same, hz, l.ext (ext_grow g)⟩⟩ : Ow K Z _ _ _), fun _ a e => by cases e; exact n⟩
theorem Rel.fresh (R : Rel K ρ σ H Z) {p : Addr} (n : H p = none) : ¬ Z p := fun z => by
  obtain ⟨o, e, _⟩ := R.zt p z
  rw [n] at e
  cases e
end

def opt {α : Type} (ρ : En) (f : α → Op) : Option α → Rs Op
  | some x => .ok (f x) ρ
  | none => .bad
def rd1 {α : Type} (ρ : En) (o : Op) (k : D → Rs α) : Rs α := match deref ρ o with
  | some (d, _) => k d
  | none => .bad
def ret1 (ρ : En) : Option (D × Bool) → Rs Op
  | some (d, b) => .ok (.val d b) ρ
  | none => .bad
def bin2 (g : D → D → Option (D × Bool)) (ma mb : ME) : ME := fun ρ => (ma ρ).bind fun oa ρ1 => (mb ρ1).bind fun ob ρ2 => rd1 ρ2 oa fun x => rd1 ρ2 ob fun y => ret1 ρ2 (g x y)
/-- the rule r serves g -/
def Good2 [G : Glo] (K : PySem.W.Frag) (r : R2) (g : D → D → Option (D × Bool)) : Prop :=
  ∀ (Z : Zt) (H : Hp) (v w : V) (x y : D) (ox oy : Bool) (z : D) (own : Bool) (Q : VK), (∀ p, H p = none → ¬ Z p) → Has K Z H v x ox → Has K Z H w y oy → g x y = some (z, own) → (∀ u H', Gv K Z H u z own H' → Q u H') → r v w H Q
section
variable [G : Glo]
variable {K : PySem.W.Frag} {cl : Cl} {W : WX} {X : Cx} {a b : Expr} {pos : Pos} {ma mb : ME} {r : R2} {g : D → D → Option (D × Bool)}
theorem bin2_ok (hr : Good2 K r g) {σ : L2.St} {H : Hp} {Q : VK} (h : TDE K cl W (bin2 g ma mb) σ H Q) : tOp r (TDE K cl W ma) (TDE K cl W mb) σ H Q := by
  obtain ⟨ρ, Z, R, h⟩ := h
  refine TDE.mono (tde_bind (Aft.refl R) h) fun v H1 ⟨oa, ρ1, Z1, A1, _, hv, h1⟩ => ?_
  refine TDE.mono (tde_bind A1 h1) fun w H2 ⟨ob, ρ2, Z2, A2, B2, hw, h2⟩ => ?_
  have hv2 := hv.keep A1.rel B2
  unfold rd1 at h2
  cases e1 : deref ρ2 oa with
  | none => rw [e1] at h2; exact h2.elim
  | some p =>
    obtain ⟨x, ox⟩ := p
    rw [e1] at h2
    cases e2 : deref ρ2 ob with
    | none => simp only [e2] at h2; exact h2.elim
    | some p =>
      obtain ⟨y, oy⟩ := p
      simp only [e2] at h2
      cases e3 : g x y with
      | none => rw [e3] at h2; exact h2.elim
      | some p =>
        obtain ⟨z, own⟩ := p
        rw [e3] at h2
        refine hr Z2 H2 v w x y ox oy z own Q (fun p n => A2.rel.fresh n) (hv2.deref A2.rel e1) (hw.deref A2.rel e2) e3 fun u H' gv => ?_
        exact h2 H' Z2 (A2.trans (Aft.grow A2.rel gv.grow)) u (gv.val A2.rel A2)
theorem pe_bin2 {op : Operator} (ho : OpR X (binaryOp op) r) (hr : Good2 K r g) (ha : PE X a (TDE K cl W ma)) (hb : PE X b (TDE K cl W mb)) : PE X (.BinOp a op b pos) (TDE K cl W (bin2 g ma mb)) :=
  PE.weak (pe_op ho ha hb) fun _ _ _ h => bin2_ok hr h
theorem pe_cmp2 {op : CmpOp} (ho : OpR X (compareOp op) r) (hr : Good2 K r g) (hm : behindInMarks op b = false) (ha : PE X a (TDE K cl W ma)) (hb : PE X b (TDE K cl W mb)) : PE X (.Compare a [op] [b] pos) (TDE K cl W (bin2 g ma mb)) :=
  PE.weak (pe_cmpR ho ha hb hm) fun _ _ _ h => bin2_ok hr h
end
end Mv
namespace Mv
open PySem PySem.Spec L2
open PyProof.Rows hiding St

section
variable {X : Cx} {t : TA} {es : List Expr} {pos : Pos}
/-- a new tuple's object stands in the abstract heap as it is -/
theorem newTup {pins : List (Addr × Obj)} {σ : L2.St} {H : Hp} {s : Shared} {us : List Value} {xs : List V} {t' : Nat} (I : Inv X pins σ H s) (r : Vals xs us) (hz : xs.length ≤ sizeLine) :
    Inv X pins σ (upd H s.heap.objs.size (.frz (tupO us) (.tup xs))) { s with heap := s.heap.push (tupO us), toks := t' } :=
  I.laid (t' := t') (fun b u e => Heap.get?_push_of_some _ e) (Nat.le_refl _) ⟨Heap.get?_push_size _ rfl, hz, us, r, ⟨_, Heap.get?_push_size _ rfl, rfl, _, rfl⟩⟩
/-- there is a new exact tuple of vs -/
def NewT (H : Hp) (vs : List V) (Q : VK) : Prop := ∀ (p : Addr) (us : List Value), H p = none → Q (.ref p) (upd H p (.frz (tupO us) (.tup vs)))
def tTupX (t : TA) : TE := fun σ H Q => t σ H fun xs H1 => xs.length ≤ sizeLine ∧ NewT H1 xs Q
theorem pe_tupX {k : Nat} (h : PA X es t) : PE X (.Tuple es k pos) (tTupX t) := by
  refine ⟨fun pins s σ H Q I hq => wpAny_Tuple_spliced (thn (h.run pos pins s σ H _ I hq) fun us s1 ⟨xs, H1, I1, r, z, q⟩ => ⟨by rw [← r.length]; exact z, ?_⟩)⟩
  exact ⟨.ref s1.heap.objs.size, _, newTup (t' := s1.toks) I1 r z, rfl, q _ us (I1.hok.fresh (Nat.le_refl _))⟩
def rCatX (K : PySem.W.Frag) : R2 := fun x y H Q => ∃ a b xs ys, x = .ref a ∧ y = .ref b ∧ SqT K H a xs ∧ SqT K H b ys ∧ xs.length + ys.length ≤ sizeLine ∧
  (xs = [] → Q (.ref b) H) ∧ (xs ≠ [] → ys = [] → Q (.ref a) H) ∧ (xs ≠ [] → ys ≠ [] → NewT H (xs ++ ys) Q)
theorem op_catX : OpR X (binaryOp .Add) (rCatX X.K) := by
  intro pins s σ H x y v u Q I rx ry h
  obtain ⟨a, b, xs, ys, ex, ey, ha, hb, hz, q0, q1, q2⟩ := h
  subst ex ey
  cases (show v = Value.ref a from rx)
  cases (show u = Value.ref b from ry)
  obtain ⟨is, r1, p1, _⟩ := I.tuple ha
  obtain ⟨js, r2, p2, _⟩ := I.tuple hb
  by_cases hx : xs = []
  · subst hx
    cases r1
    exact cat_tup0 p1 p2 ⟨.ref b, H, I, rfl, q0 rfl⟩
  · refine HT.cat_tup p1 p2 (fun z => hx (r1.nil_iff.mp z)) (fun z => ⟨.ref a, H, I, rfl, q1 hx (r2.nil_iff.mp z)⟩) (fun z => ?_) (by rw [← r1.length, ← r2.length]; exact hz)
    exact ⟨.ref s.heap.objs.size, _, newTup (t' := s.toks) I (r1.append r2) (by rw [List.length_append]; exact hz), rfl, q2 hx (fun w => z (r2.nil_iff.mpr w)) _ _ (I.hok.fresh (Nat.le_refl _))⟩
def rSlX (K : PySem.W.Frag) : V → Option Int → Option Int → Hp → VK → Prop := fun x lo hi H Q => ∃ a xs, x = .ref a ∧ SqT K H a xs ∧
  (HT.sIx xs.length 0 lo = 0 ∧ HT.sIx xs.length xs.length hi = xs.length → Q (.ref a) H) ∧ (¬ (HT.sIx xs.length 0 lo = 0 ∧ HT.sIx xs.length xs.length hi = xs.length) → NewT H (cutV xs lo hi) Q)
theorem sl_tupX : SlR X (rSlX X.K) := by
  intro pins s σ H x v vl vu lo hi sl Q I rx hs pl pu h
  obtain ⟨a, xs, ex, hx, q1, q2⟩ := h
  subst ex
  cases (show v = Value.ref a from rx)
  obtain ⟨is, r, ht, hz⟩ := I.tuple hx
  have size : is.toArray.size = xs.length := by rw [List.size_toArray, r.length]
  by_cases hw : HT.sIx xs.length 0 lo = 0 ∧ HT.sIx xs.length xs.length hi = xs.length
  · exact ⟨"tuple", _, PyProof.Rows.slot_tuple_getitem.lookup, ht.typeIs, getItem_tuple_whole ht hs pl pu (by rw [size]; exact hw) ⟨.ref a, H, I, rfl, q1 hw⟩⟩
  · refine ⟨"tuple", _, PyProof.Rows.slot_tuple_getitem.lookup, ht.typeIs, HT.getItem_tuple_cut ht hs pl pu (by rw [size]; exact hw) ?_ (by rw [size]; exact hz)⟩
    rw [size]
    exact ⟨.ref s.heap.objs.size, _, newTup (t' := s.toks) I ((r.drop (HT.sIx xs.length 0 lo)).take (HT.sIx xs.length xs.length hi - HT.sIx xs.length 0 lo)) (Nat.le_trans (cutV_length xs lo hi) hz), rfl, q2 hw _ _ (I.hok.fresh (Nat.le_refl _))⟩
theorem call_tupleX : CallR X (.type "tuple") (fun xs H Q => ∃ p ys, xs = [.ref p] ∧ ((SqL X.K H p ys ∧ NewT H ys Q) ∨ (SqT X.K H p ys ∧ Q (.ref p) H))) := by
  intro pins s σ H xs us Q I r h
  obtain ⟨p, ys, ex, h⟩ := h
  subst ex
  obtain ⟨u, eu, rx⟩ := vals1 r
  subst eu
  cases (show u = Value.ref p from rx)
  rcases h with ⟨hq, q⟩ | ⟨hq, q⟩
  · obtain ⟨is, r', pl, hz⟩ := I.list hq
    refine call_tuple_list pl.isList (fun h' kp => ?_) (by rw [List.size_toArray, ← r'.length]; exact hz)
    have I1 : Inv X pins σ H { s with heap := h' } := I.kept (t' := s.toks) kp
    exact ⟨.ref h'.objs.size, _, newTup (t' := s.toks) I1 r' hz, rfl, q _ _ (I1.hok.fresh (Nat.le_refl _))⟩
  · obtain ⟨is, r', pl, _⟩ := I.tuple hq
    exact call_tuple_same pl ⟨.ref p, H, I, rfl, q⟩
end
end Mv
namespace Mv
open PySem PySem.Spec L2
open PyProof.Rows hiding St

/-- built-ins that read their arguments -/
inductive Bi where
  | len | int | tuple | list | max2 | min2 | repr | sorted | abs | sum | dict | all | any
  deriving DecidableEq
/-- methods that change the list or dict of a slot -/
inductive Mu where
  | append | extend | pop | popAt
  deriving DecidableEq
/-- built-in types, as isinstance names them -/
inductive Ty where
  | tuple | int | bool | str | list | dict
  deriving DecidableEq
inductive Ty7 where
  | non | bool | int | str | list | tuple | dict
  deriving DecidableEq
def tyS : Ty → String
  | .tuple => "tuple"
  | .int => "int"
  | .bool => "bool"
  | .str => "str"
  | .list => "list"
  | .dict => "dict"
def ty7 : Ty7 → String
  | .non => "NoneType"
  | .bool => "bool"
  | .int => "int"
  | .str => "str"
  | .list => "list"
  | .tuple => "tuple"
  | .dict => "dict"
def isiT : Ty → Ty7 → Bool
  | .tuple, .tuple => true
  | .int, .int => true
  | .int, .bool => true
  | .bool, .bool => true
  | .str, .str => true
  | .list, .list => true
  | .dict, .dict => true
  | _, _ => false
def tyD : D → Ty7
  | .none => .non
  | .bool _ => .bool
  | .int _ => .int
  | .str _ => .str
  | .list _ => .list
  | .tuple _ => .tuple
  | .dict _ => .dict
/-- what an element may say: names, items, comparisons -/
inductive RE where
  | var (i : Nat)
  | ix (a b : RE)
  | cmp (op : CmpOp) (a b : RE)
  | or (a b : RE)
inductive Tg where
  | name (i : Nat)
  | tup (is : List Nat)
mutual
inductive IE where
  | var (i : Nat)
  | lit (d : D)
  | bin (op : Operator) (a b : IE)
  | un (op : UnaryOp) (a : IE)
  | cmp (op : CmpOp) (a b : IE)
  | chain (op op' : CmpOp) (a b c : IE)
  | and (a b : IE)
  | or (a b : IE)
  | not (a : IE)
  | ite (c : IT) (a b : IE)
  | tup (es : IL)
  | lst (es : IL)
  | ix (a b : IE)
  | sl (a : IE) (lo hi : IO)
  | lc (own : List Nat) (tg : Tg) (it : II) (c : IT) (elt : IE)
  | call (f : Nat) (as : IL)
  | callp (f : Nat) (perm : List Nat) (as : IL)
  | bi (b : Bi) (as : IL)
  | mut (m : Mu) (i : Nat) (as : IL)
  | get (a k x : IE)
  | isi (T : Ty) (a : IE)
  | dnew
  | exw
  | exi (yes no : List Nat)
  | allg (al : Bool) (tg : Tg) (it : IE) (elt : RE)
  | lamc (f : Nat) (e : IE)
  | thk
inductive IT where
  | yes
  | tr (e : IE)
  | tb (e : IE)
  | and (a b : IT)
  | or (a b : IT)
  | not (a : IT)
inductive IL where
  | nil
  | cons (e : IE) (r : IL)
inductive IO where
  | none
  | some (e : IE)
inductive II where
  | seq (e : IE)
  | range1 (a : IE)
  | range2 (a b : IE)
  | enum (e : IE)
end
mutual
inductive IS where
  | expr (e : IE)
  | asg (tg : Tg) (e : IE)
  | par (is : List Nat) (es : IL)
  | setix (i : Nat) (k v : IE)
  | aug (i : Nat) (op : Operator) (e : IE)
  | iff (c : IT) (a b : IB)
  | for_ (tg : Tg) (it : II) (b : IB)
  | while_ (c : IT) (b : IB)
  | ret (e : IE)
  | retN
  | pass | brk | cont
  | raise_ (c : Nat) (e : IE)
  | try_ (b : IB) (hs : IH)
inductive IB where
  | nil
  | cons (s : IS) (r : IB)
inductive IH where
  | nil
  | cons (yes no : List Nat) (sl : Option Nat) (b : IB) (r : IH)
end

def mulOk (i j : Int) : Bool := (decide (-(2 ^ 64) < i) && decide (i < 2 ^ 64)) || (decide (-(2 ^ 64) < j) && decide (j < 2 ^ 64))
def addF : D → D → Option (D × Bool)
  | .int i, .int j => some (.int (i + j), false)
  | .list a, .list b => if a.length + b.length ≤ sizeLine then some (.list (a ++ b), true) else none
  | .tuple a, .tuple b => if a.length + b.length ≤ sizeLine then some (.tuple (a ++ b), false) else none
  | _, _ => none
def subF : D → D → Option (D × Bool)
  | .int i, .int j => some (.int (i - j), false)
  | _, _ => none
def mulF : D → D → Option (D × Bool)
  | .int i, .int j => if mulOk i j = true then some (.int (i * j), false) else none
  | _, _ => none
def divF : D → D → Option (D × Bool)
  | .int i, .int j => if 0 < j ∧ j < 2 ^ 200 then some (.int (i / j), false) else none
  | _, _ => none
def modF : D → D → Option (D × Bool)
  | .int i, .int j => if 0 < j then some (.int (i % j), false) else none
  | _, _ => none
def powF : D → D → Option (D × Bool)
  | .int i, .int j => if 0 ≤ j ∧ j ≤ 1000000 ∧ i.natAbs < 2 ^ 64 then some (.int (i ^ j.toNat), false) else none
  | _, _ => none
def binF : Operator → D → D → Option (D × Bool)
  | .Add => addF
  | .Sub => subF
  | .Mult => mulF
  | .FloorDiv => divF
  | .Mod => modF
  | .Pow => powF
  | _ => fun _ _ => none
def unF : UnaryOp → D → Option (D × Bool)
  | .USub, .int i => some (.int (-i), false)
  | _, _ => none
def bl (b : Bool) : Option (D × Bool) := some (.bool b, false)
def eqF : D → D → Option (D × Bool)
  | .int i, .int j => bl (decide (i = j))
  | .str a, .str b => bl (decide (a = b))
  | x, y => if SeqAt.shaped x = true ∧ SeqAt.shaped y = true then bl (PyData.eqv x y) else none
def neF : D → D → Option (D × Bool)
  | .int i, .int j => bl (!decide (i = j))
  | .str a, .str b => bl (!decide (a = b))
  | x, y => if SeqAt.shaped x = true ∧ SeqAt.shaped y = true then bl (!PyData.eqv x y) else none
def ordF (p : Int → Int → Bool) : D → D → Option (D × Bool)
  | .int i, .int j => bl (p i j)
  | _, _ => none
def isNone : D → Bool
  | .none => true
  | _ => false
def isBl (b : Bool) : D → Bool
  | .bool a => decide (a = b)
  | _ => false
def isF (neg : Bool) : D → D → Option (D × Bool)
  | x, .none => bl (isNone x != neg)
  | x, .bool b => bl (isBl b x != neg)
  | _, _ => none
def dkey : D → Option Key
  | .int i => some (.inl i)
  | .str x => some (.inr x)
  | _ => none
def dkeys : List D → Option (List Key)
  | [] => some []
  | d :: r => match dkey d, dkeys r with
    | some k, some ks => some (k :: ks)
    | _, _ => none
def tkey : D → Option (List Key)
  | .tuple ds => dkeys ds
  | _ => none
def valE {κ : Type} [DecidableEq κ] (f : D → Option κ) (es : List (D × D)) (k : κ) : Option D := (es.find? fun e => decide (f e.1 = some k)).map (·.2)
def putE {κ : Type} [DecidableEq κ] (f : D → Option κ) (es : List (D × D)) (k : κ) (kd v : D) : List (D × D) :=
  if (es.any fun e => decide (f e.1 = some k)) = true then es.map (fun e => if f e.1 = some k then (e.1, v) else e) else es ++ [(kd, v)]
/-- what a dict has under a key -/
def getF : D → D → Option (Option D)
  | .dict ((.none, .none) :: _), _ => none
  | .dict es, k => (dkey k).map fun kk => valE dkey es kk
  | _, _ => none
def inF (neg : Bool) : D → D → Option (D × Bool)
  | x, .list ds => if SeqAt.shaped x = true ∧ SeqAt.shaped (.list ds) = true then bl ((ds.any fun z => PyData.eqv z x) != neg) else none
  | x, .tuple ds => if SeqAt.shaped x = true ∧ SeqAt.shaped (.tuple ds) = true then bl ((ds.any fun z => PyData.eqv z x) != neg) else none
  | x, .dict es => (getF (.dict es) x).bind fun o => bl (o.isSome != neg)
  | _, _ => none
def cmpF : CmpOp → D → D → Option (D × Bool)
  | .Eq => eqF
  | .NotEq => neF
  | .Lt => ordF fun i j => decide (i < j)
  | .LtE => ordF fun i j => decide (i ≤ j)
  | .Gt => ordF fun i j => decide (j < i)
  | .GtE => ordF fun i j => decide (j ≤ i)
  | .Is => isF false
  | .IsNot => isF true
  | .In => inF false
  | .NotIn => inF true
def ixF : D → D → Option (D × Bool)
  | .list xs, .int i => (atI xs i).map fun d => (d, false)
  | .tuple xs, .int i => (atI xs i).map fun d => (d, false)
  | .dict es, k => match getF (.dict es) k with
    | some (some d) => some (d, false)
    | _ => none
  | _, _ => none
def cutD (xs : List D) (lo hi : Option Int) : List D := (xs.drop (HT.sIx xs.length 0 lo)).take (HT.sIx xs.length xs.length hi - HT.sIx xs.length 0 lo)
def slF : D → Option Int → Option Int → Option (D × Bool)
  | .list xs, lo, hi => some (.list (cutD xs lo hi), true)
  | .tuple xs, lo, hi => some (.tuple (cutD xs lo hi), false)
  | _, _, _ => none
def truth : D → Option Bool
  | .none => some false
  | .bool b => some b
  | .int i => some (i != 0)
  | .list xs => some (!xs.isEmpty)
  | .tuple xs => some (!xs.isEmpty)
  | .dict _ => none
  | _ => none
def reprOk (d : D) : Bool := d.showable && !d.hasDict && decide (d.shown.length ≤ sizeLine) && decide (d.depth ≤ 64)
/-- sorted rising -/
def insI (i : Int) : List Int → List Int
  | [] => [i]
  | j :: r => if i ≤ j then i :: j :: r else j :: insI i r
def sortI : List Int → List Int
  | [] => []
  | i :: r => insI i (sortI r)
def intsF : List D → Option (List Int)
  | [] => some []
  | .int i :: r => (intsF r).map (i :: ·)
  | _ => none
def boolsF : List D → Option (List Bool)
  | [] => some []
  | .bool b :: r => (boolsF r).map (b :: ·)
  | _ => none
/-- the pairs that dict() is given -/
def pairsF : List D → Option (List (Key × D))
  | [] => some []
  | .tuple [k, v] :: r => match dkey k, pairsF r with
    | some kk, some ps => some ((kk, v) :: ps)
    | _, _ => none
  | _ => none
def mergeE (ps : List (Key × D)) : List (D × D) := ps.foldl (fun es p => putE dkey es p.1 (kD p.1) p.2) []
def biF : Bi → List D → Option (D × Bool)
  | .len, [.list xs] => some (.int xs.length, false)
  | .len, [.tuple xs] => some (.int xs.length, false)
  | .int, [.int i] => some (.int i, false)
  | .int, [.bool b] => some (.int (if b then 1 else 0), false)
  | .tuple, [.list xs] => some (.tuple xs, false)
  | .tuple, [.tuple xs] => some (.tuple xs, false)
  | .list, [.list xs] => some (.list xs, true)
  | .list, [.tuple xs] => some (.list xs, true)
  | .max2, [.int i, .int j] => some (.int (if j > i then j else i), false)
  | .min2, [.int i, .int j] => some (.int (if j < i then j else i), false)
  | .repr, [d] => if reprOk d = true then some (.str d.shown, false) else none
  | .dict, [.list ds] => (pairsF ds).map fun ps => (.dict (mergeE ps), true)
  | .dict, [.tuple ds] => (pairsF ds).map fun ps => (.dict (mergeE ps), true)
  | .sorted, [.list ds] => (intsF ds).map fun ns => (.list ((sortI ns).map .int), true)
  | .all, [.list ds] => (boolsF ds).map fun bs => (.bool (bs.all id), false)
  | .any, [.list ds] => (boolsF ds).map fun bs => (.bool (bs.any id), false)
  | .sorted, [.dict es] => if es.length < 64 then (intsF (es.map (·.1))).map fun ns => (.list ((sortI ns).map .int), true) else none
  | _, _ => none
/-- the result, the new content -/
def muF : Mu → D → List D → Option (D × D)
  | .append, .list xs, [v] => if xs.length < sizeLine then some (.none, .list (xs ++ [v])) else none
  | .extend, .list xs, [.list ys] => if xs.length + ys.length ≤ sizeLine then some (.none, .list (xs ++ ys)) else none
  | .popAt, .list xs, [.int i] => if 0 ≤ i ∧ i < xs.length then (xs[i.toNat]?).map fun d => (d, .list (xs.eraseIdx i.toNat)) else none
  | .pop, .list xs, [] => (xs[xs.length - 1]?).map fun d => (d, .list xs.dropLast)
  | _, _, _ => none
def setF : D → D → D → Option D
  | .list xs, .int k, v => (ixN xs.length k).map fun j => .list (xs.set j v)
  | .dict ((.none, .none) :: _), _, _ => none
  | .dict es, k, v => match dkey k with
    | some kk => if es.length < sizeLine then some (.dict (putE dkey es kk k v)) else none
    | none => none
  | _, _, _ => none

def rdC (op : CmpOp) (x y : D) : Option D := match op with
  | .Eq => if SeqAt.shaped x = true ∧ SeqAt.shaped y = true then some (.bool (PyData.eqv x y)) else none
  | .NotEq => if SeqAt.shaped x = true ∧ SeqAt.shaped y = true then some (.bool (!PyData.eqv x y)) else none
  | .In => match y with
    | .list _ => (inF false x y).map (·.1)
    | .tuple _ => (inF false x y).map (·.1)
    | _ => none
  | _ => none
def rdI (x y : D) : Option D := match x, y with
  | .list xs, .int i => if xs.length ≤ sizeLine then atI xs i else none
  | .tuple xs, .int i => if xs.length ≤ sizeLine then atI xs i else none
  | _, _ => none
def rdE (ρ : En) : RE → Option D
  | .var i => match ρ[i]? with
    | some (some (d, _)) => if d.hasDict = true then none else some d
    | _ => none
  | .ix a b => match rdE ρ a, rdE ρ b with
    | some x, some y => rdI x y
    | _, _ => none
  | .cmp op a b => match rdE ρ a, rdE ρ b with
    | some x, some y => rdC op x y
    | _, _ => none
  | .or a b => match rdE ρ a with
    | some (.bool true) => some (.bool true)
    | some (.bool false) => rdE ρ b
    | _ => none
def augF : Operator → Int → Int → Option Int
  | .Add, x, y => some (x + y)
  | .Sub, x, y => some (x - y)
  | .Mult, x, y => if mulOk x y = true then some (x * y) else none
  | _, _, _ => none

/-- a thing taken out to be kept elsewhere: shared from now on -/
def sealE (ρ : En) : Op → Option (D × En)
  | .val d _ => some (d, ρ)
  | .ref i => match ρ[i]? with
    | some (some (d, true)) => some (d, ρ.set i (some (d, false)))
    | some (some (d, false)) => some (d, ρ)
    | _ => none
/-- .. or given to a slot, a caller: a new own thing stays own -/
def give (ρ : En) : Op → Option (D × Bool × En)
  | .val d own => some (d, own, ρ)
  | .ref i => match ρ[i]? with
    | some (some (d, true)) => some (d, false, ρ.set i (some (d, false)))
    | some (some (d, false)) => some (d, false, ρ)
    | _ => none
/-- .. moved out of a slot that dies -/
def moveOut (ρ : En) : Op → Option (D × Bool × En)
  | .val d own => some (d, own, ρ)
  | .ref i => match ρ[i]? with
    | some (some (d, true)) => some (d, true, ρ.set i none)
    | some (some (d, false)) => some (d, false, ρ)
    | _ => none
inductive CL where
  | ok (d : D) (own : Bool) (out : En)
  | ex (c : Nat) (p : D) (out : En)
  | bad
abbrev Fn := Nat → List (D × Bool) → CL
/-- the callee's arguments as they are at the call -/
def argsOf (ρ : En) : List Op → Option (List (D × Bool))
  | [] => some []
  | o :: r => match deref ρ o, argsOf ρ r with
    | some x, some xs => some (x :: xs)
    | _, _ => none
/-- the slots that are handed over with what they own -/
def ownIx (ρ : En) : List Op → List Nat
  | [] => []
  | .ref i :: r => match ρ[i]? with
    | some (some (_, true)) => i :: ownIx ρ r
    | _ => ownIx ρ r
  | _ :: r => ownIx ρ r
/-- what the callee left of them -/
def putBack (ρ : En) : List Op → En → En
  | [], _ => ρ
  | .ref i :: r, out => match ρ[i]? with
    | some (some (_, true)) => (putBack ρ r out.tail).set i (out.head?.join)
    | _ => putBack ρ r out.tail
  | .val _ _ :: r, out => putBack ρ r out.tail
/-- some of a list, in this order -/
def pick {α : Type} (l : List α) : List Nat → Option (List α)
  | [] => some []
  | i :: r => match l[i]?, pick l r with
    | some x, some xs => some (x :: xs)
    | _, _ => none
def callD (Φ : Fn) (f : Nat) (os : List Op) (ρ1 : En) : Rs Op := match argsOf ρ1 os with
  | none => .bad
  | some xs => if (ownIx ρ1 os).Nodup then (match Φ f xs with
    | .ok d own out => .ok (.val d own) (putBack ρ1 os out)
    | .ex c p out => .ex c p (putBack ρ1 os out)
    | .bad => .bad) else .bad
def giveAll (ρ : En) : List Op → Option (List (D × Bool) × En)
  | [] => some ([], ρ)
  | o :: r => match give ρ o with
    | some (d, own, ρ1) => match giveAll ρ1 r with
      | some (xs, ρ2) => some ((d, own) :: xs, ρ2)
      | none => none
    | none => none
def setL {α : Type} (ρ : List (Option α)) : List Nat → List α → List (Option α)
  | i :: r, x :: xs => setL (ρ.set i (some x)) r xs
  | _, _ => ρ
def setTg (P : List Nat) : Tg → D → Bool → En → Option En
  | .name i, d, own, ρ => if P.contains i = true then none else some (ρ.set i (some (d, own)))
  | .tup is, .tuple ds, false, ρ => if is.length = ds.length ∧ (is.any fun i => P.contains i) = false then some ((is.zip ds).foldl (fun r p => r.set p.1 (some (p.2, false))) ρ) else none
  | _, _, _, _ => none
def wipeE (ρ : En) : List Nat → En
  | [] => ρ
  | i :: r => (wipeE ρ r).set i none
def restE (ρ0 ρ : En) : List Nat → En
  | [] => ρ
  | i :: r => (restE ρ0 ρ r).set i (ρ0[i]?.join)
def Rs.noex {α : Type} : Rs α → Rs α
  | .ok x ρ => .ok x ρ
  | _ => .bad
/-- the turns of a list's comprehension -/
def lcL (own : List Nat) (tg : Tg) (c : MT) (e : ME) : List D → List D → En → Rs (List D)
  | [], acc, ρ => .ok acc (wipeE ρ own)
  | x :: xs, acc, ρ => match setTg [] tg x false (wipeE ρ own) with
    | none => .bad
    | some ρ1 => (c ρ1).noex.bind fun k ρ2 => if k = true then (e ρ2).noex.bind fun o ρ3 => match sealE ρ3 o with
        | some (d, ρ4) => lcL own tg c e xs (acc ++ [d]) ρ4
        | none => .bad
      else lcL own tg c e xs acc ρ2
inductive SR where
  | nx (ρ : En)
  | rt (d : D) (own : Bool) (ρ : En)
  | bk (ρ : En)
  | ct (ρ : En)
  | ex (c : Nat) (p : D) (ρ : En)
  | bad
def SR.seq (r : SR) (f : En → SR) : SR := match r with
  | .nx ρ => f ρ
  | r => r
def Rs.stm {α : Type} (r : Rs α) (f : α → En → SR) : SR := match r with
  | .ok x ρ => f x ρ
  | .ex c p ρ => .ex c p ρ
  | .bad => .bad
def forL (P : List Nat) (tg : Tg) (b : En → SR) : List D → En → SR
  | [], ρ => .nx ρ
  | x :: xs, ρ => match setTg P tg x false ρ with
    | none => .bad
    | some ρ1 => match b ρ1 with
      | .nx ρ2 => forL P tg b xs ρ2
      | .ct ρ2 => forL P tg b xs ρ2
      | .bk ρ2 => .nx ρ2
      | r => r
def whileL (c : MT) (b : En → SR) : Nat → En → SR
  | 0, _ => .bad
  | n + 1, ρ => (c ρ).stm fun k ρ1 => if k = true then match b ρ1 with
      | .nx ρ2 => whileL c b n ρ2
      | .ct ρ2 => whileL c b n ρ2
      | .bk ρ2 => .nx ρ2
      | r => r
    else .nx ρ1
def bigFuel : Nat := 10 ^ 30
/-- what an except suite knows of its exception: two defs more -/
def exF (Φ : Fn) (c : Nat) (p : D) : Fn := fun f xs => if f = 1000000 then .ok p false [] else if f = 1000001 then .ok (.int c) false [] else Φ f xs
def SR.un (sl : Option Nat) : SR → SR
  | .nx ρ => .nx (match sl with
    | some i => ρ.set i none
    | none => ρ)
  | .bk ρ => .bk (match sl with
    | some i => ρ.set i none
    | none => ρ)
  | .ct ρ => .ct (match sl with
    | some i => ρ.set i none
    | none => ρ)
  | .rt d own ρ => .rt d own (match sl with
    | some i => ρ.set i none
    | none => ρ)
  | .ex _ _ _ => .bad
  | .bad => .bad
def exwR (ρ : En) : CL → Rs Op
  | .ok p _ _ => .ok (.val p false) ρ
  | _ => .bad
def exiR (yes no : List Nat) (ρ : En) : CL → Rs Op
  | .ok (.int c) _ _ => if yes.contains c.toNat = true then .ok (.val (.bool true) false) ρ else if no.contains c.toNat = true then .ok (.val (.bool false) false) ρ else .bad
  | _ => .bad

/-- what a lambda's call gives, told as data and back -/
def encR : Rs Op → Option D
  | .ok o ρ => match sealE ρ o with
    | some (d, _) => some (.tuple [.none, d])
    | none => none
  | .ex c p _ => some (.tuple [.int c, p])
  | .bad => none
def decD : D → CL
  | .tuple [.none, d] => .ok d false []
  | .tuple [.int c, p] => .ex c.toNat p []
  | _ => .bad
def thR (ρ : En) : CL → Rs Op
  | .ok d _ _ => .ok (.val d false) ρ
  | .ex c p _ => .ex c p ρ
  | .bad => .bad
def lmR (ρ : En) : CL → Rs Op
  | .ok d own _ => .ok (.val d own) ρ
  | .ex c p _ => .ex c p ρ
  | .bad => .bad
/-- within the def that got a lambda: a def more -/
def thF (Φ : Fn) (r : CL) : Fn := fun f xs => if f = 1000002 then r else Φ f xs
def maskS : Sl → Sl
  | some (d, false) => some (d, false)
  | _ => none
def maskE (ρ : En) : En := ρ.map maskS
def lamR (Φ : Fn) (f : Nat) (ρ : En) : Option D → Rs Op
  | some d => lmR ρ (Φ (2000000 + f) [(d, false)])
  | none => .bad
/-- a generator expression's truths -/
def genF (tg : Tg) (re : RE) (ρ : En) : List D → Option (List Bool)
  | [] => some []
  | x :: xs => match setTg [] tg x false ρ with
    | none => none
    | some ρ1 => match rdE ρ1 re, genF tg re ρ xs with
      | some (.bool b), some bs => some (b :: bs)
      | _, _ => none
mutual
def dE (Φ : Fn) : IE → En → Rs Op
  | .var i => fun ρ => match ρ[i]? with
    | some (some _) => .ok (.ref i) ρ
    | _ => .bad
  | .lit d => fun ρ => .ok (.val d false) ρ
  | .bin op a b => bin2 (binF op) (dE Φ a) (dE Φ b)
  | .un op a => fun ρ => (dE Φ a ρ).bind fun o ρ1 => rd1 ρ1 o fun x => ret1 ρ1 (unF op x)
  | .cmp op a b => bin2 (cmpF op) (dE Φ a) (dE Φ b)
  | .chain op op' a b c => fun ρ => (dE Φ a ρ).bind fun oa ρ1 => (dE Φ b ρ1).bind fun ob ρ2 => rd1 ρ2 oa fun x => rd1 ρ2 ob fun y =>
      match cmpF op x y with
      | some (.bool true, _) => (dE Φ c ρ2).bind fun oc ρ3 => rd1 ρ3 ob fun y => rd1 ρ3 oc fun z => ret1 ρ3 (cmpF op' y z)
      | some (.bool false, _) => .ok (.val (.bool false) false) ρ2
      | _ => .bad
  | .and a b => fun ρ => (dE Φ a ρ).bind fun o ρ1 => rd1 ρ1 o fun x => match x with
      | .bool true => dE Φ b ρ1
      | .bool false => .ok (.val (.bool false) false) ρ1
      | _ => .bad
  | .or a b => fun ρ => (dE Φ a ρ).bind fun o ρ1 => rd1 ρ1 o fun x => match x with
      | .bool false => dE Φ b ρ1
      | .bool true => .ok (.val (.bool true) false) ρ1
      | _ => .bad
  | .not a => fun ρ => (dE Φ a ρ).bind fun o ρ1 => rd1 ρ1 o fun x => match x with
      | .bool k => .ok (.val (.bool (!k)) false) ρ1
      | _ => .bad
  | .ite c a b => fun ρ => (dT Φ c ρ).bind fun k ρ1 => if k = true then dE Φ a ρ1 else dE Φ b ρ1
  | .tup es => fun ρ => (dD Φ es ρ).bind fun ds ρ1 => .ok (.val (.tuple ds) false) ρ1
  | .lst es => fun ρ => (dD Φ es ρ).bind fun ds ρ1 => .ok (.val (.list ds) true) ρ1
  | .ix a b => bin2 ixF (dE Φ a) (dE Φ b)
  | .sl a lo hi => fun ρ => (dE Φ a ρ).bind fun o ρ1 => (dO Φ lo ρ1).bind fun l ρ2 => (dO Φ hi ρ2).bind fun h ρ3 => rd1 ρ3 o fun x => ret1 ρ3 (slF x l h)
  | .lc own tg it c elt => fun ρ => (dI Φ it ρ).bind fun xs ρ1 => (lcL own tg (dT Φ c) (dE Φ elt) xs [] ρ1).bind fun ds ρ2 => .ok (.val (.list ds) true) (restE ρ1 ρ2 own)
  | .call f as => fun ρ => (dL Φ as ρ).bind fun os ρ1 => callD Φ f os ρ1
  | .callp f perm as => fun ρ => (dL Φ as ρ).bind fun os ρ1 => match pick os perm with
      | some os' => if perm.Nodup then callD Φ f os' ρ1 else .bad
      | none => .bad
  | .bi b as => fun ρ => (dL Φ as ρ).bind fun os ρ1 => match argsOf ρ1 os with
      | none => .bad
      | some xs => ret1 ρ1 (biF b (xs.map (·.1)))
  | .mut m i as => fun ρ => match ρ[i]? with
      | some (some (.list _, true)) => (dD Φ as ρ).bind fun ds ρ1 => match ρ1[i]? with
        | some (some (d, true)) => match muF m d ds with
          | some (r, d') => .ok (.val r false) (ρ1.set i (some (d', true)))
          | none => .bad
        | _ => .bad
      | _ => .bad
  | .get a k x => fun ρ => (dE Φ a ρ).bind fun oa ρ1 => match deref ρ1 oa with
      | some (.dict _, _) => (dE Φ k ρ1).bind fun ok ρ2 => (dE Φ x ρ2).bind fun ox ρ3 => rd1 ρ3 oa fun d => rd1 ρ3 ok fun kd => match getF d kd with
        | some (some v) => .ok (.val v false) ρ3
        | some none => .ok ox ρ3
        | none => .bad
      | _ => .bad
  | .isi T a => fun ρ => (dE Φ a ρ).bind fun o ρ1 => rd1 ρ1 o fun x => .ok (.val (.bool (isiT T (tyD x))) false) ρ1
  | .dnew => fun ρ => .ok (.val (.dict []) true) ρ
  | .exw => fun ρ => exwR ρ (Φ 1000000 [])
  | .exi yes no => fun ρ => exiR yes no ρ (Φ 1000001 [])
  | .lamc f e => fun ρ => lamR Φ f ρ (encR (dE Φ e (maskE ρ)))
  | .thk => fun ρ => thR ρ (Φ 1000002 [])
  | .allg al tg it re => fun ρ => (dE Φ it ρ).bind fun o ρ1 => match sealE ρ1 o with
      | some (.list xs, ρ2) => match genF tg re ρ2 xs with
        | some bs => .ok (.val (.bool (if al = true then bs.all id else bs.any id)) false) ρ2
        | none => .bad
      | some (.tuple xs, ρ2) => match genF tg re ρ2 xs with
        | some bs => .ok (.val (.bool (if al = true then bs.all id else bs.any id)) false) ρ2
        | none => .bad
      | _ => .bad
def dT (Φ : Fn) : IT → En → Rs Bool
  | .yes => fun ρ => .ok true ρ
  | .tr e => fun ρ => (dE Φ e ρ).bind fun o ρ1 => rd1 ρ1 o fun x => match truth x with
      | some k => .ok k ρ1
      | none => .bad
  | .tb e => fun ρ => (dE Φ e ρ).bind fun o ρ1 => rd1 ρ1 o fun x => match x with
      | .bool k => .ok k ρ1
      | _ => .bad
  | .and a b => fun ρ => (dT Φ a ρ).bind fun k ρ1 => if k = true then dT Φ b ρ1 else .ok false ρ1
  | .or a b => fun ρ => (dT Φ a ρ).bind fun k ρ1 => if k = true then .ok true ρ1 else dT Φ b ρ1
  | .not a => fun ρ => (dT Φ a ρ).bind fun k ρ1 => .ok (!k) ρ1
/-- kept elsewhere, one after the other -/
def dD (Φ : Fn) : IL → En → Rs (List D)
  | .nil => fun ρ => .ok [] ρ
  | .cons e r => fun ρ => (dE Φ e ρ).bind fun o ρ1 => match sealE ρ1 o with
      | some (d, ρ2) => (dD Φ r ρ2).bind fun ds ρ3 => .ok (d :: ds) ρ3
      | none => .bad
/-- handed over -/
def dL (Φ : Fn) : IL → En → Rs (List Op)
  | .nil => fun ρ => .ok [] ρ
  | .cons e r => fun ρ => (dE Φ e ρ).bind fun o ρ1 => (dL Φ r ρ1).bind fun os ρ2 => .ok (o :: os) ρ2
def dO (Φ : Fn) : IO → En → Rs (Option Int)
  | .none => fun ρ => .ok none ρ
  | .some e => fun ρ => (dE Φ e ρ).bind fun o ρ1 => rd1 ρ1 o fun x => match x with
      | .int i => .ok (some i) ρ1
      | _ => .bad
/-- what is walked -/
def dI (Φ : Fn) : II → En → Rs (List D)
  | .seq e => fun ρ => (dE Φ e ρ).bind fun o ρ1 => match sealE ρ1 o with
      | some (.list xs, ρ2) => .ok xs ρ2
      | some (.tuple xs, ρ2) => .ok xs ρ2
      | _ => .bad
  | .range1 a => fun ρ => (dE Φ a ρ).bind fun o ρ1 => rd1 ρ1 o fun x => match x with
      | .int n => if -(2 ^ 62) ≤ n ∧ n ≤ 16777216 then .ok ((List.range n.toNat).map fun (k : Nat) => .int (k : Int)) ρ1 else .bad
      | _ => .bad
  | .range2 a b => fun ρ => (dE Φ a ρ).bind fun oa ρ1 => (dE Φ b ρ1).bind fun ob ρ2 => rd1 ρ2 oa fun x => rd1 ρ2 ob fun y => match x, y with
      | .int lo, .int hi => if (-(2 ^ 62) ≤ lo ∧ lo < 2 ^ 62) ∧ (-(2 ^ 62) ≤ hi ∧ hi < 2 ^ 62) ∧ hi - lo ≤ 16777216 then .ok ((List.range (hi - lo).toNat).map fun (k : Nat) => .int (lo + k)) ρ2 else .bad
      | _, _ => .bad
  | .enum e => fun ρ => (dE Φ e ρ).bind fun o ρ1 => match sealE ρ1 o with
      | some (.list xs, ρ2) => .ok (xs.zipIdx.map fun p => .tuple [.int p.2, p.1]) ρ2
      | some (.tuple xs, ρ2) => .ok (xs.zipIdx.map fun p => .tuple [.int p.2, p.1]) ρ2
      | _ => .bad
end
mutual
def dS (Φ : Fn) (P : List Nat) : IS → En → SR
  | .expr e => fun ρ => (dE Φ e ρ).stm fun _ ρ1 => .nx ρ1
  | .asg tg e => fun ρ => (dE Φ e ρ).stm fun o ρ1 => match give ρ1 o with
      | some (d, own, ρ2) => match setTg P tg d own ρ2 with
        | some ρ3 => .nx ρ3
        | none => .bad
      | none => .bad
  | .par is es => fun ρ => if (is.any fun i => P.contains i) = true then .bad else (dL Φ es ρ).stm fun os ρ1 => match giveAll ρ1 os with
      | some (xs, ρ2) => if xs.length = is.length then .nx (setL ρ2 is xs) else .bad
      | none => .bad
  | .setix i k v => fun ρ => (dE Φ v ρ).stm fun ov ρ1 => match sealE ρ1 ov with
      | none => .bad
      | some (d, ρ2) => match ρ2[i]? with
        | some (some _) => (dE Φ k ρ2).stm fun ok ρ3 => match deref ρ3 ok, ρ3[i]? with
          | some (kd, _), some (some (x, true)) => match setF x kd d with
            | some x' => .nx (ρ3.set i (some (x', true)))
            | none => .bad
          | _, _ => .bad
        | _ => .bad
  | .aug i op e => fun ρ => if P.contains i = true then .bad else match ρ[i]? with
      | some (some (.int x, false)) => (dE Φ e ρ).stm fun o ρ1 => match deref ρ1 o with
        | some (.int y, _) => match augF op x y with
          | some z => .nx (ρ1.set i (some (.int z, false)))
          | none => .bad
        | _ => .bad
      | _ => .bad
  | .iff c a b => fun ρ => (dT Φ c ρ).stm fun k ρ1 => if k = true then dB Φ P a ρ1 else dB Φ P b ρ1
  | .for_ tg it b => fun ρ => (dI Φ it ρ).stm fun xs ρ1 => forL P tg (dB Φ P b) xs ρ1
  | .while_ c b => fun ρ => whileL (dT Φ c) (dB Φ P b) bigFuel ρ
  | .ret e => fun ρ => (dE Φ e ρ).stm fun o ρ1 => match moveOut ρ1 o with
      | some (d, own, ρ2) => .rt d own ρ2
      | none => .bad
  | .retN => fun ρ => .rt .none false ρ
  | .pass => fun ρ => .nx ρ
  | .brk => fun ρ => .bk ρ
  | .cont => fun ρ => .ct ρ
  | .raise_ c e => fun ρ => (dE Φ e ρ).stm fun o ρ1 => match sealE ρ1 o with
      | some (d, ρ2) => .ex c d ρ2
      | none => .bad
  | .try_ b hs => fun ρ => match dB Φ P b ρ with
      | .ex c p ρ1 => dH Φ P hs c p ρ1
      | r => r
def dB (Φ : Fn) (P : List Nat) : IB → En → SR
  | .nil => fun ρ => .nx ρ
  | .cons s r => fun ρ => (dS Φ P s ρ).seq (dB Φ P r)
def dH (Φ : Fn) (P : List Nat) : IH → Nat → D → En → SR
  | .nil => fun c p ρ => .ex c p ρ
  | .cons yes no sl b r => fun c p ρ => if yes.contains c = true then (match sl with
      | none => (dB (exF Φ c p) P b ρ).un none
      | some i => if (P.contains i || decide (ρ.length ≤ i)) = true then .bad else (dB (exF Φ c p) (i :: P) b (ρ.set i none)).un (some i))
    else if no.contains c = true then dH Φ P r c p ρ else .bad
end
/-- a def: how many parameters, how many slots in all, the parameters that are never stored to, the body -/
structure Fd where
  np : Nat
  nn : Nat
  P : List Nat
  body : IB
  lam : Bool := false
def outs (P : List Nat) (np : Nat) (ρ : En) : En := (List.range np).map fun i => if P.contains i = true then ρ[i]?.join else none
def runF (Φ : Fn) (fd : Fd) (xs : List (D × Bool)) : CL :=
  if xs.length = fd.np then match dB Φ fd.P fd.body (xs.map some ++ List.replicate (fd.nn - fd.np) none) with
    | .nx ρ => .ok .none false (outs fd.P fd.np ρ)
    | .rt d own ρ => .ok d own (outs fd.P fd.np ρ)
    | .ex c p ρ => .ex c p (outs fd.P fd.np ρ)
    | _ => .bad
  else .bad
/-- a def that gets a lambda -/
def runT (Φ : Fn) (fd : Fd) (r : CL) : CL := match dB (thF Φ r) fd.P fd.body (List.replicate fd.nn none) with
  | .nx _ => .ok .none false []
  | .rt d own _ => .ok d own []
  | .ex c p _ => .ex c p []
  | _ => .bad
def lamF (tb : Nat → Option Fd) (Φ : Fn) : Fn := fun f xs => if 2000000 ≤ f then match tb (f - 2000000), xs with
    | some fd, [(d, _)] => runT Φ fd (decD d)
    | _, _ => .bad
  else Φ f xs
/-- the defs of a text, called k deep -/
def den (tb : Nat → Option Fd) : Nat → Fn
  | 0 => fun _ _ => .bad
  | k + 1 => fun f xs => match tb f with
    | some fd => runF (if fd.lam = true then lamF tb (den tb k) else den tb k) fd xs
    | none => .bad
end Mv
namespace Mv
open PySem PySem.Spec L2
open PyProof.Rows hiding St
variable [G : Glo]

section
variable {K : PySem.W.Frag} {Z Z' : Zt} {H H' : Hp} {v w : V} {d e : D} {o p : Bool}
theorem has_int {i : Int} (h : Has K Z H v (.int i) o) : v = .int i := by
  cases o with
  | false => cases (h : Sh K Z H v (.int i)); rfl
  | true => obtain ⟨a, _, _, h⟩ := (h : Ow K Z H v _); rcases h with ⟨_, _, e, _⟩ | ⟨_, _, e, _⟩ | ⟨_, _, e, _⟩ <;> cases e
theorem has_str {i : Str} (h : Has K Z H v (.str i) o) : v = .str i := by
  cases o with
  | false => cases (h : Sh K Z H v (.str i)); rfl
  | true => obtain ⟨a, _, _, h⟩ := (h : Ow K Z H v _); rcases h with ⟨_, _, e, _⟩ | ⟨_, _, e, _⟩ | ⟨_, _, e, _⟩ <;> cases e
theorem has_bool {i : Bool} (h : Has K Z H v (.bool i) o) : v = .bl i := by
  cases o with
  | false => cases (h : Sh K Z H v (.bool i)); rfl
  | true => obtain ⟨a, _, _, h⟩ := (h : Ow K Z H v _); rcases h with ⟨_, _, e, _⟩ | ⟨_, _, e, _⟩ | ⟨_, _, e, _⟩ <;> cases e
theorem has_none (h : Has K Z H v .none o) : v = .non := by
  cases o with
  | false => cases (h : Sh K Z H v .none); rfl
  | true => obtain ⟨a, _, _, h⟩ := (h : Ow K Z H v _); rcases h with ⟨_, _, e, _⟩ | ⟨_, _, e, _⟩ | ⟨_, _, e, _⟩ <;> cases e
theorem WrL.sq {a : Addr} {xs : List V} (h : WrL K a xs) : SqL K H a xs := let ⟨its, n, k, z, r⟩ := h; .inr ⟨_, its, n, k, rfl, rfl, rfl, z, r⟩
/-- a list that stands somewhere, its object told -/
def SqX (K : PySem.W.Frag) (H : Hp) (a : Addr) (xs : List V) : Prop := Rd H a (.lst xs) ∨ WrL K a xs
theorem SqX.sq {a : Addr} {xs : List V} (h : SqX K H a xs) : SqL K H a xs := h.elim .inl fun h => h.sq
theorem SqX.obj {X : Cx} {pins : List (Addr × Obj)} {σ : L2.St} {s : Shared} {a : Addr} {xs : List V} (I : Inv X pins σ H s) (h : SqX X.K H a xs) :
    ∃ (its : List Value) (n : Nat), Vals xs its ∧ s.heap.get? a = some { cls := .type "list", data := .seq its.toArray n } := by
  rcases h with h | ⟨its, n, k, z, r⟩
  · obtain ⟨z, its, n, r, e⟩ := h.ok I.hok
    exact ⟨its, n, r, e⟩
  · exact ⟨its.toList, n, r, by simpa using I.kIn a _ k⟩
theorem has_listX {xs : List D} (h : Has K Z H v (.list xs) o) : ∃ a vs, v = .ref a ∧ SqX K H a vs ∧ vs.length ≤ sizeLine ∧ ShL K Z H vs xs := by
  cases o with
  | false =>
    cases (h : Sh K Z H v (.list xs)) with
    | lst z r n l => exact ⟨_, _, rfl, .inl r, n, l⟩
    | lsk w n l => exact ⟨_, _, rfl, .inr w, n, l⟩
  | true =>
    obtain ⟨a, e, _, h⟩ := (h : Ow K Z H v _)
    rcases h with ⟨vs, ds, e1, ha, n, l⟩ | ⟨_, _, e1, _⟩ | ⟨_, _, e1, _⟩
    · cases e1
      exact ⟨a, vs, e, .inl (.inl ha), n, l⟩
    · cases e1
    · cases e1
theorem has_list {xs : List D} (h : Has K Z H v (.list xs) o) : ∃ a vs, v = .ref a ∧ SqL K H a vs ∧ vs.length ≤ sizeLine ∧ ShL K Z H vs xs :=
  let ⟨a, vs, e, s, n, l⟩ := has_listX h; ⟨a, vs, e, s.sq, n, l⟩
theorem has_tupleS {xs : List D} (h : Has K Z H v (.tuple xs) o) : ∃ a vs, v = .ref a ∧ TupX H a vs ∧ vs.length ≤ sizeLine ∧ ShL K Z H vs xs := by
  cases o with
  | false =>
    cases (h : Sh K Z H v (.tuple xs)) with
    | tup t n l => exact ⟨_, _, rfl, t, n, l⟩
  | true => obtain ⟨a, _, _, h⟩ := (h : Ow K Z H v _); rcases h with ⟨_, _, e, _⟩ | ⟨_, _, e, _⟩ | ⟨_, _, e, _⟩ <;> cases e
theorem has_tuple {xs : List D} (h : Has K Z H v (.tuple xs) o) : ∃ a vs, v = .ref a ∧ SqT K H a vs ∧ vs.length ≤ sizeLine ∧ ShL K Z H vs xs :=
  let ⟨a, vs, e, s, n, l⟩ := has_tupleS h; ⟨a, vs, e, s.sq, n, l⟩
mutual
theorem Sh.dp : ∀ {d : D} {v : V}, d.hasDict = false → Sh K Z H v d → Dp K H v d
  | .none, _, _, h => by cases h; exact .non
  | .bool b, _, _, h => by cases h; exact .bl b
  | .int i, _, _, h => by cases h; exact .int i
  | .str x, _, _, h => by cases h; exact .str x
  | .list ds, _, n, h => by
    simp only [PyData.hasDict] at n
    cases h with
    | lst z r k l => exact .lst (.inl r) (ShL.dp n l)
    | lsk w k l => exact .lst w.sq (ShL.dp n l)
  | .tuple ds, _, n, h => by
    simp only [PyData.hasDict] at n
    cases h with
    | tup t k l => exact .tup t.sq (ShL.dp n l)
  | .dict _, _, n, _ => by simp only [PyData.hasDict] at n; cases n
theorem ShL.dp : ∀ {ds : List D} {vs : List V}, PyData.hasDictAll ds = false → ShL K Z H vs ds → DpAll K H vs ds
  | [], _, _, h => by cases h; exact .nil
  | d :: ds, _, n, h => by
    simp only [PyData.hasDictAll, Bool.or_eq_false_iff] at n
    cases h with
    | cons x l => exact .cons (Sh.dp n.1 x) (ShL.dp n.2 l)
end
theorem Has.dp (n : d.hasDict = false) (h : Has K Z H v d o) : Dp K H v d := by
  cases o with
  | false => exact Sh.dp n h
  | true =>
    obtain ⟨a, e, _, h⟩ := (h : Ow K Z H v _)
    rcases h with ⟨vs, ds, e1, ha, _, l⟩ | ⟨_, _, e1, _⟩ | ⟨_, _, e1, _⟩
    · subst e1 e
      simp only [PyData.hasDict] at n
      exact .lst (.inl (.inl ha)) (ShL.dp n l)
    · subst e1
      simp only [PyData.hasDict] at n; cases n
    · subst e1
      simp only [PyData.hasDict] at n; cases n
theorem noDict_shaped (h : SeqAt.shaped d = true) : d.hasDict = false := PyData.hasDict_of_canLay d (SeqAt.canLay_of_shaped h)
end

section
variable {X : Cx}
/-- nothing -/
def rNo : R2 := fun _ _ _ _ => False
theorem op_no {f : Value → Value → Sem Value} : OpR X f rNo := fun _ _ _ _ _ _ _ _ _ _ _ _ h => h.elim
/-- two lists, however they stand -/
def rCatL (K : PySem.W.Frag) : R2 := fun x y H Q => ∃ l b xs zs, x = .ref l ∧ y = .ref b ∧ SqL K H l xs ∧ SqL K H b zs ∧ xs.length + zs.length ≤ sizeLine ∧ ∀ p, H p = none → Q (.ref p) (upd H p (.lst (xs ++ zs)))
theorem op_catL : OpR X (binaryOp .Add) (rCatL X.K) := by
  intro pins s σ H x y v u Q I rx ry h
  obtain ⟨l, b, xs, zs, rfl, rfl, hH, hB, hz, q⟩ := h
  cases rx
  cases ry
  obtain ⟨its, r, ⟨o, n, e, c, _, sq⟩, z⟩ := I.list hH
  obtain ⟨its2, r2, ⟨o2, n2, e2, c2, _, sq2⟩, z2⟩ := I.list hB
  have hl := r.length
  have hl2 := r2.length
  obtain ⟨cls, dd, data, sl⟩ := o
  obtain ⟨cls2, dd2, data2, sl2⟩ := o2
  simp only at c sq c2 sq2
  subst c sq c2 sq2
  have ea : its.toArray ++ its2.toArray = (its ++ its2).toArray := by simp
  refine concat_meets ⟨_, e, rfl⟩ ⟨_, e2, rfl⟩ noFill_list_add seq_list_add PySem.F.slot_list_add PySem.F.entry_list_add (PySem.F.args_list_add_2 _ _) (list_addW l b its.toArray its2.toArray n n2 dd dd2 sl sl2 (by rw [List.size_toArray, List.size_toArray]; omega)) ⟨e, e2, ?_⟩
  rw [ea]
  exact ⟨.ref _, _, I.lnew (t' := s.toks) (r.append r2) (by rw [List.length_append]; omega), rfl, q _ I.fresh⟩
def rAddA (K : PySem.W.Frag) : R2 := fun x y H Q => (rI0 fun i j => .int (i + j)) x y H Q ∨ rCatL K x y H Q ∨ rCatX K x y H Q
theorem op_addA : OpR X (binaryOp .Add) (rAddA X.K) := op_add.or (op_catL.or op_catX)
def rBin (K : PySem.W.Frag) : Operator → R2
  | .Add => rAddA K
  | .Sub => rI0 fun i j => .int (i - j)
  | .Mult => rI CMul fun i j => .int (i * j)
  | .FloorDiv => rI CDivW fun i j => .int (i / j)
  | .Mod => rI (fun _ j => 0 < j) fun i j => .int (i % j)
  | .Pow => rI CPow fun i j => .int (i ^ j.toNat)
  | _ => rNo
theorem op_bin (op : Operator) : OpR X (binaryOp op) (rBin X.K op) := by
  match op with
  | .Add => exact op_addA
  | .Sub => exact op_sub
  | .Mult => exact op_mul
  | .FloorDiv => exact op_fdivW
  | .Mod => exact op_mod
  | .Pow => exact op_pow
  | .MatMult | .Div | .LShift | .RShift | .BitOr | .BitXor | .BitAnd => exact op_no
theorem CMul_of {i j : Int} (h : mulOk i j = true) : CMul i j := by
  simp only [mulOk, Bool.or_eq_true, Bool.and_eq_true, decide_eq_true_eq] at h
  exact h
theorem good_int {K : PySem.W.Frag} {g : Int → Int → Int} : ∀ {f : D → D → Option (D × Bool)}, (∀ x y z, f x y = some z → ∃ i j, x = .int i ∧ y = .int j ∧ z = (.int (g i j), false)) → Good2 K (rI0 fun i j => .int (g i j)) f := by
  intro f hf Z H v w x y ox oy z own Q _ hv hw e q
  obtain ⟨i, j, rfl, rfl, e1⟩ := hf x y _ e
  cases e1
  cases has_int hv
  cases has_int hw
  exact ⟨i, j, rfl, rfl, q _ _ (Gv.same (.int _))⟩
theorem good_intC {K : PySem.W.Frag} {g : Int → Int → Int} {C : Int → Int → Prop} : ∀ {f : D → D → Option (D × Bool)}, (∀ x y z, f x y = some z → ∃ i j, x = .int i ∧ y = .int j ∧ C i j ∧ z = (.int (g i j), false)) → Good2 K (rI C fun i j => .int (g i j)) f := by
  intro f hf Z H v w x y ox oy z own Q _ hv hw e q
  obtain ⟨i, j, rfl, rfl, c, e1⟩ := hf x y _ e
  cases e1
  cases has_int hv
  cases has_int hw
  exact ⟨i, j, rfl, rfl, c, q _ _ (Gv.same (.int _))⟩
theorem good_no {K : PySem.W.Frag} : Good2 K rNo fun _ _ => none := by
  intro Z H v w x y ox oy z own Q _ hv hw e q
  cases e
theorem ShL.nil_iff {K : PySem.W.Frag} {Z : Zt} {H : Hp} {vs : List V} {ds : List D} (h : ShL K Z H vs ds) : vs = [] ↔ ds = [] := by
  cases h <;> simp
theorem good_add {K : PySem.W.Frag} : Good2 K (rAddA K) addF := by
  intro Z H v w x y ox oy z own Q fr hv hw e q
  unfold addF at e
  split at e
  · cases e
    cases has_int hv
    cases has_int hw
    exact .inl ⟨_, _, rfl, rfl, q _ _ (Gv.same (.int _))⟩
  · split at e
    · rename_i a b hz
      cases e
      obtain ⟨l, vs, rfl, h1, n1, l1⟩ := has_list hv
      obtain ⟨l', ws, rfl, h2, n2, l2⟩ := has_list hw
      refine .inr (.inl ⟨l, l', vs, ws, rfl, rfl, h1, h2, by rw [l1.length, l2.length]; exact hz, fun p hp => q _ _ (Gv.lst (fr p hp) hp ?_ (l1.append l2))⟩)
      rw [List.length_append, l1.length, l2.length]; exact hz
    · cases e
  · split at e
    · rename_i a b hz
      cases e
      obtain ⟨l, vs, rfl, h1, n1, l1⟩ := has_tupleS hv
      obtain ⟨l', ws, rfl, h2, n2, l2⟩ := has_tupleS hw
      refine .inr (.inr ⟨l, l', vs, ws, rfl, rfl, h1.sq, h2.sq, by rw [l1.length, l2.length]; exact hz, fun e => ?_, fun _ e => ?_, fun _ _ p us hp => q _ _ (Gv.tup hp ?_ (l1.append l2))⟩)
      · have g := q (.ref l') H
        rw [(l1.nil_iff).mp e, List.nil_append] at g
        exact g (Gv.same (.tup h2 n2 l2))
      · have g := q (.ref l) H
        rw [(l2.nil_iff).mp e, List.append_nil] at g
        exact g (Gv.same (.tup h1 n1 l1))
      · rw [List.length_append, l1.length, l2.length]; exact hz
    · cases e
  · cases e
theorem log2_200 {i j : Int} (h0 : 0 < j) (h : j < 2 ^ 200) : CDivW i j := by
  refine ⟨h0, ?_⟩
  have h1 : j.natAbs < 2 ^ 200 := by omega
  exact Nat.lt_of_lt_of_le ((Nat.log2_lt (by omega)).mpr h1) (by decide)
theorem good_bin {K : PySem.W.Frag} (op : Operator) : Good2 K (rBin K op) (binF op) := by
  cases op
  case Add => exact good_add
  case Sub =>
    refine good_int fun x y z e => ?_
    simp only [binF, subF] at e
    split at e <;> cases e
    exact ⟨_, _, rfl, rfl, rfl⟩
  case Mult =>
    refine good_intC fun x y z e => ?_
    simp only [binF, mulF] at e
    split at e
    · split at e
      · cases e
        exact ⟨_, _, rfl, rfl, CMul_of (by assumption), rfl⟩
      · cases e
    · cases e
  case FloorDiv =>
    refine good_intC fun x y z e => ?_
    simp only [binF, divF] at e
    split at e
    · split at e
      · rename_i h
        cases e
        exact ⟨_, _, rfl, rfl, log2_200 h.1 h.2, rfl⟩
      · cases e
    · cases e
  case Mod =>
    refine good_intC fun x y z e => ?_
    simp only [binF, modF] at e
    split at e
    · split at e
      · cases e
        exact ⟨_, _, rfl, rfl, (by assumption), rfl⟩
      · cases e
    · cases e
  case Pow =>
    refine good_intC fun x y z e => ?_
    simp only [binF, powF] at e
    split at e
    · split at e
      · cases e
        exact ⟨_, _, rfl, rfl, (by assumption), rfl⟩
      · cases e
    · cases e
  all_goals exact good_no

section
variable {K : PySem.W.Frag} {Z Z' : Zt} {H H' : Hp} {v w u : V} {d kd : D} {o ok : Bool}
theorem dkey_kD (k : Key) : dkey (kD k) = some k := by cases k <;> rfl
theorem dkeys_kD : ∀ ks : List Key, dkeys (ks.map kD) = some ks
  | [] => rfl
  | k :: ks => by simp only [List.map_cons, dkeys, dkey_kD, dkeys_kD ks]
theorem tkey_ktD (ks : List Key) : tkey (ktD ks) = some ks := dkeys_kD ks
theorem ShK.val : ∀ {kvs : List (Key × V)} {es : List (D × D)} (h : ShK K Z H kvs es) (k : Key), (∃ d u, valE dkey es k = some d ∧ valV kvs k = some u ∧ Sh K Z H u d) ∨ (valE dkey es k = none ∧ valV kvs k = none)
  | _, _, .nil, _ => .inr ⟨rfl, rfl⟩
  | (j, v) :: kvs, (_, d) :: es, .cons s l, k => by
    by_cases e : j = k
    · exact .inl ⟨d, v, by simp [valE, List.find?_cons, dkey_kD, e], valV_pos e, s⟩
    · have h1 : valE dkey ((kD j, d) :: es) k = valE dkey es k := by simp [valE, List.find?_cons, dkey_kD, e]
      have h2 : valV ((j, v) :: kvs) k = valV kvs k := valV_neg e
      rw [h1, h2]
      exact ShK.val l k
theorem ShT.val : ∀ {kvs : List (List Key × V)} {es : List (D × D)} (h : ShT K Z H kvs es) (k : List Key), (∃ d u, valE tkey es k = some d ∧ valV kvs k = some u ∧ Sh K Z H u d) ∨ (valE tkey es k = none ∧ valV kvs k = none)
  | _, _, .nil, _ => .inr ⟨rfl, rfl⟩
  | (j, v) :: kvs, (_, d) :: es, .cons s l, k => by
    by_cases e : j = k
    · exact .inl ⟨d, v, by simp [valE, List.find?_cons, tkey_ktD, e], valV_pos e, s⟩
    · have h1 : valE tkey ((ktD j, d) :: es) k = valE tkey es k := by simp [valE, List.find?_cons, tkey_ktD, e]
      have h2 : valV ((j, v) :: kvs) k = valV kvs k := valV_neg e
      rw [h1, h2]
      exact ShT.val l k
theorem dict_cases {es : List (D × D)} (h : Has K Z H v (.dict es) o) : ∃ a, v = .ref a ∧ ((∃ kvs, H a = some (.dK kvs) ∧ ShK K Z H kvs es) ∨ ∃ kvs es', es = (.none, .none) :: es' ∧ H a = some (.dT kvs) ∧ ShT K Z H kvs es') := by
  cases o with
  | false =>
    cases (h : Sh K Z H v (.dict es)) with
    | dK z r l => exact ⟨_, rfl, .inl ⟨_, r, l⟩⟩
    | dT z r l => exact ⟨_, rfl, .inr ⟨_, _, rfl, r, l⟩⟩
  | true =>
    obtain ⟨a, e, _, h⟩ := (h : Ow K Z H v _)
    rcases h with ⟨_, _, e1, _⟩ | ⟨kvs, es', e1, ha, l⟩ | ⟨kvs, es', e1, ha, l⟩ <;> cases e1
    · exact ⟨a, e, .inl ⟨kvs, ha, l⟩⟩
    · exact ⟨a, e, .inr ⟨kvs, es', rfl, ha, l⟩⟩
theorem getF_dK {kvs : List (Key × V)} {es : List (D × D)} (h : ShK K Z H kvs es) : getF (.dict es) kd = (dkey kd).map fun kk => valE dkey es kk := by
  cases h with
  | nil => rfl
  | @cons k _ _ _ _ _ _ => cases k <;> rfl
theorem key_v {k : Key} (h : Has K Z H w kd ok) (e : dkey kd = some k) : w = kV k := by
  unfold dkey at e
  split at e <;> cases e
  · exact has_int h
  · exact has_str h
theorem keys_v : ∀ {ds : List D} {ws : List V} {ks : List Key}, ShL K Z H ws ds → dkeys ds = some ks → ws = ks.map kV
  | [], _, _, h, e => by cases h; simp only [dkeys] at e; cases e; rfl
  | d :: ds, _, ks, h, e => by
    cases h with
    | cons r t =>
      simp only [dkeys] at e
      split at e
      · rename_i k ks' e1 e2
        cases e
        have r' : Has K Z H _ d false := r
        rw [List.map_cons, key_v r' e1, keys_v t e2]
      · cases e
/-- what a dict has -/
theorem dict_get {es : List (D × D)} {r : Option D} (h : Has K Z H v (.dict es) o) (hk : Has K Z H w kd ok) (g : getF (.dict es) kd = some r) :
    ∃ a ov, v = .ref a ∧ DGet H a w ov ∧ ((∃ d u, r = some d ∧ ov = some u ∧ Sh K Z H u d) ∨ (r = none ∧ ov = none)) := by
  obtain ⟨a, ea, hc⟩ := dict_cases h
  subst ea
  refine ⟨a, ?_⟩
  rcases hc with ⟨kvs, ha, l⟩ | ⟨kvs, es', rfl, ha, l⟩
  · rw [getF_dK l] at g
    cases e : dkey kd with
    | none => rw [e] at g; cases g
    | some k =>
      rw [e] at g
      have g : valE dkey es k = r := Option.some.inj g
      cases key_v hk e
      refine ⟨valV kvs k, rfl, DGet.k ha, ?_⟩
      rcases l.val k with ⟨d, u, h1, h2, h3⟩ | ⟨h1, h2⟩
      · exact .inl ⟨d, u, by rw [← g, h1], h2, h3⟩
      · exact .inr ⟨by rw [← g, h1], h2⟩
  · cases g
end

def rEqA (K : PySem.W.Frag) : R2 := fun x y H Q => rEq x y H Q ∨ rEqD K x y H Q
def rNeA (K : PySem.W.Frag) : R2 := fun x y H Q => rNe x y H Q ∨ rNeD K x y H Q
/-- x in: a list or tuple of data, a dict -/
def rInA (K : PySem.W.Frag) (neg : Bool) : R2 := fun x y H Q =>
  (∃ d c ds, (c = PyData.list ds ∨ c = PyData.tuple ds) ∧ Dp K H x d ∧ Dp K H y c ∧ SeqAt.shaped d = true ∧ SeqAt.shaped c = true ∧ Q (.bl ((ds.any fun z => PyData.eqv z d) != neg)) H) ∨
    ∃ a o, y = .ref a ∧ DGet H a x o ∧ Q (.bl (o.isSome != neg)) H
theorem xor_f (b : Bool) : (b != false) = b := by cases b <;> rfl
theorem xor_t (b : Bool) : (b != true) = !b := by cases b <;> rfl
theorem op_inA (hu : X.A.units + 65 < cLine) : OpR X (compareOp .In) (rInA X.K false) := by
  intro pins s σ H x y v u Q I rx ry h
  rcases h with ⟨d, c, ds, hc, hd, he, sd, se, q⟩ | ⟨a, o, ey, g, q⟩
  · obtain ⟨as, r1⟩ := Dp.reads I d x v hd rx
    rw [xor_f] at q
    rcases hc with rfl | rfl
    · obtain ⟨bs, r2⟩ := Dp.reads I (.list ds) y u he ry
      exact SeqAt.in_list_reads r2 r1 (SeqAt.canLay_of_shaped se) (SeqAt.canLay_of_shaped sd) (room_in_shaped sd hu) ⟨.bl _, H, I, rfl, q⟩
    · obtain ⟨bs, r2⟩ := Dp.reads I (.tuple ds) y u he ry
      exact SeqAt.in_tuple_reads r2 r1 (SeqAt.canLay_of_shaped se) (SeqAt.canLay_of_shaped sd) (room_in_shaped sd hu) ⟨.bl _, H, I, rfl, q⟩
  · subst ey
    cases (show u = Value.ref a from ry)
    rw [xor_f] at q
    exact d_in (by omega) I g rx fun s' I' => ⟨.bl _, H, I', rfl, q⟩
theorem op_notInA (hu : X.A.units + 65 < cLine) : OpR X (compareOp .NotIn) (rInA X.K true) := by
  intro pins s σ H x y v u Q I rx ry h
  rcases h with ⟨d, c, ds, hc, hd, he, sd, se, q⟩ | ⟨a, o, ey, g, q⟩
  · obtain ⟨as, r1⟩ := Dp.reads I d x v hd rx
    rw [xor_t] at q
    rcases hc with rfl | rfl
    · obtain ⟨bs, r2⟩ := Dp.reads I (.list ds) y u he ry
      exact SeqAt.notIn_list_reads r2 r1 (SeqAt.canLay_of_shaped se) (SeqAt.canLay_of_shaped sd) (room_in_shaped sd hu) ⟨.bl _, H, I, rfl, q⟩
    · obtain ⟨bs, r2⟩ := Dp.reads I (.tuple ds) y u he ry
      exact SeqAt.notIn_tuple_reads r2 r1 (SeqAt.canLay_of_shaped se) (SeqAt.canLay_of_shaped sd) (room_in_shaped sd hu) ⟨.bl _, H, I, rfl, q⟩
  · subst ey
    cases (show u = Value.ref a from ry)
    rw [xor_t] at q
    exact d_notIn (by omega) I g rx fun s' I' => ⟨.bl _, H, I', rfl, q⟩
/-- x is True, x is False, whatever x is -/
def rIsTB : R2 := fun x y H Q => ∃ b : Bool, y = .bl b ∧ Q (.bl (decide (x = .bl b))) H
def rNotTB : R2 := fun x y H Q => ∃ b : Bool, y = .bl b ∧ Q (.bl (!decide (x = .bl b))) H
theorem op_isTB : OpR X (compareOp .Is) rIsTB := by
  intro pins s σ H x y v u Q I rx ry h
  obtain ⟨b, ey, q⟩ := h
  subst ey
  cases x with
  | bl a => exact op_isBl pins s σ H (.bl a) (.bl b) v u Q I rx ry ⟨a, b, rfl, rfl, by simpa using q⟩
  | non =>
    cases (show v = Value.none from rx)
    cases (show u = Value.bool b from ry)
    exact wpAny_is_other rfl (fun z => nomatch z) ⟨.bl false, H, I, rfl, by simpa using q⟩
  | int i =>
    obtain ⟨t, rfl⟩ := rx
    cases (show u = Value.bool b from ry)
    exact wpAny_is_other rfl (fun z => nomatch z) ⟨.bl false, H, I, rfl, by simpa using q⟩
  | str i =>
    obtain ⟨t, rfl⟩ := rx
    cases (show u = Value.bool b from ry)
    exact wpAny_is_other rfl (fun z => nomatch z) ⟨.bl false, H, I, rfl, by simpa using q⟩
  | ref a =>
    cases (show v = Value.ref a from rx)
    cases (show u = Value.bool b from ry)
    exact wpAny_is_other rfl (fun z => nomatch z) ⟨.bl false, H, I, rfl, by simpa using q⟩
  | byt i =>
    obtain ⟨t, rfl⟩ := rx
    cases (show u = Value.bool b from ry)
    exact wpAny_is_other rfl (fun z => nomatch z) ⟨.bl false, H, I, rfl, by simpa using q⟩
  | flt i =>
    obtain ⟨t, rfl⟩ := rx
    cases (show u = Value.bool b from ry)
    exact wpAny_is_other rfl (fun z => nomatch z) ⟨.bl false, H, I, rfl, by simpa using q⟩
  | ty a =>
    cases (show v = Value.type a from rx)
    cases (show u = Value.bool b from ry)
    exact wpAny_is_other rfl (fun z => nomatch z) ⟨.bl false, H, I, rfl, by simpa using q⟩
theorem op_notTB : OpR X (compareOp .IsNot) rNotTB := by
  intro pins s σ H x y v u Q I rx ry h
  obtain ⟨b, ey, q⟩ := h
  subst ey
  cases x with
  | bl a => exact op_notBl pins s σ H (.bl a) (.bl b) v u Q I rx ry ⟨a, b, rfl, rfl, by simpa using q⟩
  | non =>
    cases (show v = Value.none from rx)
    cases (show u = Value.bool b from ry)
    exact wpAny_isNot_other rfl (fun z => nomatch z) ⟨.bl true, H, I, rfl, by simpa using q⟩
  | int i =>
    obtain ⟨t, rfl⟩ := rx
    cases (show u = Value.bool b from ry)
    exact wpAny_isNot_other rfl (fun z => nomatch z) ⟨.bl true, H, I, rfl, by simpa using q⟩
  | str i =>
    obtain ⟨t, rfl⟩ := rx
    cases (show u = Value.bool b from ry)
    exact wpAny_isNot_other rfl (fun z => nomatch z) ⟨.bl true, H, I, rfl, by simpa using q⟩
  | ref a =>
    cases (show v = Value.ref a from rx)
    cases (show u = Value.bool b from ry)
    exact wpAny_isNot_other rfl (fun z => nomatch z) ⟨.bl true, H, I, rfl, by simpa using q⟩
  | byt i =>
    obtain ⟨t, rfl⟩ := rx
    cases (show u = Value.bool b from ry)
    exact wpAny_isNot_other rfl (fun z => nomatch z) ⟨.bl true, H, I, rfl, by simpa using q⟩
  | flt i =>
    obtain ⟨t, rfl⟩ := rx
    cases (show u = Value.bool b from ry)
    exact wpAny_isNot_other rfl (fun z => nomatch z) ⟨.bl true, H, I, rfl, by simpa using q⟩
  | ty a =>
    cases (show v = Value.type a from rx)
    cases (show u = Value.bool b from ry)
    exact wpAny_isNot_other rfl (fun z => nomatch z) ⟨.bl true, H, I, rfl, by simpa using q⟩
def rCmp (K : PySem.W.Frag) : CmpOp → R2
  | .Eq => rEqA K
  | .NotEq => rNeA K
  | .Lt => rI0 fun i j => .bl (decide (i < j))
  | .LtE => rI0 fun i j => .bl (decide (i ≤ j))
  | .Gt => rI0 fun i j => .bl (decide (j < i))
  | .GtE => rI0 fun i j => .bl (decide (j ≤ i))
  | .Is => fun x y H Q => (y = .non ∧ Q (.bl (decide (x = .non))) H) ∨ rIsTB x y H Q
  | .IsNot => fun x y H Q => (y = .non ∧ Q (.bl (!decide (x = .non))) H) ∨ rNotTB x y H Q
  | .In => rInA K false
  | .NotIn => rInA K true
theorem op_cmp (hu : X.A.units + 70 < cLine) (op : CmpOp) : OpR X (compareOp op) (rCmp X.K op) := by
  match op with
  | .Eq => exact op_eq.or (op_eqD (by omega))
  | .NotEq => exact op_ne.or (op_neD (by omega))
  | .Lt => exact op_lt
  | .LtE => exact op_le
  | .Gt => exact op_gt
  | .GtE => exact op_ge
  | .Is => exact op_isN.or op_isTB
  | .IsNot => exact op_notN.or op_notTB
  | .In => exact op_inA (by omega)
  | .NotIn => exact op_notInA (by omega)
theorem good_ord {K : PySem.W.Frag} {p : Int → Int → Bool} : Good2 K (rI0 fun i j => .bl (p i j)) (ordF p) := by
  intro Z H v w x y ox oy z own Q _ hv hw e q
  unfold ordF at e
  split at e
  · cases e
    cases has_int hv
    cases has_int hw
    exact ⟨_, _, rfl, rfl, q _ _ (Gv.same (.bl _))⟩
  · cases e
theorem has_non_iff {K : PySem.W.Frag} {Z : Zt} {H : Hp} {v : V} {d : D} {o : Bool} (h : Has K Z H v d o) : decide (v = .non) = isNone d := by
  cases o with
  | false => cases (h : Sh K Z H v d) <;> rfl
  | true =>
    obtain ⟨a, e, _, h⟩ := (h : Ow K Z H v _)
    subst e
    rcases h with ⟨_, _, e, _⟩ | ⟨_, _, e, _⟩ | ⟨_, _, e, _⟩ <;> (subst e; rfl)
theorem has_bl_iff {K : PySem.W.Frag} {Z : Zt} {H : Hp} {v : V} {d : D} {o b : Bool} (h : Has K Z H v d o) : decide (v = .bl b) = isBl b d := by
  cases o with
  | false => cases (h : Sh K Z H v d) <;> simp [isBl]
  | true =>
    obtain ⟨a, e, _, h⟩ := (h : Ow K Z H v _)
    subst e
    rcases h with ⟨_, _, e, _⟩ | ⟨_, _, e, _⟩ | ⟨_, _, e, _⟩ <;> (subst e; rfl)
theorem good_eq {K : PySem.W.Frag} : Good2 K (rEqA K) eqF := by
  intro Z H v w x y ox oy z own Q fr hv hw e q
  unfold eqF at e
  split at e
  · cases e
    cases has_int hv
    cases has_int hw
    refine .inl ⟨rfl, ?_⟩
    simp only [V.int.injEq]
    exact q _ _ (Gv.same (.bl _))
  · cases e
    cases has_str hv
    cases has_str hw
    refine .inl ⟨rfl, ?_⟩
    simp only [V.str.injEq]
    exact q _ _ (Gv.same (.bl _))
  · split at e
    · rename_i h
      cases e
      exact .inr ⟨x, y, hv.dp (noDict_shaped h.1), hw.dp (noDict_shaped h.2), h.1, h.2, q _ _ (Gv.same (.bl _))⟩
    · cases e
theorem good_ne {K : PySem.W.Frag} : Good2 K (rNeA K) neF := by
  intro Z H v w x y ox oy z own Q fr hv hw e q
  unfold neF at e
  split at e
  · cases e
    cases has_int hv
    cases has_int hw
    refine .inl ⟨rfl, ?_⟩
    simp only [V.int.injEq]
    exact q _ _ (Gv.same (.bl _))
  · cases e
    cases has_str hv
    cases has_str hw
    refine .inl ⟨rfl, ?_⟩
    simp only [V.str.injEq]
    exact q _ _ (Gv.same (.bl _))
  · split at e
    · rename_i h
      cases e
      exact .inr ⟨x, y, hv.dp (noDict_shaped h.1), hw.dp (noDict_shaped h.2), h.1, h.2, q _ _ (Gv.same (.bl _))⟩
    · cases e
theorem good_in {K : PySem.W.Frag} {neg : Bool} : Good2 K (rInA K neg) (inF neg) := by
  intro Z H v w x y ox oy z own Q fr hv hw e q
  unfold inF at e
  split at e
  · split at e
    · rename_i c
      cases e
      exact .inl ⟨_, _, _, .inl rfl, hv.dp (noDict_shaped c.1), hw.dp (noDict_shaped c.2), c.1, c.2, q _ _ (Gv.same (.bl _))⟩
    · cases e
  · split at e
    · rename_i c
      cases e
      exact .inl ⟨_, _, _, .inr rfl, hv.dp (noDict_shaped c.1), hw.dp (noDict_shaped c.2), c.1, c.2, q _ _ (Gv.same (.bl _))⟩
    · cases e
  · rename_i es
    cases e1 : getF (.dict es) x with
    | none => rw [e1] at e; cases e
    | some r =>
      rw [e1] at e
      cases e
      obtain ⟨a, ov, ea, g, c⟩ := dict_get hw hv e1
      refine .inr ⟨a, ov, ea, g, ?_⟩
      have eo : ov.isSome = r.isSome := by
        rcases c with ⟨d, u, rfl, rfl, _⟩ | ⟨rfl, rfl⟩ <;> rfl
      rw [eo]
      exact q _ _ (Gv.same (.bl _))
  · cases e
theorem good_cmp {K : PySem.W.Frag} (op : CmpOp) : Good2 K (rCmp K op) (cmpF op) := by
  cases op
  case Eq => exact good_eq
  case NotEq => exact good_ne
  case Lt => exact good_ord
  case LtE => exact good_ord
  case Gt => exact good_ord
  case GtE => exact good_ord
  case Is =>
    intro Z H v w x y ox oy z own Q fr hv hw e q
    simp only [cmpF, isF] at e
    split at e
    · cases e
      cases has_none hw
      refine .inl ⟨rfl, ?_⟩
      rw [has_non_iff hv]
      simpa using q _ _ (Gv.same (.bl _))
    · cases e
      cases has_bool hw
      refine .inr ⟨_, rfl, ?_⟩
      rw [has_bl_iff hv]
      simpa using q _ _ (Gv.same (.bl _))
    · cases e
  case IsNot =>
    intro Z H v w x y ox oy z own Q fr hv hw e q
    simp only [cmpF, isF] at e
    split at e
    · cases e
      cases has_none hw
      refine .inl ⟨rfl, ?_⟩
      rw [has_non_iff hv]
      simpa using q _ _ (Gv.same (.bl _))
    · cases e
      cases has_bool hw
      refine .inr ⟨_, rfl, ?_⟩
      rw [has_bl_iff hv]
      simpa using q _ _ (Gv.same (.bl _))
    · cases e
  case In => exact good_in
  case NotIn => exact good_in
theorem cmpF_bool {op : CmpOp} {x y z : D} {o : Bool} (h : cmpF op x y = some (z, o)) : ∃ b, z = .bool b := by
  cases op <;> simp only [cmpF] at h
  case Eq => unfold eqF at h; split at h <;> first | (cases h; exact ⟨_, rfl⟩) | (split at h <;> cases h <;> exact ⟨_, rfl⟩)
  case NotEq => unfold neF at h; split at h <;> first | (cases h; exact ⟨_, rfl⟩) | (split at h <;> cases h <;> exact ⟨_, rfl⟩)
  all_goals first
    | (unfold ordF at h; split at h <;> cases h <;> exact ⟨_, rfl⟩)
    | (unfold isF at h; split at h <;> cases h <;> exact ⟨_, rfl⟩)
    | (unfold inF at h
       split at h
       · split at h <;> cases h <;> exact ⟨_, rfl⟩
       · split at h <;> cases h <;> exact ⟨_, rfl⟩
       · rename_i es
         cases e1 : getF (.dict es) x with
         | none => rw [e1] at h; cases h
         | some r => rw [e1] at h; cases h; exact ⟨_, rfl⟩
       · cases h)
end
end Mv
namespace Mv
open PySem PySem.Spec L2
open PyProof.Rows hiding St
variable [G : Glo]

section
variable {K : PySem.W.Frag} {cl : Cl} {W : WX} {Z Z' Z0 Z1 Z2 : Zt} {H H' H0 H1 H2 : Hp} {ρ ρ' ρ0 ρ1 ρ2 : En} {σ σ' : L2.St} {v w : V} {d e : D} {own : Bool} {o : Op}
variable {X : Cx} {a b c : Expr} {pos : Pos} {Φ : Fn}
theorem join_some {i : Nat} {x : D × Bool} (h : ρ[i]?.join = some x) : ρ[i]? = some (some x) := by
  cases e : ρ[i]? with
  | none => rw [e] at h; cases h
  | some y => rw [e] at h; rw [show y = some x from h]
theorem se_var {i : Nat} {x : Str} (hN : X.N[i]? = some x) (hv : Vis X.env.scope x) (hd : (x == ("__debug__" : Str)) = false) (hcd : (x == ("__classdict__" : Str)) = false) : PE X (.Name x pos) (TDE K cl W (dE Φ (.var i))) := by
  refine PE.weak (pe_var hN hv hd hcd) fun σ H Q h => ?_
  obtain ⟨ρ, Z, R, h⟩ := h
  simp only [dE] at h
  split at h
  · rename_i y e
    obtain ⟨v, h1, h2⟩ := R.has i _ _ e
    exact ⟨v, h1, h H Z (Aft.refl R) v h1⟩
  · exact h.elim
/-- a value that is what it is -/
def Flat : D → V → Prop
  | .none, .non => True
  | .bool b, .bl c => b = c
  | .int i, .int j => i = j
  | .str x, .str y => x = y
  | _, _ => False
theorem Flat.sh : ∀ {d : D} {v : V}, Flat d v → Sh K Z H v d
  | .none, .non, _ => .non
  | .bool b, .bl _, h => by cases h; exact .bl b
  | .int b, .int _, h => by cases h; exact .int b
  | .str b, .str _, h => by cases h; exact .str b
  | .none, .bl _, h | .none, .int _, h | .none, .str _, h | .none, .byt _, h | .none, .flt _, h | .none, .ref _, h | .none, .ty _, h => h.elim
  | .bool _, .non, h | .bool _, .int _, h | .bool _, .str _, h | .bool _, .byt _, h | .bool _, .flt _, h | .bool _, .ref _, h | .bool _, .ty _, h => h.elim
  | .int _, .non, h | .int _, .bl _, h | .int _, .str _, h | .int _, .byt _, h | .int _, .flt _, h | .int _, .ref _, h | .int _, .ty _, h => h.elim
  | .str _, .non, h | .str _, .bl _, h | .str _, .int _, h | .str _, .byt _, h | .str _, .flt _, h | .str _, .ref _, h | .str _, .ty _, h => h.elim
  | .list _, _, h | .tuple _, _, h | .dict _, _, h => by cases h
theorem se_lit {e : Expr} (h : PE X e (tC v)) (f : Flat d v) : PE X e (TDE K cl W (dE Φ (.lit d))) := by
  refine PE.weak h fun σ H Q h => ?_
  obtain ⟨ρ, Z, R, h⟩ := h
  simp only [dE] at h
  exact h H Z (Aft.refl R) v ⟨(f.sh : Sh K Z H v d), fun e => nomatch e⟩
def rUn : UnaryOp → V → Hp → VK → Prop
  | .USub => rU fun i => .int (-i)
  | _ => fun _ _ _ => False
theorem un_all (op : UnaryOp) : UnR X (unaryOp op) (rUn op) := by
  cases op <;> first | exact un_neg | exact fun _ _ _ _ _ _ _ _ _ h => h.elim
/-- behind one operand -/
theorem tde_one {α : Type} {m : ME} {f : D → En → Rs α} {k : α → En → Hp → Zt → Prop} (A : Aft K ρ0 σ H0 Z0 ρ σ H Z) (h : Post K cl W ρ0 σ H0 Z0 ((m ρ).bind fun o ρ1 => rd1 ρ1 o fun x => f x ρ1) k) :
    TDE K cl W m σ H (fun v H' => ∃ x ox ρ' Z', Aft K ρ0 σ H0 Z0 ρ' σ H' Z' ∧ Has K Z' H' v x ox ∧ Post K cl W ρ0 σ H0 Z0 (f x ρ') k) := by
  refine TDE.mono (tde_bind A h) fun v H1 ⟨o, ρ1, Z1, A1, B1, hv, h1⟩ => ?_
  unfold rd1 at h1
  cases e : deref ρ1 o with
  | none => rw [e] at h1; exact h1.elim
  | some p =>
    obtain ⟨x, ox⟩ := p
    rw [e] at h1
    exact ⟨x, ox, ρ1, Z1, A1, hv.deref A1.rel e, h1⟩
/-- the end of an operation -/
theorem post_ret {r : Option (D × Bool)} {Q : VK} {z : D} (A : Aft K ρ0 σ H0 Z0 ρ σ H Z) (h : Post K cl W ρ0 σ H0 Z0 (ret1 ρ r) (kE K ρ0 σ H0 Q)) : ∃ z own, r = some (z, own) ∧ ∀ u H', Gv K Z H u z own H' → Q u H' := by
  cases r with
  | none => exact h.elim
  | some p =>
    obtain ⟨z, own⟩ := p
    exact ⟨z, own, rfl, fun u H' g => h H' Z (A.trans (Aft.grow A.rel g.grow)) u (g.val A.rel A)⟩
theorem se_un {op : UnaryOp} {ia : IE} (ha : PE X a (TDE K cl W (dE Φ ia))) : PE X (.UnaryOp op a pos) (TDE K cl W (dE Φ (.un op ia))) := by
  refine PE.weak (pe_un (un_all op) ha) fun σ H Q h => ?_
  obtain ⟨ρ, Z, R, h⟩ := h
  simp only [dE] at h
  refine TDE.mono (tde_one (Aft.refl R) h) fun v H1 ⟨x, ox, ρ1, Z1, A1, hv, h1⟩ => ?_
  obtain ⟨z, own, e, q⟩ := post_ret (z := x) A1 h1
  unfold unF at e
  split at e
  · cases e
    cases has_int hv
    exact ⟨_, rfl, q _ _ (Gv.same (.int _))⟩
  · cases e
theorem se_bin {op : Operator} {ia ib : IE} (ha : PE X a (TDE X.K cl W (dE Φ ia))) (hb : PE X b (TDE X.K cl W (dE Φ ib))) : PE X (.BinOp a op b pos) (TDE X.K cl W (dE Φ (.bin op ia ib))) := by
  have := pe_bin2 (pos := pos) (op_bin op) (good_bin op) ha hb
  simpa only [dE] using this
theorem se_cmp {op : CmpOp} {ia ib : IE} (hu : X.A.units + 70 < cLine) (hm : behindInMarks op b = false) (ha : PE X a (TDE X.K cl W (dE Φ ia))) (hb : PE X b (TDE X.K cl W (dE Φ ib))) : PE X (.Compare a [op] [b] pos) (TDE X.K cl W (dE Φ (.cmp op ia ib))) := by
  have := pe_cmp2 (pos := pos) (op_cmp hu op) (good_cmp op) hm ha hb
  simpa only [dE] using this

theorem se_and {ia ib : IE} {rest : List Expr} (ha : PE X a (TDE K cl W (dE Φ ia))) (hb : PE X (.BoolOp .And (b :: rest) pos) (TDE K cl W (dE Φ ib))) : PE X (.BoolOp .And (a :: b :: rest) pos) (TDE K cl W (dE Φ (.and ia ib))) := by
  refine PE.weak (pe_and ha hb) fun σ H Q h => ?_
  obtain ⟨ρ, Z, R, h⟩ := h
  simp only [dE] at h
  refine TDE.mono (tde_one (Aft.refl R) h) fun v H1 ⟨x, ox, ρ1, Z1, A1, hv, h1⟩ => ?_
  split at h1
  · cases has_bool hv
    exact ⟨true, rfl, tde_last A1 h1⟩
  · cases has_bool hv
    exact ⟨false, rfl, h1 _ _ A1 _ ⟨(.bl false : Sh K Z1 H1 _ _), fun e => nomatch e⟩⟩
  · exact h1.elim
theorem se_or {ia ib : IE} {rest : List Expr} (ha : PE X a (TDE K cl W (dE Φ ia))) (hb : PE X (.BoolOp .Or (b :: rest) pos) (TDE K cl W (dE Φ ib))) : PE X (.BoolOp .Or (a :: b :: rest) pos) (TDE K cl W (dE Φ (.or ia ib))) := by
  refine PE.weak (pe_or ha hb) fun σ H Q h => ?_
  obtain ⟨ρ, Z, R, h⟩ := h
  simp only [dE] at h
  refine TDE.mono (tde_one (Aft.refl R) h) fun v H1 ⟨x, ox, ρ1, Z1, A1, hv, h1⟩ => ?_
  split at h1
  · cases has_bool hv
    exact ⟨false, rfl, tde_last A1 h1⟩
  · cases has_bool hv
    exact ⟨true, rfl, h1 _ _ A1 _ ⟨(.bl true : Sh K Z1 H1 _ _), fun e => nomatch e⟩⟩
  · exact h1.elim
theorem se_not {ia : IE} (ha : PE X a (TDE K cl W (dE Φ ia))) : PE X (.UnaryOp .Not a pos) (TDE K cl W (dE Φ (.not ia))) := by
  refine PE.weak (pe_not ha) fun σ H Q h => ?_
  obtain ⟨ρ, Z, R, h⟩ := h
  simp only [dE] at h
  refine TDE.mono (tde_one (Aft.refl R) h) fun v H1 ⟨x, ox, ρ1, Z1, A1, hv, h1⟩ => ?_
  split at h1
  · cases has_bool hv
    exact ⟨_, rfl, h1 _ _ A1 _ ⟨(.bl _ : Sh K Z1 H1 _ _), fun e => nomatch e⟩⟩
  · exact h1.elim
theorem se_ite {ic : IT} {ia ib : IE} (hc : PT X c (TDT K cl W (dT Φ ic))) (ha : PE X a (TDE K cl W (dE Φ ia))) (hb : PE X b (TDE K cl W (dE Φ ib))) : PE X (.IfExp c a b pos) (TDE K cl W (dE Φ (.ite ic ia ib))) := by
  refine PE.weak (pe_ifExp hc ha hb) fun σ H Q h => ?_
  obtain ⟨ρ, Z, R, h⟩ := h
  simp only [dE] at h
  refine TDT.mono (tdt_bind (Aft.refl R) h) fun k H1 ⟨ρ1, Z1, A1, B1, h1⟩ => ?_
  cases k with
  | true =>
    simp only [if_true] at h1
    exact tde_last A1 h1
  | false =>
    simp only [Bool.false_eq_true, if_false] at h1
    exact tde_last A1 h1

theorem tde_tb {m : ME} {Q : Bool → Hp → Prop} (R : Rel K ρ σ H Z) (h : Post K cl W ρ σ H Z ((m ρ).bind fun o ρ1 => rd1 ρ1 o fun x => match x with
      | .bool k => Rs.ok k ρ1
      | _ => .bad) (kT Q)) : TDE K cl W m σ H fun v H' => ∃ k, v = .bl k ∧ Q k H' := by
  refine TDE.mono (tde_one (f := fun x ρ1 => match x with
      | .bool k => Rs.ok k ρ1
      | _ => .bad) (Aft.refl R) h) fun v H1 ⟨x, ox, ρ1, Z1, A1, hv, h1⟩ => ?_
  split at h1
  · cases has_bool hv
    exact ⟨_, rfl, h1 _ _ A1⟩
  · exact h1.elim
theorem st_cmp {op : CmpOp} {ia ib : IE} (hu : X.A.units + 70 < cLine) (hm : behindInMarks op b = false) (ha : PE X a (TDE X.K cl W (dE Φ ia))) (hb : PE X b (TDE X.K cl W (dE Φ ib))) : PT X (.Compare a [op] [b] pos) (TDT X.K cl W (dT Φ (.tb (.cmp op ia ib)))) := by
  refine PT.weak (pt_cmpR (op_cmp hu op) ha hb hm) fun σ H Q h => ?_
  obtain ⟨ρ, Z, R, h⟩ := h
  simp only [dT, dE] at h
  exact bin2_ok (good_cmp op) (tde_tb R h)
/-- a test of a bool by its value -/
theorem st_val {ie : IE} (ha : PE X a (TDE K cl W (dE Φ ie))) (he : ∀ whole, isTrue a X.env whole = (do let v ← whole; standAt a.pos; holding [v] (truthy v))) : PT X a (TDT K cl W (dT Φ (.tb ie))) := by
  refine PT.weak (pt_val ha he) fun σ H Q h => ?_
  obtain ⟨ρ, Z, R, h⟩ := h
  simp only [dT] at h
  exact tde_tb R h
theorem truth_V {k : Bool} {ox : Bool} (h : Has K Z H v d ox) (e : truth d = some k) : TruV K v H k := by
  unfold truth at e
  split at e <;> cases e
  · cases has_none h; exact rfl
  · cases has_bool h; exact rfl
  · cases has_int h; exact rfl
  · obtain ⟨a, vs, rfl, h1, _, l⟩ := has_list h
    refine .inl ⟨vs, h1, ?_⟩
    cases l <;> rfl
  · obtain ⟨a, vs, rfl, h1, _, l⟩ := has_tuple h
    refine .inr (.inl ⟨vs, h1, ?_⟩)
    cases l <;> rfl
theorem st_truth {ie : IE} (ha : PE X a (TDE X.K cl W (dE Φ ie))) (he : ∀ whole, isTrue a X.env whole = (do let v ← whole; standAt a.pos; holding [v] (truthy v))) : PT X a (TDT X.K cl W (dT Φ (.tr ie))) := by
  refine PT.weak (pt_truth ha he) fun σ H Q h => ?_
  obtain ⟨ρ, Z, R, h⟩ := h
  simp only [dT] at h
  refine TDE.mono (tde_one (Aft.refl R) h) fun v H1 ⟨x, ox, ρ1, Z1, A1, hv, h1⟩ => ?_
  split at h1
  · rename_i k e
    exact ⟨k, truth_V hv e, h1 _ _ A1⟩
  · exact h1.elim
theorem sw_and {ia ib : IT} {rest : List Expr} (ha : PT X a (TDT K cl W (dT Φ ia))) (hb : PW X (.BoolOp .And (b :: rest) pos) (TDT K cl W (dT Φ ib))) : PW X (.BoolOp .And (a :: b :: rest) pos) (TDT K cl W (dT Φ (.and ia ib))) := by
  refine ⟨fun wh pins s σ H Q I h => (pw_and ha hb).run wh pins s σ H Q I ?_⟩
  obtain ⟨ρ, Z, R, h⟩ := h
  simp only [dT] at h
  refine TDT.mono (tdt_bind (Aft.refl R) h) fun k H1 ⟨ρ1, Z1, A1, B1, h1⟩ => ?_
  cases k with
  | true =>
    simp only [if_true] at h1 ⊢
    exact tdt_last A1 h1
  | false =>
    simp only [Bool.false_eq_true, if_false] at h1 ⊢
    exact h1 _ _ A1
theorem sw_or {ia ib : IT} {rest : List Expr} (ha : PT X a (TDT K cl W (dT Φ ia))) (hb : PW X (.BoolOp .Or (b :: rest) pos) (TDT K cl W (dT Φ ib))) : PW X (.BoolOp .Or (a :: b :: rest) pos) (TDT K cl W (dT Φ (.or ia ib))) := by
  refine ⟨fun wh pins s σ H Q I h => (pw_or ha hb).run wh pins s σ H Q I ?_⟩
  obtain ⟨ρ, Z, R, h⟩ := h
  simp only [dT] at h
  refine TDT.mono (tdt_bind (Aft.refl R) h) fun k H1 ⟨ρ1, Z1, A1, B1, h1⟩ => ?_
  cases k with
  | true =>
    simp only [if_true] at h1 ⊢
    exact h1 _ _ A1
  | false =>
    simp only [Bool.false_eq_true, if_false] at h1 ⊢
    exact tdt_last A1 h1
theorem st_not {ia : IT} (ha : PT X a (TDT K cl W (dT Φ ia))) : PT X (.UnaryOp .Not a pos) (TDT K cl W (dT Φ (.not ia))) := by
  refine PT.weak (pt_not ha) fun σ H Q h => ?_
  obtain ⟨ρ, Z, R, h⟩ := h
  simp only [dT] at h
  exact TDT.mono (tdt_bind (Aft.refl R) h) fun k H1 ⟨ρ1, Z1, A1, B1, h1⟩ => h1 _ _ A1

theorem chain_ok {op op' : CmpOp} {ia ib ic : IE} {Q : VK} (h : TDE K cl W (dE Φ (.chain op op' ia ib ic)) σ H Q) : tChain (rCmp K op) (rCmp K op') (TDE K cl W (dE Φ ia)) (TDE K cl W (dE Φ ib)) (TDE K cl W (dE Φ ic)) σ H Q := by
  obtain ⟨ρ, Z, R, h⟩ := h
  simp only [dE] at h
  refine TDE.mono (tde_bind (Aft.refl R) h) fun v H1 ⟨oa, ρ1, Z1, A1, _, hv, h1⟩ => ?_
  refine TDE.mono (tde_bind A1 h1) fun w H2 ⟨ob, ρ2, Z2, A2, B2, hw, h2⟩ => ?_
  have hv2 := hv.keep A1.rel B2
  unfold rd1 at h2
  cases e1 : deref ρ2 oa with
  | none => rw [e1] at h2; exact h2.elim
  | some p =>
    obtain ⟨x, ox⟩ := p
    rw [e1] at h2
    cases e2 : deref ρ2 ob with
    | none => simp only [e2] at h2; exact h2.elim
    | some p =>
      obtain ⟨y, oy⟩ := p
      simp only [e2] at h2
      cases e3 : cmpF op x y with
      | none => simp only [e3] at h2; exact h2.elim
      | some p =>
        obtain ⟨z, own⟩ := p
        obtain ⟨k, rfl⟩ := cmpF_bool e3
        refine good_cmp op Z2 H2 v w x y ox oy _ own _ (fun p n => A2.rel.fresh n) (hv2.deref A2.rel e1) (hw.deref A2.rel e2) e3 fun u H' gv => ?_
        have A3 := A2.trans (Aft.grow A2.rel gv.grow)
        have hu : u = .bl k := by
          have q := gv.has
          exact has_bool q
        subst hu
        refine ⟨k, rfl, ?_⟩
        cases k with
        | false =>
          simp only [e3] at h2
          simp only [Bool.false_eq_true, if_false]
          exact h2 _ _ A3 _ ⟨(.bl false : Sh K Z2 H' _ _), fun e => nomatch e⟩
        | true =>
          simp only [e3] at h2
          simp only [if_true]
          have hw2 := hw.keep A2.rel (Aft.grow A2.rel gv.grow)
          refine TDE.mono (tde_bind A3 h2) fun w3 H3 ⟨oc, ρ3, Z3, A4, B4, hc, h3⟩ => ?_
          have hw3 := hw2.keep A3.rel B4
          cases e4 : deref ρ3 ob with
          | none => simp only [e4] at h3; exact h3.elim
          | some p =>
            obtain ⟨y', oy'⟩ := p
            simp only [e4] at h3
            cases e5 : deref ρ3 oc with
            | none => simp only [e5] at h3; exact h3.elim
            | some p =>
              obtain ⟨z', oz'⟩ := p
              simp only [e5] at h3
              obtain ⟨zz, own', e6, q⟩ := post_ret (z := y') A4 h3
              exact good_cmp op' Z3 H3 w w3 y' z' oy' oz' zz own' Q (fun p n => A4.rel.fresh n) (hw3.deref A4.rel e4) (hc.deref A4.rel e5) e6 q
end
end Mv
namespace Mv
open PySem PySem.Spec L2
open PyProof.Rows hiding St
variable [G : Glo]

section
variable {K : PySem.W.Frag} {cl : Cl} {W : WX} {Z Z' Z0 Z1 Z2 : Zt} {H H' H0 H1 H2 : Hp} {ρ ρ' ρ0 ρ1 ρ2 : En} {σ σ' σ0 : L2.St} {v w : V} {d e : D} {own : Bool} {o : Op}
def addZ (Z : Zt) (a : Addr) : Zt := fun b => Z b ∨ b = a
theorem ext_addZ {a : Addr} : Ext Z H (addZ Z a) H := ⟨fun _ h => .inl h, fun _ _ _ h => h, fun _ _ h => h, fun _ _ _ h => h, id, fun _ _ h => h⟩
theorem Rel.frzVal (R : Rel K ρ σ H Z) {a : Addr} {ob : HO} (ha : H a = some ob) (nt : ∀ ps, ob ≠ .tbl ps) (n : ¬ Own ρ σ a) : Rel K ρ σ H (addZ Z a) where
  ge := R.ge.ext ext_addZ
  len := R.len
  zt := fun b h => by
    rcases h with h | h
    · exact R.zt b h
    · rw [h]; exact ⟨_, ha, nt⟩
  has := fun i d own e => by
    obtain ⟨v, h1, h2⟩ := R.has i d own e
    refine ⟨v, h1, ?_⟩
    cases own with
    | false => exact Has.ext ext_addZ h2
    | true =>
      have h2' : Ow K Z H v d := h2
      refine (Ow.stay ext_addZ h2' (fun _ _ _ q _ => q) (fun b eb => ?_) : Ow K (addZ Z a) H v d)
      rintro (q | q)
      · exact (R.own ⟨i, d, e, by rw [h1, eb]⟩).1 q
      · exact n ⟨i, d, e, by rw [h1, eb, q]⟩
  sep := R.sep
theorem Ow.sh {a : Addr} (h : Ow K Z H (.ref a) d) : Sh K (addZ Z a) H (.ref a) d := by
  obtain ⟨b, e, z, h⟩ := h
  cases e
  rcases h with ⟨vs, ds, e1, h, hz, l⟩ | ⟨kvs, es, e1, h, l⟩ | ⟨kvs, es, e1, h, l⟩
  · subst e1; exact .lst (.inr rfl) (.inl h) hz (l.ext ext_addZ)
  · subst e1; exact .dK (.inr rfl) h (l.ext ext_addZ)
  · subst e1; exact .dT (.inr rfl) h (l.ext ext_addZ)
theorem get_set_eq {α : Type} {l : List α} {i : Nat} {x y : α} (h : l[i]? = some y) : (l.set i x)[i]? = some x := by
  have hi : i < l.length := by
    rcases Nat.lt_or_ge i l.length with h1 | h1
    · exact h1
    · rw [List.getElem?_eq_none h1] at h; cases h
  rw [List.getElem?_set_self hi]
theorem Rel.frzSlot (R : Rel K ρ σ H Z) {i : Nat} {a : Addr} (e : ρ[i]? = some (some (d, true))) (hs : σ[i]? = some (some (.ref a))) : Rel K (ρ.set i (some (d, false))) σ H (addZ Z a) where
  ge := R.ge.ext ext_addZ
  len := by rw [List.length_set]; exact R.len
  zt := fun b h => by
    rcases h with h | h
    · exact R.zt b h
    · rw [h]
      obtain ⟨_, ob, q, _, _, nt, _⟩ := R.own ⟨i, d, e, hs⟩
      exact ⟨ob, q, nt⟩
  has := fun j d' own' ej => by
    by_cases hj : i = j
    · subst hj
      rw [get_set_eq e] at ej
      cases ej
      obtain ⟨v, h1, h2⟩ := R.has i d true e
      rw [hs] at h1; cases h1
      exact ⟨_, hs, (Ow.sh h2 : Sh K (addZ Z a) H _ _)⟩
    · rw [List.getElem?_set_ne hj] at ej
      obtain ⟨v, h1, h2⟩ := R.has j d' own' ej
      refine ⟨v, h1, ?_⟩
      cases own' with
      | false => exact Has.ext ext_addZ h2
      | true =>
        have h2' : Ow K Z H v d' := h2
        refine (Ow.stay ext_addZ h2' (fun _ _ _ q _ => q) (fun b eb => ?_) : Ow K (addZ Z a) H v d')
        rintro (q | q)
        · exact (R.own ⟨j, d', ej, by rw [h1, eb]⟩).1 q
        · exact hj (R.sep i j d d' a e ej hs (by rw [h1, eb, q]))
  sep := fun j k d1 d2 b e1 e2 h1 h2 => by
    have f : ∀ {j : Nat} {d1 : D}, (ρ.set i (some (d, false)))[j]? = some (some (d1, true)) → ρ[j]? = some (some (d1, true)) := fun {j d1} q => by
      by_cases hj : i = j
      · subst hj
        rw [get_set_eq e] at q
        cases q
      · rwa [List.getElem?_set_ne hj] at q
    exact R.sep j k d1 d2 b (f e1) (f e2) h1 h2
theorem own_set_sub {i : Nat} {s : Sl} {a : Addr} (hs : ∀ d, s ≠ some (d, true)) (h : Own (ρ.set i s) σ a) : Own ρ σ a := by
  obtain ⟨j, d, e1, e2⟩ := h
  by_cases hj : i = j
  · subst hj
    by_cases hi : i < ρ.length
    · rw [List.getElem?_set_self hi] at e1
      exact absurd (Option.some.inj e1) (hs d)
    · rw [List.getElem?_eq_none (by rw [List.length_set]; omega)] at e1; cases e1
  · rw [List.getElem?_set_ne hj] at e1
    exact ⟨j, d, e1, e2⟩
theorem seal_ok (A : Aft K ρ0 σ0 H0 Z0 ρ σ H Z) (hv : Val K ρ0 σ0 H0 ρ σ H Z v o) (h : sealE ρ o = some (d, ρ')) : ∃ Z', Aft K ρ0 σ0 H0 Z0 ρ' σ H Z' ∧ Sh K Z' H v d ∧ Ext Z H Z' H := by
  have R := A.rel
  cases o with
  | val d' own =>
    cases h
    cases own with
    | false => exact ⟨Z, A, hv.1, Ext.refl⟩
    | true =>
      have h1 : Ow K Z H v d := hv.1
      obtain ⟨a, _, e, _, _⟩ := h1.ref
      obtain ⟨n, f⟩ := hv.2 rfl a e
      subst e
      obtain ⟨nz, ob, ha, _, _, nt, _⟩ := h1.at
      refine ⟨addZ Z a, ⟨R.frzVal ha nt n, fun b q => .inl (A.zz b q), A.keep, A.tk, fun b q => ?_, A.on⟩, h1.sh, ext_addZ⟩
      rcases q with q | q
      · exact A.zn b q
      · rw [q]; exact .inr f
  | ref i =>
    simp only [sealE] at h
    split at h
    · rename_i d' e
      cases h
      obtain ⟨u, h1, h2⟩ := R.has i _ _ e
      have hs : σ[i]? = some (some v) := hv
      rw [hs] at h1; cases h1
      have h2' : Ow K Z H v d := h2
      obtain ⟨a, ob, ea, nz, ha⟩ := h2'.ref
      subst ea
      refine ⟨addZ Z a, ⟨R.frzSlot e hs, fun b q => .inl (A.zz b q), A.keep, A.tk, fun b q => ?_, fun b q => A.on b (own_set_sub (fun _ z => by cases z) q)⟩, h2'.sh, ext_addZ⟩
      rcases q with q | q
      · exact A.zn b q
      · rw [q]; exact .inr (A.on a ⟨i, _, e, hs⟩)
    · rename_i d' e
      cases h
      obtain ⟨u, h1, h2⟩ := R.has i _ _ e
      have hs : σ[i]? = some (some v) := hv
      rw [hs] at h1; cases h1
      exact ⟨Z, A, h2, Ext.refl⟩
    · cases h
theorem give_ok (A : Aft K ρ0 σ0 H0 Z0 ρ σ H Z) (hv : Val K ρ0 σ0 H0 ρ σ H Z v o) (h : give ρ o = some (d, own, ρ')) : ∃ Z', Aft K ρ0 σ0 H0 Z0 ρ' σ H Z' ∧ Val K ρ0 σ0 H0 ρ' σ H Z' v (.val d own) ∧ Ext Z H Z' H := by
  cases o with
  | val d' own' =>
    cases h
    exact ⟨Z, A, hv, Ext.refl⟩
  | ref i =>
    simp only [give] at h
    split at h
    · rename_i d' e
      cases h
      obtain ⟨Z', B, s, x⟩ := seal_ok (d := d) (ρ' := ρ.set i (some (d, false))) A hv (by simp only [sealE, e])
      exact ⟨Z', B, ⟨s, fun z => nomatch z⟩, x⟩
    · rename_i d' e
      cases h
      obtain ⟨Z', B, s, x⟩ := seal_ok (d := d) (ρ' := ρ) A hv (by simp only [sealE, e])
      exact ⟨Z', B, ⟨s, fun z => nomatch z⟩, x⟩
    · cases h
theorem Rel.drop (R : Rel K ρ σ H Z) (i : Nat) : Rel K (ρ.set i none) σ H Z := by
  have f : ∀ {j : Nat} {x : D × Bool}, (ρ.set i none)[j]? = some (some x) → ρ[j]? = some (some x) := fun {j x} q => by
    by_cases hj : i = j
    · subst hj
      by_cases hi : i < ρ.length
      · rw [List.getElem?_set_self hi] at q; cases q
      · rw [List.getElem?_eq_none (by rw [List.length_set]; omega)] at q; cases q
    · rwa [List.getElem?_set_ne hj] at q
  exact ⟨R.ge, by rw [List.length_set]; exact R.len, R.zt, fun j d own e => R.has j d own (f e), fun j k d1 d2 b e1 e2 => R.sep j k d1 d2 b (f e1) (f e2)⟩
theorem move_ok (A : Aft K ρ0 σ0 H0 Z0 ρ σ H Z) (hv : Val K ρ0 σ0 H0 ρ σ H Z v o) (h : moveOut ρ o = some (d, own, ρ')) : Aft K ρ0 σ0 H0 Z0 ρ' σ H Z ∧ Val K ρ0 σ0 H0 ρ' σ H Z v (.val d own) := by
  have R := A.rel
  cases o with
  | val d' own' =>
    cases h
    exact ⟨A, hv⟩
  | ref i =>
    simp only [moveOut] at h
    split at h
    · rename_i d' e
      cases h
      obtain ⟨u, h1, h2⟩ := R.has i _ _ e
      have hs : σ[i]? = some (some v) := hv
      rw [hs] at h1; cases h1
      refine ⟨⟨R.drop i, A.zz, A.keep, A.tk, A.zn, fun b q => A.on b (own_set_sub (fun _ z => by cases z) q)⟩, h2, fun _ a ea => ⟨fun q => ?_, A.on a ⟨i, d, e, by rw [hs, ea]⟩⟩⟩
      obtain ⟨j, d2, e2, h3⟩ := q
      have hij : i ≠ j := fun z => by
        subst z
        by_cases hi : i < ρ.length
        · rw [List.getElem?_set_self hi] at e2; cases e2
        · rw [List.getElem?_eq_none (by rw [List.length_set]; omega)] at e2; cases e2
      rw [List.getElem?_set_ne hij] at e2
      exact hij (R.sep i j d d2 a e e2 (by rw [hs, ea]) h3)
    · rename_i d' e
      cases h
      obtain ⟨u, h1, h2⟩ := R.has i _ _ e
      have hs : σ[i]? = some (some v) := hv
      rw [hs] at h1; cases h1
      exact ⟨A, h2, fun z => nomatch z⟩
    · cases h

def kD' (Q : List V → Hp → Prop) (K : PySem.W.Frag) : List D → En → Hp → Zt → Prop := fun ds ρ' H' Z' => ∀ vs, ShL K Z' H' vs ds → Q vs H'
def TDD (K : PySem.W.Frag) (cl : Cl) (W : WX) (m : En → Rs (List D)) : TA := fun σ H Q => ∃ ρ Z, Rel K ρ σ H Z ∧ Post K cl W ρ σ H Z (m ρ) (kD' Q K)
variable {X : Cx} {a b c : Expr} {es : List Expr} {pos : Pos} {Φ : Fn}
theorem tdd_last {m : En → Rs (List D)} {Q : List V → Hp → Prop} (A : Aft K ρ0 σ H0 Z0 ρ σ H Z) (h : Post K cl W ρ0 σ H0 Z0 (m ρ) (kD' Q K)) : TDD K cl W m σ H Q := by
  refine ⟨ρ, Z, A.rel, ?_⟩
  cases e : m ρ with
  | bad => rw [e] at h; exact h
  | ex c p ρ' =>
    rw [e] at h
    exact fun H' Z' cls dx B x => h H' Z' cls dx (A.trans B) x
  | ok o ρ' =>
    rw [e] at h
    exact fun H' Z' B vs l => h H' Z' (A.trans B) vs l
theorem tdd_bind {α : Type} {m : En → Rs (List D)} {f : List D → En → Rs α} {k : α → En → Hp → Zt → Prop} (A : Aft K ρ0 σ H0 Z0 ρ σ H Z) (h : Post K cl W ρ0 σ H0 Z0 ((m ρ).bind f) k) :
    TDD K cl W m σ H (fun vs H' => ∃ ds ρ' Z', Aft K ρ0 σ H0 Z0 ρ' σ H' Z' ∧ Aft K ρ σ H Z ρ' σ H' Z' ∧ ShL K Z' H' vs ds ∧ Post K cl W ρ0 σ H0 Z0 (f ds ρ') k) := by
  refine ⟨ρ, Z, A.rel, ?_⟩
  cases e : m ρ with
  | bad => rw [e] at h; exact h
  | ex c p ρ' =>
    rw [e] at h
    exact fun H' Z' cls dx B x => h H' Z' cls dx (A.trans B) x
  | ok o ρ' =>
    rw [e] at h
    exact fun H' Z' B vs l => ⟨o, ρ', Z', A.trans B, B, l, h⟩
theorem TDD.mono {m : En → Rs (List D)} {Q Q' : List V → Hp → Prop} (h : TDD K cl W m σ H Q) (q : ∀ v H', Q v H' → Q' v H') : TDD K cl W m σ H Q' := by
  obtain ⟨ρ, Z, R, h⟩ := h
  refine ⟨ρ, Z, R, ?_⟩
  cases e : m ρ with
  | bad => rw [e] at h; exact h
  | ex c p ρ' => rw [e] at h; exact h
  | ok o ρ' =>
    rw [e] at h
    exact fun H' Z' B vs l => q _ _ (h H' Z' B vs l)
theorem PA.weak {X : Cx} {es : List Expr} {t t' : TA} (h : PA X es t) (q : ∀ σ H Q, t' σ H Q → t σ H Q) : PA X es t' := ⟨fun pos pins s σ H Q I hw => h.run pos pins s σ H Q I (q σ H Q hw)⟩
theorem sd_nil : PA X [] (TDD K cl W (dD Φ .nil)) := by
  refine PA.weak pa_nil fun σ H Q h => ?_
  obtain ⟨ρ, Z, R, h⟩ := h
  simp only [dD] at h
  exact h _ _ (Aft.refl R) [] .nil
theorem sd_cons {ie : IE} {il : IL} (ha : PE X a (TDE K cl W (dE Φ ie))) (hr : PA X es (TDD K cl W (dD Φ il))) (hs : starEach (a :: es) X.env = (false, eval a X.env) :: starEach es X.env) : PA X (a :: es) (TDD K cl W (dD Φ (.cons ie il))) := by
  refine PA.weak (pa_cons ha hr hs) fun σ H Q h => ?_
  obtain ⟨ρ, Z, R, h⟩ := h
  simp only [dD] at h
  refine TDE.mono (tde_bind (Aft.refl R) h) fun v H1 ⟨o, ρ1, Z1, A1, _, hv, h1⟩ => ?_
  cases e : sealE ρ1 o with
  | none => simp only [e] at h1; exact h1.elim
  | some p =>
    obtain ⟨d, ρ2⟩ := p
    simp only [e] at h1
    obtain ⟨Z2, A2, sv, _⟩ := seal_ok A1 hv e
    refine TDD.mono (tdd_bind A2 h1) fun vs H3 ⟨ds, ρ3, Z3, A3, B3, l, h3⟩ => ?_
    exact h3 _ _ A3 (v :: vs) (.cons (sv.ext (B3.ext A2.rel)) l)
def ilLen : IL → Nat
  | .nil => 0
  | .cons _ r => ilLen r + 1
theorem dD_length : ∀ (il : IL) {ρ ρ' : En} {ds : List D}, dD Φ il ρ = .ok ds ρ' → ds.length = ilLen il
  | .nil, _, _, _, h => by
    simp only [dD] at h
    cases h
    rfl
  | .cons e r, ρ, ρ', ds, h => by
    simp only [dD, Rs.bind] at h
    split at h
    · split at h
      · split at h
        · rename_i h2
          cases h
          rw [List.length_cons, dD_length r h2]
          rfl
        · cases h
        · cases h
      · cases h
    · cases h
    · cases h
theorem post_len {m : En → Rs (List D)} {α : Type} {f : List D → En → Rs α} {k : α → En → Hp → Zt → Prop} {n : Nat} (hl : ∀ {ds ρ'}, m ρ = .ok ds ρ' → ds.length = n) (h : Post K cl W ρ σ H Z ((m ρ).bind f) k) :
    Post K cl W ρ σ H Z ((m ρ).bind fun ds ρ' => if ds.length = n then f ds ρ' else .bad) k := by
  cases e : m ρ with
  | bad => rw [e] at h; exact h
  | ex c p ρ' => rw [e] at h; exact h
  | ok ds ρ' =>
    rw [e] at h
    simp only [Rs.bind] at h ⊢
    rw [if_pos (hl e)]
    exact h
theorem se_tuple {il : IL} {k : Nat} (hn : ilLen il ≤ sizeLine) (h : PA X es (TDD K cl W (dD Φ il))) : PE X (.Tuple es k pos) (TDE K cl W (dE Φ (.tup il))) := by
  refine PE.weak (pe_tupX h) fun σ H Q h => ?_
  obtain ⟨ρ, Z, R, h⟩ := h
  simp only [dE] at h
  refine TDD.mono (tdd_bind (Aft.refl R) (post_len (dD_length il) h)) fun vs H1 ⟨ds, ρ1, Z1, A1, _, l, h1⟩ => ?_
  split at h1
  · rename_i hl
    have hz : vs.length ≤ sizeLine := by rw [l.length, hl]; exact hn
    refine ⟨hz, fun p us hp => ?_⟩
    have g := Gv.tup (us := us) hp hz l
    exact h1 _ _ (A1.trans (Aft.grow A1.rel g.grow)) _ (g.val A1.rel A1)
  · exact h1.elim
theorem se_list {il : IL} (hn : ilLen il ≤ sizeLine) (h : PA X es (TDD K cl W (dD Φ il))) : PE X (.List es pos) (TDE K cl W (dE Φ (.lst il))) := by
  refine PE.weak (pe_lst h) fun σ H Q h => ?_
  obtain ⟨ρ, Z, R, h⟩ := h
  simp only [dE] at h
  refine TDD.mono (tdd_bind (Aft.refl R) (post_len (dD_length il) h)) fun vs H1 ⟨ds, ρ1, Z1, A1, _, l, h1⟩ => ?_
  split at h1
  · rename_i hl
    have hz : vs.length ≤ sizeLine := by rw [l.length, hl]; exact hn
    refine ⟨hz, fun p hp => ?_⟩
    have g := Gv.lst (A1.rel.fresh hp) hp hz l
    exact h1 _ _ (A1.trans (Aft.grow A1.rel g.grow)) _ (g.val A1.rel A1)
  · exact h1.elim
end
end Mv
namespace Mv
open PySem PySem.Spec L2
open PyProof.Rows hiding St
variable [G : Glo]

section
variable {K : PySem.W.Frag} {cl : Cl} {W : WX} {Z Z' Z0 Z1 Z2 : Zt} {H H' H0 H1 H2 : Hp} {ρ ρ' ρ0 ρ1 ρ2 : En} {σ σ' σ0 : L2.St} {v w : V} {d e : D} {own : Bool} {o : Op}
variable {X : Cx} {a b c : Expr} {es : List Expr} {pos p2 : Pos} {Φ : Fn}
theorem atI_sh {vs : List V} {ds : List D} {i : Int} (l : ShL K Z H vs ds) (h : atI ds i = some d) : ∃ v, atI vs i = some v ∧ Sh K Z H v d := by
  unfold atI at h ⊢
  rw [l.length]
  cases e : ixN ds.length i with
  | none => rw [e] at h; cases h
  | some j =>
    rw [e] at h
    exact l.get h
def rIxD : R2 := fun x y H Q => ∃ a v, x = .ref a ∧ DGet H a y (some v) ∧ Q v H
theorem ix_dD (hu : X.A.units + 1 < cLine) : IxR X rIxD := by
  intro value slice pins s σ H x y v u Q I rx ry h hs
  obtain ⟨a, z, ex, g, q⟩ := h
  subst ex
  cases (show v = Value.ref a from rx)
  exact tail_any (dict_typeIs I g) PySem.F.slot_dict_getitem.lookup (d_getItem hu I g ry fun w' s3 I3 rw' => ⟨z, H, I3, rw', q⟩) hs
theorem good_ix : Good2 K (fun x y H Q => rIx K x y H Q ∨ rIxD x y H Q) ixF := by
  intro Z H v w x y ox oy z own Q fr hv hw e q
  unfold ixF at e
  split at e
  · rename_i xs i
    obtain ⟨l, vs, rfl, h1, n1, l1⟩ := has_list hv
    cases has_int hw
    cases e1 : atI xs i with
    | none => rw [e1] at e; cases e
    | some d =>
      rw [e1] at e
      cases e
      obtain ⟨u, h2, s⟩ := atI_sh l1 e1
      exact .inl (.inl ⟨l, vs, i, u, rfl, rfl, h1, h2, q _ _ (Gv.same s)⟩)
  · rename_i xs i
    obtain ⟨l, vs, rfl, h1, n1, l1⟩ := has_tuple hv
    cases has_int hw
    cases e1 : atI xs i with
    | none => rw [e1] at e; cases e
    | some d =>
      rw [e1] at e
      cases e
      obtain ⟨u, h2, s⟩ := atI_sh l1 e1
      exact .inl (.inr (.inl ⟨l, vs, i, u, rfl, rfl, h1, h2, q _ _ (Gv.same s)⟩))
  · rename_i es
    split at e
    · rename_i d e1
      cases e
      obtain ⟨a, ov, ea, g, c⟩ := dict_get hv hw e1
      rcases c with ⟨d', u, ed, eo, sh⟩ | ⟨ed, _⟩
      · cases ed
        subst eo
        exact .inr ⟨a, u, ea, g, q _ _ (Gv.same sh)⟩
      · cases ed
    · cases e
  · cases e
theorem se_ix {ia ib : IE} (hu : X.A.units + 70 < cLine) (hs : PlainIx b) (ha : PE X a (TDE X.K cl W (dE Φ ia))) (hb : PE X b (TDE X.K cl W (dE Φ ib))) : PE X (.Subscript a b pos) (TDE X.K cl W (dE Φ (.ix ia ib))) := by
  refine PE.weak (pe_ix (ix_seq.or (ix_dD (by omega))) ha hb hs) fun σ H Q h => ?_
  simp only [dE] at h
  exact bin2_ok good_ix h

def TDO (K : PySem.W.Frag) (cl : Cl) (W : WX) (m : En → Rs (Option Int)) : TO := fun σ H Q => ∃ ρ Z, Rel K ρ σ H Z ∧ Post K cl W ρ σ H Z (m ρ) fun l _ H' _ => Q l H'
theorem tdo_bind {α : Type} {m : En → Rs (Option Int)} {f : Option Int → En → Rs α} {k : α → En → Hp → Zt → Prop} (A : Aft K ρ0 σ H0 Z0 ρ σ H Z) (h : Post K cl W ρ0 σ H0 Z0 ((m ρ).bind f) k) :
    TDO K cl W m σ H (fun l H' => ∃ ρ' Z', Aft K ρ0 σ H0 Z0 ρ' σ H' Z' ∧ Aft K ρ σ H Z ρ' σ H' Z' ∧ Post K cl W ρ0 σ H0 Z0 (f l ρ') k) := by
  refine ⟨ρ, Z, A.rel, ?_⟩
  cases e : m ρ with
  | bad => rw [e] at h; exact h
  | ex c p ρ' =>
    rw [e] at h
    exact fun H' Z' cls dx B x => h H' Z' cls dx (A.trans B) x
  | ok o ρ' =>
    rw [e] at h
    exact fun H' Z' B => ⟨ρ', Z', A.trans B, B, h⟩
theorem TDO.mono {m : En → Rs (Option Int)} {Q Q' : Option Int → Hp → Prop} (h : TDO K cl W m σ H Q) (q : ∀ v H', Q v H' → Q' v H') : TDO K cl W m σ H Q' := by
  obtain ⟨ρ, Z, R, h⟩ := h
  refine ⟨ρ, Z, R, ?_⟩
  cases e : m ρ with
  | bad => rw [e] at h; exact h
  | ex c p ρ' => rw [e] at h; exact h
  | ok o ρ' =>
    rw [e] at h
    exact fun H' Z' B => q _ _ (h H' Z' B)
theorem so_none : PO X none (TDO K cl W (dO Φ .none)) := by
  refine ⟨fun pins s σ H Q I h => po_none.run pins s σ H Q I ?_⟩
  obtain ⟨ρ, Z, R, h⟩ := h
  simp only [dO] at h
  exact h _ _ (Aft.refl R)
theorem so_some {ie : IE} (ha : PE X a (TDE K cl W (dE Φ ie))) : PO X (some a) (TDO K cl W (dO Φ (.some ie))) := by
  refine ⟨fun pins s σ H Q I h => (po_some ha).run pins s σ H Q I ?_⟩
  obtain ⟨ρ, Z, R, h⟩ := h
  simp only [dO] at h
  refine TDE.mono (tde_one (Aft.refl R) h) fun v H1 ⟨x, ox, ρ1, Z1, A1, hv, h1⟩ => ?_
  split at h1
  · cases has_int hv
    exact ⟨_, rfl, h1 _ _ A1⟩
  · exact h1.elim
theorem cut_sh {vs : List V} {ds : List D} {lo hi : Option Int} (l : ShL K Z H vs ds) : ShL K Z H (cutV vs lo hi) (cutD ds lo hi) := by
  unfold cutV cutD
  rw [l.length]
  exact (l.drop _).take _
theorem cut_whole {ds : List D} {lo hi : Option Int} (h : HT.sIx ds.length 0 lo = 0 ∧ HT.sIx ds.length ds.length hi = ds.length) : cutD ds lo hi = ds := by
  unfold cutD
  rw [h.1, h.2]
  simp
theorem se_sl {ia : IE} {il ih : IO} {lo hi : Option Expr} (ha : PE X a (TDE X.K cl W (dE Φ ia))) (hl : PO X lo (TDO X.K cl W (dO Φ il))) (hh : PO X hi (TDO X.K cl W (dO Φ ih))) : PE X (.Subscript a (.Slice lo hi none p2) pos) (TDE X.K cl W (dE Φ (.sl ia il ih))) := by
  refine PE.weak (pe_slice (sl_list.or sl_tupX) ha hl hh) fun σ H Q h => ?_
  obtain ⟨ρ, Z, R, h⟩ := h
  simp only [dE] at h
  refine TDE.mono (tde_bind (Aft.refl R) h) fun v H1 ⟨oa, ρ1, Z1, A1, _, hv, h1⟩ => ?_
  refine TDO.mono (tdo_bind A1 h1) fun l H2 ⟨ρ2, Z2, A2, B2, h2⟩ => ?_
  refine TDO.mono (tdo_bind A2 h2) fun u H3 ⟨ρ3, Z3, A3, B3, h3⟩ => ?_
  have hv3 := (hv.keep A1.rel B2).keep A2.rel B3
  unfold rd1 at h3
  cases e1 : deref ρ3 oa with
  | none => simp only [e1] at h3; exact h3.elim
  | some p =>
    obtain ⟨x, ox⟩ := p
    simp only [e1] at h3
    obtain ⟨z, own, e, q⟩ := post_ret (z := x) A3 h3
    have hx := hv3.deref A3.rel e1
    unfold slF at e
    split at e
    · cases e
      obtain ⟨t, vs, rfl, s1, n1, l1⟩ := has_list hx
      exact .inl ⟨t, vs, rfl, s1, fun p hp => q _ _ (Gv.lst (A3.rel.fresh hp) hp (Nat.le_trans (cutV_length _ _ _) n1) (cut_sh l1))⟩
    · cases e
      obtain ⟨t, vs, rfl, s1, n1, l1⟩ := has_tupleS hx
      refine .inr ⟨t, vs, rfl, s1.sq, fun hw => ?_, fun _ p us hp => q _ _ (Gv.tup hp (Nat.le_trans (cutV_length _ _ _) n1) (cut_sh l1))⟩
      rw [l1.length] at hw
      have g := q (.ref t) H3
      rw [cut_whole hw] at g
      exact g (Gv.same (.tup s1 n1 l1))
    · cases e

def AVal (K : PySem.W.Frag) (ρ : En) (σ : L2.St) (H : Hp) (ρ' : En) (σ' : L2.St) (H' : Hp) (Z' : Zt) (vs : List V) (os : List Op) : Prop :=
  Paired (fun v o => Val K ρ σ H ρ' σ' H' Z' v o) vs os ∧
    ∀ (i j : Nat) (d e : D) (a : Addr), os[i]? = some (.val d true) → os[j]? = some (.val e true) → vs[i]? = some (.ref a) → vs[j]? = some (.ref a) → i = j
def TDL (K : PySem.W.Frag) (cl : Cl) (W : WX) (m : En → Rs (List Op)) : TA := fun σ H Q => ∃ ρ Z, Rel K ρ σ H Z ∧ Post K cl W ρ σ H Z (m ρ) fun os ρ' H' Z' => ∀ vs, AVal K ρ σ H ρ' σ H' Z' vs os → Q vs H'
theorem paired_map {α β : Type} {F G : α → β → Prop} (h : ∀ a b, F a b → G a b) : ∀ {xs : List α} {ys : List β}, Paired F xs ys → Paired G xs ys
  | _, _, .nil => .nil
  | _, _, .cons r t => .cons (h _ _ r) (paired_map h t)
theorem AVal.base {vs : List V} {os : List Op} (A : Aft K ρ0 σ0 H0 Z0 ρ σ H Z) (h : AVal K ρ σ H ρ' σ' H' Z' vs os) : AVal K ρ0 σ0 H0 ρ' σ' H' Z' vs os :=
  ⟨paired_map (fun v o q => q.base A) h.1, h.2⟩
theorem tdl_bind {α : Type} {m : En → Rs (List Op)} {f : List Op → En → Rs α} {k : α → En → Hp → Zt → Prop} (A : Aft K ρ0 σ H0 Z0 ρ σ H Z) (h : Post K cl W ρ0 σ H0 Z0 ((m ρ).bind f) k) :
    TDL K cl W m σ H (fun vs H' => ∃ os ρ' Z', Aft K ρ0 σ H0 Z0 ρ' σ H' Z' ∧ Aft K ρ σ H Z ρ' σ H' Z' ∧ AVal K ρ σ H ρ' σ H' Z' vs os ∧ Post K cl W ρ0 σ H0 Z0 (f os ρ') k) := by
  refine ⟨ρ, Z, A.rel, ?_⟩
  cases e : m ρ with
  | bad => rw [e] at h; exact h
  | ex c p ρ' =>
    rw [e] at h
    exact fun H' Z' cls dx B x => h H' Z' cls dx (A.trans B) x
  | ok o ρ' =>
    rw [e] at h
    exact fun H' Z' B vs l => ⟨o, ρ', Z', A.trans B, B, l, h⟩
theorem TDL.mono {m : En → Rs (List Op)} {Q Q' : List V → Hp → Prop} (h : TDL K cl W m σ H Q) (q : ∀ v H', Q v H' → Q' v H') : TDL K cl W m σ H Q' := by
  obtain ⟨ρ, Z, R, h⟩ := h
  refine ⟨ρ, Z, R, ?_⟩
  cases e : m ρ with
  | bad => rw [e] at h; exact h
  | ex c p ρ' => rw [e] at h; exact h
  | ok o ρ' =>
    rw [e] at h
    exact fun H' Z' B vs l => q _ _ (h H' Z' B vs l)
theorem sl_nil : PA X [] (TDL K cl W (dL Φ .nil)) := by
  refine PA.weak pa_nil fun σ H Q h => ?_
  obtain ⟨ρ, Z, R, h⟩ := h
  simp only [dL] at h
  exact h _ _ (Aft.refl R) [] ⟨.nil, fun i j d e a h => by simp at h⟩
theorem AVal.cons {vs : List V} {os : List Op} (R1 : Rel K ρ1 σ H1 Z1) (A1 : Aft K ρ σ H Z ρ1 σ H1 Z1) (hv : Val K ρ σ H ρ1 σ H1 Z1 v o) (A2 : Aft K ρ1 σ H1 Z1 ρ2 σ H2 Z2) (h : AVal K ρ1 σ H1 ρ2 σ H2 Z2 vs os) : AVal K ρ σ H ρ2 σ H2 Z2 (v :: vs) (o :: os) := by
  refine ⟨.cons (hv.keep R1 A2) (h.base A1).1, ?_⟩
  have apart : ∀ (j : Nat) (d e : D) (a : Addr), o = .val d true → os[j]? = some (.val e true) → v = .ref a → vs[j]? = some (.ref a) → False := fun j d e a eo ej ev evj => by
    subst eo
    have h1 : Ow K Z1 H1 v d := hv.1
    obtain ⟨a', ob, ea, nz, ha⟩ := h1.ref
    rw [ev] at ea; cases ea
    have gen : ∀ {vs : List V} {os : List Op} {j : Nat}, Paired (fun v o => Val K ρ1 σ H1 ρ2 σ H2 Z2 v o) vs os → os[j]? = some (.val e true) → vs[j]? = some (.ref a) → Val K ρ1 σ H1 ρ2 σ H2 Z2 (.ref a) (.val e true) := by
      intro vs os j p
      induction p generalizing j with
      | nil => intro h; simp at h
      | cons r _ ih =>
        cases j with
        | zero =>
          intro h1 h2
          simp at h1 h2
          rw [h1, h2] at r
          exact r
        | succ j =>
          intro h1 h2
          exact ih (by simpa using h1) (by simpa using h2)
    have w := gen h.1 ej evj
    rcases (w.2 rfl a rfl).2 with q | q
    · exact (hv.2 rfl a ev).1 q
    · rw [ha] at q; cases q
  intro i j d e a e1 e2 e3 e4
  cases i with
  | zero =>
    cases j with
    | zero => rfl
    | succ j => exact (apart j d e a (by simpa using e1) (by simpa using e2) (by simpa using e3) (by simpa using e4)).elim
  | succ i =>
    cases j with
    | zero => exact (apart i e d a (by simpa using e2) (by simpa using e1) (by simpa using e4) (by simpa using e3)).elim
    | succ j => rw [h.2 i j d e a (by simpa using e1) (by simpa using e2) (by simpa using e3) (by simpa using e4)]
theorem sl_cons {ie : IE} {il : IL} (ha : PE X a (TDE K cl W (dE Φ ie))) (hr : PA X es (TDL K cl W (dL Φ il))) (hs : starEach (a :: es) X.env = (false, eval a X.env) :: starEach es X.env) : PA X (a :: es) (TDL K cl W (dL Φ (.cons ie il))) := by
  refine PA.weak (pa_cons ha hr hs) fun σ H Q h => ?_
  obtain ⟨ρ, Z, R, h⟩ := h
  simp only [dL] at h
  refine TDE.mono (tde_bind (Aft.refl R) h) fun v H1 ⟨o, ρ1, Z1, A1, _, hv, h1⟩ => ?_
  refine TDL.mono (tdl_bind A1 h1) fun vs H3 ⟨os, ρ3, Z3, A3, B3, l, h3⟩ => ?_
  exact h3 _ _ A3 (v :: vs) (l.cons A1.rel A1 hv B3)
theorem args_has {vs : List V} {os : List Op} (R : Rel K ρ' σ' H' Z') : ∀ {vs : List V} {os : List Op} {xs : List (D × Bool)}, Paired (fun v o => Val K ρ σ H ρ' σ' H' Z' v o) vs os → argsOf ρ' os = some xs → Paired (fun v (x : D × Bool) => Has K Z' H' v x.1 x.2) vs xs
  | _, _, _, .nil, h => by
    simp only [argsOf] at h
    cases h
    exact .nil
  | _, _, xs, .cons (b := o) r t, h => by
    simp only [argsOf] at h
    split at h
    · rename_i x ys e1 e2
      cases h
      exact .cons (r.deref R e1) (args_has (vs := vs) (os := os) R t e2)
    · cases h

def GoodB (K : PySem.W.Frag) (r : List V → Hp → VK → Prop) (g : List D → Option (D × Bool)) : Prop :=
  ∀ (Z : Zt) (H : Hp) (vs : List V) (xs : List (D × Bool)) (z : D) (own : Bool) (Q : VK), (∀ p, H p = none → ¬ Z p) → Paired (fun v (x : D × Bool) => Has K Z H v x.1 x.2) vs xs → g (xs.map (·.1)) = some (z, own) → (∀ u H', Gv K Z H u z own H' → Q u H') → r vs H Q
theorem bi_ok {r : List V → Hp → VK → Prop} {bi : Bi} {il : IL} (hr : GoodB K r (biF bi)) {Q : VK} (h : TDE K cl W (dE Φ (.bi bi il)) σ H Q) : tCB r (TDL K cl W (dL Φ il)) σ H Q := by
  obtain ⟨ρ, Z, R, h⟩ := h
  simp only [dE] at h
  refine TDL.mono (tdl_bind (Aft.refl R) h) fun vs H1 ⟨os, ρ1, Z1, A1, _, l, h1⟩ => ?_
  cases e : argsOf ρ1 os with
  | none => simp only [e] at h1; exact h1.elim
  | some xs =>
    simp only [e] at h1
    obtain ⟨z, own, e2, q⟩ := post_ret (z := .none) A1 h1
    exact hr Z1 H1 vs xs z own Q (fun p n => A1.rel.fresh n) (args_has (vs := vs) (os := os) A1.rel l.1 e) e2 q
end
end Mv
namespace Mv
open PySem PySem.Spec L2
open PyProof.Rows hiding St
variable [G : Glo]

section
variable {K : PySem.W.Frag} {cl : Cl} {W : WX} {Z Z' Z0 Z1 Z2 : Zt} {H H' H0 H1 H2 : Hp} {ρ ρ' ρ0 ρ1 ρ2 : En} {σ σ' σ0 : L2.St} {v w : V} {d d' e : D} {own : Bool} {o : Op}
variable {X : Cx} {a b c : Expr} {es : List Expr} {pos p2 : Pos} {Φ : Fn}
theorem Ow.ext_upd {a : Addr} {ob : HO} (h : Ow K Z H (.ref a) d) : Ext Z H Z (upd H a ob) := by
  obtain ⟨nz, o, e, n1, n2, n3, n4⟩ := h.at
  refine ⟨fun _ h => h, fun b u z q => ?_, fun b xs q => ?_, fun b u x q => ?_, fun t => t.upd e n3 n4, fun b φ q => by rw [upd_ne (fun z' => by rw [z', e] at q; cases q; exact n4 φ rfl)]; exact q⟩
  · rw [upd_ne (fun z' : b = a => nz (by rw [← z']; exact z))]; exact q
  · rw [upd_ne (fun z' => ?_)]
    · exact q
    · rw [z', e] at q; cases q; exact n1 xs rfl
  · rw [upd_ne (fun z' => ?_)]
    · exact q
    · rw [z', e] at q; cases q; exact n2 u x rfl
theorem Rel.put (R : Rel K ρ σ H Z) {i : Nat} {a : Addr} {ob : HO} (e : ρ[i]? = some (some (d, true))) (hs : σ[i]? = some (some (.ref a))) (hw : Ow K Z (upd H a ob) (.ref a) d') :
    Rel K (ρ.set i (some (d', true))) σ (upd H a ob) Z := by
  obtain ⟨v, h1, h2⟩ := R.has i d true e
  rw [hs] at h1; cases h1
  have h2' : Ow K Z H (.ref a) d := h2
  have x : Ext Z H Z (upd H a ob) := h2'.ext_upd
  refine ⟨R.ge.ext x, by rw [List.length_set]; exact R.len, fun b z => ?_, fun j d1 own e1 => ?_, fun j k d1 d2 b e1 e2 q1 q2 => ?_⟩
  · obtain ⟨o, q, nt⟩ := R.zt b z
    exact ⟨o, x.kz b o z q, nt⟩
  · by_cases hj : i = j
    · subst hj
      rw [get_set_eq e] at e1
      cases e1
      exact ⟨_, hs, hw⟩
    · rw [List.getElem?_set_ne hj] at e1
      obtain ⟨v, q1, q2⟩ := R.has j d1 own e1
      refine ⟨v, q1, ?_⟩
      cases own with
      | false => exact Has.ext x q2
      | true =>
        have q3 : Ow K Z H v d1 := q2
        refine (Ow.stay x q3 (fun b u eb hb _ => ?_) (fun b eb z => ?_) : Ow K Z (upd H a ob) v d1)
        · rw [upd_ne (fun z => ?_)]
          · exact hb
          · exact hj (R.sep i j d d1 a e e1 hs (by rw [q1, eb, z]))
        · exact (R.own ⟨j, d1, e1, by rw [q1, eb]⟩).1 z
  · have f : ∀ {j : Nat} {d1 : D}, (ρ.set i (some (d', true)))[j]? = some (some (d1, true)) → ∃ d2, ρ[j]? = some (some (d2, true)) := fun {j d1} q => by
      by_cases hj : i = j
      · subst hj; exact ⟨d, e⟩
      · rw [List.getElem?_set_ne hj] at q; exact ⟨d1, q⟩
    obtain ⟨_, f1⟩ := f e1
    obtain ⟨_, f2⟩ := f e2
    exact R.sep j k _ _ b f1 f2 q1 q2
theorem own_put {i : Nat} {b : Addr} (e : ρ[i]? = some (some (d, true))) (h : Own (ρ.set i (some (d', true))) σ b) : Own ρ σ b := by
  obtain ⟨j, d1, q1, q2⟩ := h
  by_cases hj : i = j
  · subst hj; exact ⟨i, d, e, q2⟩
  · rw [List.getElem?_set_ne hj] at q1; exact ⟨j, d1, q1, q2⟩
theorem Aft.put (A : Aft K ρ0 σ0 H0 Z0 ρ σ H Z) {i : Nat} {a : Addr} {ob : HO} (e : ρ[i]? = some (some (d, true))) (hs : σ[i]? = some (some (.ref a))) (hw : Ow K Z (upd H a ob) (.ref a) d') :
    Aft K ρ0 σ0 H0 Z0 (ρ.set i (some (d', true))) σ (upd H a ob) Z := by
  refine ⟨A.rel.put e hs hw, A.zz, fun b o q t n => ?_, fun b ps q => ?_, A.zn, fun b q => A.on b (own_put e q)⟩
  · rw [upd_ne (fun z => ?_)]
    · exact A.keep b o q t n
    · subst z
      rcases A.on b ⟨i, d, e, hs⟩ with q' | q'
      · exact n q'
      · rw [q] at q'; cases q'
  · obtain ⟨ps', q'⟩ := A.tk b ps q
    refine ⟨ps', ?_⟩
    rw [upd_ne (fun z => ?_)]
    · exact q'
    · subst z
      obtain ⟨_, o, e1, _, _, n3, _⟩ := A.rel.own ⟨i, d, e, hs⟩
      rw [q'] at e1; cases e1
      exact n3 _ rfl
theorem ow_list {a : Addr} {vs : List V} {ds : List D} (x : Ext Z H Z H') (nz : ¬ Z a) (ha : H' a = some (.lst vs)) (hz : vs.length ≤ sizeLine) (l : ShL K Z H vs ds) : Ow K Z H' (.ref a) (.list ds) :=
  ⟨a, rfl, nz, .inl ⟨vs, ds, rfl, ha, hz, l.ext x⟩⟩

def rExtX (K : PySem.W.Frag) : V → List V → Hp → VK → Prop := fun x vs H Q => ∃ l b xs zs, x = .ref l ∧ vs = [.ref b] ∧ H l = some (.lst xs) ∧ SqX K H b zs ∧ xs.length + zs.length ≤ sizeLine ∧ Q .non (upd H l (.lst (xs ++ zs)))
theorem mt_extX : MtM X "list.extend" (rExtX X.K) := by
  intro pins s σ H x vs v us Q I rx rv h
  obtain ⟨l, b, xs, zs, rfl, rfl, hH, hB, hz, q⟩ := h
  cases rx
  obtain ⟨u, rfl, ru⟩ := rv.one
  cases ru
  obtain ⟨z, its, n, r, hl, e⟩ := I.lstM hH
  obtain ⟨its2, n2, r2, e2⟩ := hB.obj I
  have hl2 := r2.length
  have big : its.toArray.size + its2.toArray.size ≤ sizeLine := by
    rw [List.size_toArray, List.size_toArray]
    omega
  have door : ¬ (!its.toArray.isEmpty && Builtin.List.listTooLong (its.toArray.size + its2.toArray.size)) = true := by
    rw [notLongL big, Bool.and_false]
    simp
  have met := AutoSeq1.list_extend_list_list_0 l its.toArray n b its2.toArray n2 door (by rw [List.size_toArray]; omega) (by omega)
  refine call_meets F.slot_list_extend ⟨_, e, rfl⟩ F.entry_list_extend (F.args_list_extend_2 _ _) met ⟨e, e2, ?_⟩
  exact ⟨.non, _, I.lset (its' := its ++ its2) hH e (by simp) (r.append r2) (by rw [List.length_append]; omega), rfl, q⟩
def muId : Mu → String
  | .append => "append"
  | .extend => "extend"
  | _ => "pop"
def rMu (K : PySem.W.Frag) : Mu → V → List V → Hp → VK → Prop
  | .append => rAppend
  | .extend => rExtX K
  | .pop => rPop
  | .popAt => rPopAt
theorem good_mu {m : Mu} {i : Nat} {a : Addr} {ds : List D} {vs : List V} {r d' : D} {Q : VK} (A : Aft K ρ0 σ H0 Z0 ρ σ H Z) (e : ρ[i]? = some (some (d, true))) (hs : σ[i]? = some (some (.ref a))) (l : ShL K Z H vs ds)
    (h : muF m d ds = some (r, d')) (q : ∀ u H', Aft K ρ0 σ H0 Z0 (ρ.set i (some (d', true))) σ H' Z → Sh K Z H' u r → Q u H') : rMu K m (.ref a) vs H Q := by
  obtain ⟨v, h1, h2⟩ := A.rel.has i d true e
  rw [hs] at h1; cases h1
  have o : Ow K Z H (.ref a) d := h2
  have x : ∀ ob, Ext Z H Z (upd H a ob) := fun ob => o.ext_upd
  obtain ⟨b, eb, nz, o'⟩ := id o
  cases eb
  unfold muF at h
  split at h
  · split at h
    · rename_i xs y hz
      cases h
      rcases o' with ⟨ws, ds', e1, ha, n, lw⟩ | ⟨_, _, e1, _⟩ | ⟨_, _, e1, _⟩ <;> cases e1
      cases l with
      | cons s t =>
        cases t
        have hz' : ws.length < sizeLine := by rw [lw.length]; exact hz
        refine ⟨a, ws, _, rfl, rfl, ha, hz', q _ _ (A.put e hs (ow_list (x _) nz upd_same ?_ (lw.append (ShL.one s)))) .non⟩
        rw [List.length_append, List.length_singleton]; omega
    · cases h
  · split at h
    · rename_i xs ys hz
      cases h
      rcases o' with ⟨ws, ds', e1, ha, n, lw⟩ | ⟨_, _, e1, _⟩ | ⟨_, _, e1, _⟩ <;> cases e1
      cases l with
      | cons s t =>
        cases t
        obtain ⟨b, us, rfl, s1, n1, l1⟩ := has_listX (o := false) s
        have hz' : ws.length + us.length ≤ sizeLine := by rw [lw.length, l1.length]; exact hz
        refine ⟨a, b, ws, us, rfl, rfl, ha, s1, hz', q _ _ (A.put e hs (ow_list (x _) nz upd_same ?_ (lw.append l1))) .non⟩
        rw [List.length_append]; exact hz'
    · cases h
  · split at h
    · rename_i xs k hz
      rcases o' with ⟨ws, ds', e1, ha, n, lw⟩ | ⟨_, _, e1, _⟩ | ⟨_, _, e1, _⟩ <;> cases e1
      cases e2 : xs[k.toNat]? with
      | none => rw [e2] at h; cases h
      | some y =>
        rw [e2] at h
        cases h
        obtain ⟨u, hu, su⟩ := lw.get e2
        cases l with
        | cons s t =>
          cases t
          cases has_int (o := false) s
          have hk : (k.toNat : Int) = k := by omega
          have hlt : k.toNat < ws.length := by rw [lw.length]; omega
          have hline := line63
          refine ⟨a, ws, k, k.toNat, u, rfl, rfl, ha, by omega, by omega, ?_, hu, q _ _ (A.put e hs (ow_list (x _) nz upd_same ?_ (lw.eraseIdx _))) (su.ext (x _))⟩
          · have := ixN_seq (n := ws.length) (i := k) (j := k.toNat) (by unfold ixN; rw [if_pos hz.1, if_pos (by rw [lw.length]; exact hz.2)])
            exact this.1
          · exact Nat.le_trans (len_erase _ _) n
    · cases h
  · rename_i xs
    rcases o' with ⟨ws, ds', e1, ha, n, lw⟩ | ⟨_, _, e1, _⟩ | ⟨_, _, e1, _⟩ <;> cases e1
    cases e2 : xs[xs.length - 1]? with
    | none => rw [e2] at h; cases h
    | some y =>
      rw [e2] at h
      cases h
      cases l
      obtain ⟨u, hu, su⟩ := lw.get e2
      have hd : ShL K Z H ws.dropLast xs.dropLast := by
        rw [List.dropLast_eq_take, List.dropLast_eq_take, lw.length]
        exact lw.take _
      refine ⟨a, ws, u, rfl, rfl, ha, by rw [lw.length]; exact hu, q _ _ (A.put e hs (ow_list (x _) nz upd_same ?_ hd)) (su.ext (x _))⟩
      rw [List.length_dropLast]; omega
  · cases h
theorem mut_ok {m : Mu} {i : Nat} {il : IL} {Q : VK} (h : TDE K cl W (dE Φ (.mut m i il)) σ H Q) : tBM K "list" (rMu K m) (tVar i) (TDD K cl W (dD Φ il)) σ H Q := by
  obtain ⟨ρ, Z, R, h⟩ := h
  simp only [dE] at h
  split at h
  · rename_i xs e
    obtain ⟨v, h1, h2⟩ := R.has i _ _ e
    obtain ⟨a, vs, rfl, s1, n1, l1⟩ := has_list h2
    refine ⟨_, h1, .inl ⟨rfl, _, s1⟩, ?_⟩
    refine TDD.mono (tdd_bind (Aft.refl R) h) fun ws H1 ⟨ds, ρ1, Z1, A1, _, l, h3⟩ => ?_
    split at h3
    · rename_i d e2
      cases e3 : muF m d ds with
      | none => simp only [e3] at h3; exact h3.elim
      | some p =>
        obtain ⟨r, d'⟩ := p
        simp only [e3] at h3
        exact good_mu A1 e2 h1 l e3 fun u H' B s => h3 _ _ B _ ⟨s, fun z => nomatch z⟩
    · exact h3.elim
  · exact h.elim
end
end Mv
namespace Mv
open PySem PySem.Spec L2
open PyProof.Rows hiding St

section
variable {X : Cx}
/-- the pairs as the heap has them -/
theorem pairs_at {pins : List (Addr × Obj)} {σ : L2.St} {H : Hp} {s : Shared} (I : Inv X pins σ H s) : ∀ {ps : List Addr} {kvs : List (Key × V)}, Paired (fun p (kv : Key × V) => SqT X.K H p [kV kv.1, kv.2]) ps kvs →
    ∃ (prs : List (Key × Value)) (raw : List (Value × Value)), KV kvs prs ∧ prs.length = ps.length ∧ raw.length = ps.length ∧
      ∀ (j : Nat) (k v : Value), raw[j]? = some (k, v) → ∃ (b : Addr) (q : Key), ps[j]? = some b ∧ s.heap.IsTuple b #[k, v] ∧ prs[j]? = some (q, v) ∧ keyIs q k = true
  | _, _, .nil => ⟨[], [], .nil, rfl, rfl, fun j k v e => by simp at e⟩
  | _, _, .cons (a := p) (b := kv) h t => by
    obtain ⟨prs, raw, r, l1, l2, hp⟩ := pairs_at I t
    obtain ⟨is, rv, ht, _⟩ := I.tuple h
    obtain ⟨u, y, ei, ru, ry⟩ := vals2 rv
    subst ei
    refine ⟨(kv.1, y) :: prs, (u, y) :: raw, .cons ⟨rfl, ry⟩ r, by simp [l1], by simp [l2], fun j k v e => ?_⟩
    cases j with
    | zero =>
      have e' : (u, y) = (k, v) := Option.some.inj e
      cases e'
      exact ⟨p, kv.1, rfl, ht, rfl, kV_is (P := X.prog) (w := X.w) ru⟩
    | succ j =>
      obtain ⟨b, q, e1, e2, e3, e4⟩ := hp j k v (by simpa using e)
      exact ⟨b, q, by simpa using e1, e2, by simpa using e3, e4⟩
def rDictA (K : PySem.W.Frag) : List V → Hp → VK → Prop := fun xs H Q => ∃ (a : Addr) (ps : List Addr) (kvs : List (Key × V)), xs = [.ref a] ∧ (SqL K H a (ps.map V.ref) ∨ TupX H a (ps.map V.ref)) ∧ Paired (fun p (kv : Key × V) => SqT K H p [kV kv.1, kv.2]) ps kvs ∧
    ∀ p, H p = none → Q (.ref p) (upd H p (.dK (mergeK [] kvs)))
theorem call_dictA (hc : X.calm = true) : CallR X (.type "dict") (rDictA X.K) := by
  intro pins s σ H xs us Q I r h
  obtain ⟨a, ps, kvs, ex, hq, hp, q⟩ := h
  subst ex
  obtain ⟨u, eu, rx⟩ := vals1 r
  subst eu
  cases (show u = Value.ref a from rx)
  obtain ⟨prs, raw, rel, l1, l2, at_⟩ := pairs_at I hp
  -- the end, whatever was walked
  have fin : ∀ (hz : ps.length ≤ sizeLine) h' tk, h'.DictOf (mixKind X.prog X.w) s.heap.objs.size (merged [] prs) → (∀ b o, s.heap.get? b = some o → h'.get? b = some o) → EP X pins σ Q (.ref s.heap.objs.size) { s with heap := h', toks := tk } := fun hz h' tk hd k => by
    have big : (s.heap.objs.size == sysModules) = false := beq_eq_false_iff_ne.mpr (Nat.ne_of_gt I.big)
    have few : (mergeK [] kvs).length ≤ sizeLine := Nat.le_trans (length_mergeK kvs []) (by rw [List.length_nil, Nat.zero_add, rel.length, l1]; exact hz)
    exact ⟨.ref s.heap.objs.size, _, I.laid (t' := tk) k (Nat.le_refl _) (show ObjOk X.prog X.w _ _ _ (.dK (mergeK [] kvs)) from ⟨few, big, merged [] prs, KV.merge rel .nil, hd⟩), rfl, q _ (I.hok.fresh (Nat.le_refl _))⟩
  have items : ∀ {is : List Value}, Vals (ps.map V.ref) is → PairItems s.heap is.toArray (fun j => ps.getD j 0) raw := fun {is} rv => by
    have e := refs_at rv
    subst e
    refine ⟨by simp [l2], fun j k v e => ?_⟩
    obtain ⟨b, q, e1, e2, _⟩ := at_ j k v e
    exact ⟨by simp [e1], by simp only [List.getD_eq_getElem?_getD, e1, Option.getD_some]; exact .inl e2⟩
  have have_ : PairsHave (mixKind X.prog X.w) raw.length (PairRel raw) prs := ⟨by rw [l1, l2], fun i key v e => by
    obtain ⟨b, q, _, _, e3, e4⟩ := at_ i key v e
    exact ⟨q, e3, e4⟩⟩
  rcases hq with hq | ⟨ts, hq⟩
  · obtain ⟨is, rv, pl, hz⟩ := I.list hq
    rw [List.length_map] at hz
    obtain ⟨o, n, ho, hcl, hd, hdat⟩ := pl
    exact PySem.call_dict_pairs (PairArg.list a is.toArray (fun j => ps.getD j 0) raw) (I.ok.hd hc) ⟨⟨o, n, ho, hcl, hd, hdat⟩, items rv⟩ have_ (by rw [l2]; exact hz) fun h' tk hd' k => fin hz h' tk hd' fun b o e => k b o (fun z => nomatch z) e
  · obtain ⟨ho, hz, is, rv, ⟨o2, ho2, hcl2, n2, hd2⟩⟩ := I.hok a _ hq
    rw [List.length_map] at hz
    rw [ho] at ho2
    cases ho2
    exact PySem.call_dict_pairs (PairArg.tuple a is.toArray (fun j => ps.getD j 0) raw) (I.ok.hd hc) ⟨⟨_, n2, ho, rfl, rfl, hd2⟩, items rv⟩ have_ (by rw [l2]; exact hz) fun h' tk hd' k => fin hz h' tk hd' fun b o e => k b o (fun z => nomatch z) e
end
end Mv
namespace Mv
open PySem PySem.Spec L2
open PyProof.Rows hiding St
variable [G : Glo]

section
variable {K : PySem.W.Frag} {Z : Zt} {H : Hp} {v : V} {d : D}
theorem ShK.any {kvs : List (Key × V)} {es : List (D × D)} (k : Key) : ∀ {kvs : List (Key × V)} {es : List (D × D)}, ShK K Z H kvs es → (es.any fun e => decide (dkey e.1 = some k)) = kvs.any fun kv => decide (kv.1 = k)
  | _, _, .nil => rfl
  | (j, v) :: kvs, (_, d) :: es, .cons s l => by
    rw [List.any_cons, List.any_cons, ShK.any (kvs := kvs) (es := es) k l]
    simp [dkey_kD]
theorem ShK.upd_ {k : Key} (hv : Sh K Z H v d) : ∀ {kvs : List (Key × V)} {es : List (D × D)}, ShK K Z H kvs es → ShK K Z H (kvs.map fun kv => if kv.1 = k then (kv.1, v) else kv) (es.map fun e => if dkey e.1 = some k then (e.1, d) else e)
  | _, _, .nil => .nil
  | (j, w) :: kvs, (_, e) :: es, .cons s l => by
    rw [List.map_cons, List.map_cons]
    by_cases h : j = k
    · simp only [dkey_kD, h, if_true]
      exact .cons hv (ShK.upd_ hv l)
    · simp only [dkey_kD, Option.some.injEq, h, if_false]
      exact .cons s (ShK.upd_ hv l)
theorem ShK.snoc {k : Key} (hv : Sh K Z H v d) : ∀ {kvs : List (Key × V)} {es : List (D × D)}, ShK K Z H kvs es → ShK K Z H (kvs ++ [(k, v)]) (es ++ [(kD k, d)])
  | _, _, .nil => .cons hv .nil
  | _, _, .cons s l => .cons s (ShK.snoc hv l)
theorem ShK.put {kvs : List (Key × V)} {es : List (D × D)} (l : ShK K Z H kvs es) (k : Key) (hv : Sh K Z H v d) {kd : D} (hk : dkey kd = some k) : ShK K Z H (putK kvs k v) (putE dkey es k kd d) := by
  have ek : kd = kD k := by
    unfold dkey at hk
    split at hk <;> cases hk <;> rfl
  subst ek
  unfold putK putE
  rw [ShK.any (kvs := kvs) (es := es) k l]
  split
  · exact l.upd_ hv
  · exact l.snoc hv
theorem ShK.len : ∀ {kvs : List (Key × V)} {es : List (D × D)}, ShK K Z H kvs es → kvs.length = es.length
  | _, _, .nil => rfl
  | _, _, .cons _ l => congrArg (· + 1) (ShK.len l)
/-- the pairs that are merged -/
inductive PP (K : PySem.W.Frag) (Z : Zt) (H : Hp) : List (Key × V) → List (Key × D) → Prop
  | nil : PP K Z H [] []
  | cons {k : Key} {v : V} {d : D} {kvs : List (Key × V)} {ps : List (Key × D)} : Sh K Z H v d → PP K Z H kvs ps → PP K Z H ((k, v) :: kvs) ((k, d) :: ps)
theorem merge_sh : ∀ {more : List (Key × V)} {ps : List (Key × D)} {kvs : List (Key × V)} {es : List (D × D)}, PP K Z H more ps → ShK K Z H kvs es →
    ShK K Z H (mergeK kvs more) (ps.foldl (fun es p => putE dkey es p.1 (kD p.1) p.2) es)
  | _, _, _, _, .nil, l => l
  | (k, v) :: more, (_, d) :: ps, kvs, es, .cons s t, l => merge_sh (ps := ps) (kvs := putK kvs k v) (es := putE dkey es k (kD k) d) t (l.put k s (dkey_kD k))
theorem pairs_sh : ∀ {ds : List D} {vs : List V} {ps : List (Key × D)}, ShL K Z H vs ds → pairsF ds = some ps → ∃ (as : List Addr) (kvs : List (Key × V)), vs = as.map V.ref ∧ Paired (fun p (kv : Key × V) => SqT K H p [kV kv.1, kv.2]) as kvs ∧ PP K Z H kvs ps
  | [], _, _, l, e => by
    cases l
    simp only [pairsF] at e
    cases e
    exact ⟨[], [], rfl, .nil, .nil⟩
  | x :: ds, _, ps, l, e => by
    cases l with
    | cons r t =>
      unfold pairsF at e
      split at e
      · rename_i e0; cases e0
      · rename_i k v rest e0
        cases e0
        split at e
        · rename_i kk qs e1 e2
          cases e
          obtain ⟨as, kvs, rfl, p1, p2⟩ := pairs_sh t e2
          have r' : Has K Z H _ (.tuple [k, v]) false := r
          obtain ⟨a, ws, rfl, h1, _, l2⟩ := has_tuple r'
          cases l2 with
          | cons s1 t1 =>
            cases t1 with
            | cons s2 t2 =>
              cases t2
              have s1' : Has K Z H _ k false := s1
              cases key_v s1' e1
              exact ⟨a :: as, (kk, _) :: kvs, rfl, .cons h1 p1, .cons s2 p2⟩
        · cases e
      · cases e
theorem Gv.dict {kvs : List (Key × V)} {es : List (D × D)} {p : Addr} (nz : ¬ Z p) (n : H p = none) (l : ShK K Z H kvs es) : Gv K Z H (.ref p) (.dict es) true (upd H p (.dK kvs)) := by
  have g : ∀ a o, H a = some o → upd H p (.dK kvs) a = some o := fun a o h => by rw [upd_ne (ne_of_none h n)]; exact h
  exact ⟨g, (⟨p, rfl, nz, .inr (.inl ⟨kvs, es, rfl, upd_same, l.ext (ext_grow g)⟩)⟩ : Ow K Z _ _ _), fun _ a e => by cases e; exact n⟩
theorem ints_v : ∀ {ds : List D} {vs : List V} {ns : List Int}, ShL K Z H vs ds → intsF ds = some ns → vs = ns.map V.int
  | [], _, _, l, e => by cases l; simp only [intsF] at e; cases e; rfl
  | x :: ds, _, ns, l, e => by
    cases l with
    | cons r t =>
      unfold intsF at e
      split at e
      · rename_i e0; cases e0
      · rename_i i rest e0
        cases e0
        rw [Option.map_eq_some_iff] at e
        obtain ⟨ms, e1, rfl⟩ := e
        have r' : Has K Z H _ (.int i) false := r
        rw [List.map_cons, has_int r', ints_v t e1]
      · cases e
theorem keys_int : ∀ {kvs : List (Key × V)} {es : List (D × D)} {ns : List Int}, ShK K Z H kvs es → intsF (es.map (·.1)) = some ns → kvs.map (·.1) = ns.map Sum.inl
  | _, _, _, .nil, e => by simp only [List.map_nil, intsF] at e; cases e; rfl
  | (k, v) :: kvs, (_, d) :: es, ns, .cons s l, e => by
    simp only [List.map_cons] at e
    cases k with
    | inr x => simp only [kD, intsF] at e; cases e
    | inl i =>
      simp only [kD, intsF, Option.map_eq_some_iff] at e
      obtain ⟨ms, e1, rfl⟩ := e
      rw [List.map_cons, List.map_cons, keys_int l e1]
end
theorem ins_perm (i : Int) : ∀ l : List Int, (insI i l).Perm (i :: l)
  | [] => .refl _
  | j :: r => by
    unfold insI
    split
    · exact .refl _
    · exact ((ins_perm i r).cons j).trans (List.Perm.swap i j r)
theorem sort_perm : ∀ l : List Int, (sortI l).Perm l
  | [] => .refl _
  | i :: r => (ins_perm i (sortI r)).trans ((sort_perm r).cons i)
theorem ins_sorted (i : Int) : ∀ {l : List Int}, l.Pairwise (· ≤ ·) → (insI i l).Pairwise (· ≤ ·)
  | [], _ => by simp [insI]
  | j :: r, h => by
    unfold insI
    obtain ⟨h1, h2⟩ := List.pairwise_cons.mp h
    split
    · rename_i c
      exact List.pairwise_cons.mpr ⟨fun x hx => by
        rcases List.mem_cons.mp hx with rfl | hx
        · exact c
        · exact Int.le_trans c (h1 x hx), h⟩
    · rename_i c
      refine List.pairwise_cons.mpr ⟨fun x hx => ?_, ins_sorted i h2⟩
      rcases List.mem_cons.mp ((ins_perm i r).mem_iff.mp hx) with rfl | hx
      · omega
      · exact h1 x hx
theorem sort_sorted : ∀ l : List Int, (sortI l).Pairwise (· ≤ ·)
  | [] => .nil
  | i :: r => ins_sorted i (sort_sorted r)
theorem sorted_eq : ∀ {a b : List Int}, a.Perm b → a.Pairwise (· ≤ ·) → b.Pairwise (· ≤ ·) → a = b
  | [], b, p, _, _ => (List.nil_perm.mp p).symm
  | x :: a, [], p, _, _ => absurd p.length_eq (by simp)
  | x :: a, y :: b, p, h1, h2 => by
    obtain ⟨a1, a2⟩ := List.pairwise_cons.mp h1
    obtain ⟨b1, b2⟩ := List.pairwise_cons.mp h2
    have e : x = y := by
      have m1 : x ∈ y :: b := p.mem_iff.mp List.mem_cons_self
      have m2 : y ∈ x :: a := p.mem_iff.mpr List.mem_cons_self
      rcases List.mem_cons.mp m1 with q | q
      · exact q
      · rcases List.mem_cons.mp m2 with q2 | q2
        · exact q2.symm
        · have := a1 y q2
          have := b1 x q
          omega
    subst e
    rw [sorted_eq (List.Perm.cons_inv p) a2 b2]
theorem sorted_is {ns ys : List Int} (h1 : ys.Perm ns) (h2 : ys.Pairwise (· ≤ ·)) : ys = sortI ns := sorted_eq (h1.trans (sort_perm ns).symm) h2 (sort_sorted ns)
theorem sort_len (ns : List Int) : (sortI ns).length = ns.length := (sort_perm ns).length_eq
end Mv
namespace Mv
open PySem PySem.Spec L2
open PyProof.Rows hiding St
variable [G : Glo]

section
variable {K : PySem.W.Frag} {cl : Cl} {W : WX} {Z Z' : Zt} {H H' : Hp} {v w : V} {d e : D} {own : Bool}
variable {X : Cx} {a b c : Expr} {es : List Expr} {pos p p2 apos : Pos} {Φ : Fn}
def isStar : Expr → Bool
  | .Starred _ _ => true
  | _ => false
theorem star_cons {env : Env} (h : isStar a = false) : starEach (a :: es) env = (false, eval a env) :: starEach es env := by
  cases a <;> first | rfl | cases h
theorem star_any {env : Env} : ∀ {es : List Expr}, (es.all fun e => !isStar e) = true → (backTo pos (starEach es env)).any (·.1) = false
  | [], _ => rfl
  | e :: es, h => by
    simp only [List.all_cons, Bool.and_eq_true, Bool.not_eq_true'] at h
    rw [star_cons h.1]
    show (false || (backTo pos (starEach es env)).any (·.1)) = false
    rw [star_any h.2]
    rfl
theorem star_all {env : Env} : ∀ {es : List Expr}, (es.all fun e => !isStar e) = true → (backTo pos (starEach es env)).all (fun x => !x.1) = true
  | [], _ => rfl
  | e :: es, h => by
    simp only [List.all_cons, Bool.and_eq_true, Bool.not_eq_true'] at h
    rw [star_cons h.1]
    show (true && (backTo pos (starEach es env)).all (fun x => !x.1)) = true
    rw [star_all h.2]
    rfl

def rRepr (K : PySem.W.Frag) : List V → Hp → VK → Prop := fun xs H Q => ∃ x d, xs = [x] ∧ Dp K H x d ∧ reprOk d = true ∧ Q (.str d.shown) H
theorem call_reprD (hg : X.A.guards = some []) (hu : X.A.units + 70 < cLine) : CallR X (.builtin "repr") (rRepr X.K) := by
  intro pins s σ H xs us Q I r h
  obtain ⟨x, d, rfl, hd, ok, q⟩ := h
  obtain ⟨u, rfl, ru⟩ := vals1 r
  obtain ⟨as, rd⟩ := Dp.reads I d x u hd ru
  simp only [reprOk, Bool.and_eq_true, Bool.not_eq_true', decide_eq_true_eq] at ok
  obtain ⟨⟨⟨k1, k2⟩, k3⟩, k4⟩ := ok
  have fin : ∀ h' t tk, (∀ b o, s.heap.get? b = some o → h'.get? b = some o) → EP X pins σ Q (.str d.shown t) { s with heap := h', toks := tk } := fun h' t tk hk => ⟨.str d.shown, H, I.kept hk, ⟨_, rfl⟩, q⟩
  cases rd with
  | none => exact P.repr_of_none (fin s.heap _ _ fun _ _ z => z)
  | bool b => exact P.repr_of_bool (by simpa only [PyData.shown] using fin s.heap _ _ fun _ _ z => z)
  | int i t => exact P.repr_of_int (by simpa [PyData.showable] using k1) (by simpa only [PyData.shown] using fin s.heap _ _ fun _ _ z => z)
  | str y t => exact P.repr_of_str (by simpa only [PyData.shown] using fin s.heap _ _ fun _ _ z => z) (by simpa only [PyData.shown] using k3)
  | list h1 h2 h3 h4 => exact repr_of_reads' (.list h1 h2 h3 h4) k1 (PyData.noDict_hsm k2) hg (by omega) (fun _ _ z => z) fin k3
  | tuple h1 h2 h3 h4 => exact repr_of_reads' (.tuple h1 h2 h3 h4) k1 (PyData.noDict_hsm k2) hg (by omega) (fun _ _ z => z) fin k3
  | dict h1 h2 h3 h4 h5 => simp only [PyData.hasDict] at k2; cases k2

def rNoB : List V → Hp → VK → Prop := fun _ _ _ => False
def biVal : Bi → Value
  | .len => .builtin "len"
  | .int => .type "int"
  | .tuple => .type "tuple"
  | .list => .type "list"
  | .max2 => .builtin "max"
  | .min2 => .builtin "min"
  | .repr => .builtin "repr"
  | .sorted => .builtin "sorted"
  | .abs => .builtin "abs"
  | .sum => .builtin "sum"
  | .dict => .type "dict"
  | .all => .builtin "all"
  | .any => .builtin "any"
def biNm : Bi → Str
  | .len => "len"
  | .int => "int"
  | .tuple => "tuple"
  | .list => "list"
  | .max2 => "max"
  | .min2 => "min"
  | .repr => "repr"
  | .sorted => "sorted"
  | .abs => "abs"
  | .sum => "sum"
  | .dict => "dict"
  | .all => "all"
  | .any => "any"
def rBi (K : PySem.W.Frag) : Bi → List V → Hp → VK → Prop
  | .len => fun xs H Q => ∃ x n, xs = [x] ∧ LenV K x H n ∧ Q (.int n) H
  | .int => fun xs H Q => (∃ i, xs = [.int i] ∧ Q (.int i) H) ∨ ∃ k, xs = [.bl k] ∧ Q (.int (if k then 1 else 0)) H
  | .tuple => fun xs H Q => ∃ p ys, xs = [.ref p] ∧ ((SqL K H p ys ∧ NewT H ys Q) ∨ (SqT K H p ys ∧ Q (.ref p) H))
  | .list => fun xs H Q => ∃ p ys, xs = [.ref p] ∧ (SqL K H p ys ∨ SqT K H p ys) ∧ ∀ l, H l = none → Q (.ref l) (upd H l (.lst ys))
  | .max2 => fun xs H Q => ∃ i j, xs = [.int i, .int j] ∧ Q (.int (if j > i then j else i)) H
  | .min2 => fun xs H Q => ∃ i j, xs = [.int i, .int j] ∧ Q (.int (if j < i then j else i)) H
  | .repr => rRepr K
  | .dict => rDictA K
  | .all => rAll K
  | .any => rAny K
  | .sorted => fun xs H Q => (∃ (a : Addr) (ns : List Int), xs = [.ref a] ∧ SqL K H a (ns.map V.int) ∧ ∀ p, H p = none → Q (.ref p) (upd H p (.lst ((sortI ns).map V.int)))) ∨
      ∃ (a : Addr) (kvs : List (Key × V)) (ks : List Int), xs = [.ref a] ∧ Rd H a (.dK kvs) ∧ kvs.map (·.1) = ks.map Sum.inl ∧ ks.length < 64 ∧ ∀ p, H p = none → Q (.ref p) (upd H p (.lst ((sortI ks).map V.int)))
  | _ => rNoB
theorem call_noB {f : Value} : CallR X f rNoB := fun _ _ _ _ _ _ _ _ _ h => h.elim
/-- those that may be called within an except suite -/
def hotB : Bi → Bool
  | .len | .int | .tuple | .list | .repr => true
  | _ => false
theorem call_bi {b : Bi} (hc : X.calm = true ∨ hotB b = true) (hg : X.A.guards = some []) (hu : X.A.units + 70 < cLine) : CallR X (biVal b) (rBi X.K b) := by
  match b with
  | .len => exact call_len
  | .int => exact call_int1
  | .tuple => exact call_tupleX
  | .list => exact call_list_of
  | .max2 => exact call_max2 (hc.resolve_right (fun z => nomatch z))
  | .min2 => exact call_min2 (hc.resolve_right (fun z => nomatch z))
  | .repr => exact call_reprD hg hu
  | .sorted =>
    intro pins s σ H xs us Q I r h
    rcases h with ⟨a, ns, e, h1, q⟩ | ⟨a, kvs, ks, e, h1, h2, h3, q⟩
    · exact cr_sortedI pins s σ H xs us Q I r ⟨a, ns, e, h1, fun ys p z1 z2 hp => by rw [sorted_is z1 z2]; exact q p hp⟩
    · exact call_sortedDI (hc.resolve_right (fun z => nomatch z)) pins s σ H xs us Q I r ⟨a, kvs, ks, e, h1, h2, h3, fun ys p z1 z2 hp => by rw [sorted_is z1 z2]; exact q p hp⟩
  | .abs => exact call_noB
  | .sum => exact call_noB
  | .dict => exact call_dictA (hc.resolve_right (fun z => nomatch z))
  | .all => exact cr_all (hc.resolve_right (fun z => nomatch z))
  | .any => exact cr_any (hc.resolve_right (fun z => nomatch z))
theorem paired1 {α β : Type} {F : α → β → Prop} {xs : List α} {y : β} (h : Paired F xs [y]) : ∃ x, xs = [x] ∧ F x y := by
  cases h with
  | cons r t => cases t; exact ⟨_, rfl, r⟩
theorem paired2 {α β : Type} {F : α → β → Prop} {xs : List α} {y z : β} (h : Paired F xs [y, z]) : ∃ x w, xs = [x, w] ∧ F x y ∧ F w z := by
  cases h with
  | cons r t =>
    cases t with
    | cons r2 t => cases t; exact ⟨_, _, rfl, r, r2⟩
theorem map1 {xs : List (D × Bool)} {y : D} (h : xs.map (·.1) = [y]) : ∃ o, xs = [(y, o)] := by
  cases xs with
  | nil => cases h
  | cons x t =>
    cases t with
    | nil => cases h; exact ⟨_, rfl⟩
    | cons _ _ => simp at h
theorem map2 {xs : List (D × Bool)} {y z : D} (h : xs.map (·.1) = [y, z]) : ∃ o o', xs = [(y, o), (z, o')] := by
  cases xs with
  | nil => cases h
  | cons x t =>
    cases t with
    | nil => simp at h
    | cons x2 t =>
      cases t with
      | nil => cases h; exact ⟨_, _, rfl⟩
      | cons _ _ => simp at h
theorem bools_v {Z : Zt} {H : Hp} : ∀ {ds : List D} {vs : List V} {bs : List Bool}, ShL K Z H vs ds → boolsF ds = some bs → vs = bs.map V.bl
  | [], _, _, l, e => by cases l; simp only [boolsF] at e; cases e; rfl
  | x :: ds, _, bs, l, e => by
    cases l with
    | cons r t =>
      unfold boolsF at e
      split at e
      · rename_i e0; cases e0
      · rename_i b rest e0
        cases e0
        rw [Option.map_eq_some_iff] at e
        obtain ⟨cs, e1, rfl⟩ := e
        have r' : Has K Z H _ (.bool b) false := r
        rw [List.map_cons, has_bool r', bools_v t e1]
      · cases e
theorem ints_shS {Z : Zt} {H : Hp} : ∀ ns : List Int, ShL K Z H (ns.map V.int) (ns.map PyData.int)
  | [] => .nil
  | n :: ns => .cons (.int n) (ints_shS ns)
theorem good_bi (b : Bi) : GoodB K (rBi K b) (biF b) := by
  intro Z H vs xs z own Q fr l e q
  unfold biF at e
  split at e
  case h_1 _ ys e1 =>
    cases e
    obtain ⟨o, rfl⟩ := map1 e1
    obtain ⟨x, rfl, h⟩ := paired1 l
    obtain ⟨a, ws, rfl, s, n, lw⟩ := has_list h
    exact ⟨_, ys.length, rfl, .inl ⟨ws, s, lw.length.symm⟩, q _ _ (Gv.same (.int _))⟩
  case h_2 _ ys e1 =>
    cases e
    obtain ⟨o, rfl⟩ := map1 e1
    obtain ⟨x, rfl, h⟩ := paired1 l
    obtain ⟨a, ws, rfl, s, n, lw⟩ := has_tuple h
    exact ⟨_, ys.length, rfl, .inr ⟨ws, s, lw.length.symm⟩, q _ _ (Gv.same (.int _))⟩
  case h_3 _ i e1 =>
    cases e
    obtain ⟨o, rfl⟩ := map1 e1
    obtain ⟨x, rfl, h⟩ := paired1 l
    cases has_int h
    exact .inl ⟨i, rfl, q _ _ (Gv.same (.int _))⟩
  case h_4 _ i e1 =>
    cases e
    obtain ⟨o, rfl⟩ := map1 e1
    obtain ⟨x, rfl, h⟩ := paired1 l
    cases has_bool h
    exact .inr ⟨i, rfl, q _ _ (Gv.same (.int _))⟩
  case h_5 _ ys e1 =>
    cases e
    obtain ⟨o, rfl⟩ := map1 e1
    obtain ⟨x, rfl, h⟩ := paired1 l
    obtain ⟨a, ws, rfl, s, n, lw⟩ := has_list h
    exact ⟨a, ws, rfl, .inl ⟨s, fun p us hp => q _ _ (Gv.tup hp n lw)⟩⟩
  case h_6 _ ys e1 =>
    cases e
    obtain ⟨o, rfl⟩ := map1 e1
    obtain ⟨x, rfl, h⟩ := paired1 l
    obtain ⟨a, ws, rfl, s, n, lw⟩ := has_tupleS h
    exact ⟨a, ws, rfl, .inr ⟨s.sq, q _ _ (Gv.same (.tup s n lw))⟩⟩
  case h_7 _ ys e1 =>
    cases e
    obtain ⟨o, rfl⟩ := map1 e1
    obtain ⟨x, rfl, h⟩ := paired1 l
    obtain ⟨a, ws, rfl, s, n, lw⟩ := has_list h
    exact ⟨a, ws, rfl, .inl s, fun p hp => q _ _ (Gv.lst (fr p hp) hp n lw)⟩
  case h_8 _ ys e1 =>
    cases e
    obtain ⟨o, rfl⟩ := map1 e1
    obtain ⟨x, rfl, h⟩ := paired1 l
    obtain ⟨a, ws, rfl, s, n, lw⟩ := has_tuple h
    exact ⟨a, ws, rfl, .inr s, fun p hp => q _ _ (Gv.lst (fr p hp) hp n lw)⟩
  case h_9 _ i j e1 =>
    cases e
    obtain ⟨o, o', rfl⟩ := map2 e1
    obtain ⟨x, y, rfl, h, h2⟩ := paired2 l
    cases has_int h
    cases has_int h2
    exact ⟨i, j, rfl, q _ _ (Gv.same (.int _))⟩
  case h_10 _ i j e1 =>
    cases e
    obtain ⟨o, o', rfl⟩ := map2 e1
    obtain ⟨x, y, rfl, h, h2⟩ := paired2 l
    cases has_int h
    cases has_int h2
    exact ⟨i, j, rfl, q _ _ (Gv.same (.int _))⟩
  case h_11 _ y e1 =>
    split at e
    · rename_i k
      cases e
      obtain ⟨o, rfl⟩ := map1 e1
      obtain ⟨x, rfl, h⟩ := paired1 l
      refine ⟨x, y, rfl, h.dp ?_, k, q _ _ (Gv.same (.str _))⟩
      simp only [reprOk, Bool.and_eq_true, Bool.not_eq_true'] at k
      exact k.1.1.2
    · cases e
  case h_12 _ ds e1 =>
    cases e2 : pairsF ds with
    | none => rw [e2] at e; cases e
    | some ps =>
      rw [e2] at e
      cases e
      obtain ⟨o, rfl⟩ := map1 e1
      obtain ⟨x, rfl, h⟩ := paired1 l
      obtain ⟨a, ws, rfl, s, n, lw⟩ := has_list h
      obtain ⟨as, kvs, rfl, p1, p2⟩ := pairs_sh lw e2
      exact ⟨a, as, kvs, rfl, .inl s, p1, fun p hp => q _ _ (Gv.dict (fr p hp) hp (merge_sh p2 .nil))⟩
  case h_13 _ ds e1 =>
    cases e2 : pairsF ds with
    | none => rw [e2] at e; cases e
    | some ps =>
      rw [e2] at e
      cases e
      obtain ⟨o, rfl⟩ := map1 e1
      obtain ⟨x, rfl, h⟩ := paired1 l
      obtain ⟨a, ws, rfl, s, n, lw⟩ := has_tupleS h
      obtain ⟨as, kvs, rfl, p1, p2⟩ := pairs_sh lw e2
      exact ⟨a, as, kvs, rfl, .inr s, p1, fun p hp => q _ _ (Gv.dict (fr p hp) hp (merge_sh p2 .nil))⟩
  case h_14 _ ds e1 =>
    cases e2 : intsF ds with
    | none => rw [e2] at e; cases e
    | some ns =>
      rw [e2] at e
      cases e
      obtain ⟨o, rfl⟩ := map1 e1
      obtain ⟨x, rfl, h⟩ := paired1 l
      obtain ⟨a, ws, rfl, s, n, lw⟩ := has_list h
      have ew := ints_v lw e2
      subst ew
      exact .inl ⟨a, ns, rfl, s, fun p hp => q _ _ (Gv.lst (fr p hp) hp (by rw [List.length_map, sort_len]; simpa using n) (ints_shS _))⟩
  case h_15 _ ds e1 =>
    cases e2 : boolsF ds with
    | none => rw [e2] at e; cases e
    | some bs =>
      rw [e2] at e
      cases e
      obtain ⟨o, rfl⟩ := map1 e1
      obtain ⟨x, rfl, h⟩ := paired1 l
      obtain ⟨a, ws, rfl, s, n, lw⟩ := has_list h
      have ew := bools_v lw e2
      subst ew
      exact ⟨a, bs, rfl, s, q _ _ (Gv.same (.bl _))⟩
  case h_16 _ ds e1 =>
    cases e2 : boolsF ds with
    | none => rw [e2] at e; cases e
    | some bs =>
      rw [e2] at e
      cases e
      obtain ⟨o, rfl⟩ := map1 e1
      obtain ⟨x, rfl, h⟩ := paired1 l
      obtain ⟨a, ws, rfl, s, n, lw⟩ := has_list h
      have ew := bools_v lw e2
      subst ew
      exact ⟨a, bs, rfl, s, q _ _ (Gv.same (.bl _))⟩
  case h_17 _ es e1 =>
    split at e
    · rename_i h64
      cases e2 : intsF (es.map (·.1)) with
      | none => rw [e2] at e; cases e
      | some ns =>
        rw [e2] at e
        cases e
        obtain ⟨o, rfl⟩ := map1 e1
        obtain ⟨x, rfl, h⟩ := paired1 l
        obtain ⟨a, rfl, hc⟩ := dict_cases h
        rcases hc with ⟨kvs, ha, lk⟩ | ⟨kvs, es', rfl, _, _⟩
        · have ek := keys_int lk e2
          have hl : ns.length = es.length := by
            have := congrArg List.length ek
            simp only [List.length_map] at this
            rw [← this, lk.len]
          exact .inr ⟨a, kvs, ns, rfl, .inl ha, ek, by omega, fun p hp => q _ _ (Gv.lst (fr p hp) hp (by rw [List.length_map, sort_len, hl]; exact Nat.le_trans (Nat.le_of_lt h64) (by decide)) (ints_shS _))⟩
        · simp only [List.map_cons, intsF] at e2
          cases e2
    · cases e
  case h_18 => cases e
theorem bi_val (b : Bi) : bootBuiltins (biNm b) = some (biVal b) := by
  cases b <;> decide +kernel
theorem se_bi {bi : Bi} {il : IL} (hc : X.calm = true ∨ hotB bi = true) (hgd : X.A.guards = some []) (hu : X.A.units + 70 < cLine) (hg : Gl X (biNm bi)) (hm : X.mg (biNm bi) = none) (hs : ((a :: es).all fun e => !isStar e) = true) (ha : PA X (a :: es) (TDL X.K cl W (dL Φ il))) :
    PE X (.Call (.Name (biNm bi) p) (a :: es) [] pos) (TDE X.K cl W (dE Φ (.bi bi il))) := by
  have h1 : isStar a = false := by
    simp only [List.all_cons, Bool.and_eq_true, Bool.not_eq_true'] at hs
    exact hs.1
  have h2 : (es.all fun e => !isStar e) = true := by
    simp only [List.all_cons, Bool.and_eq_true] at hs
    exact hs.2
  have hn : biNm bi ≠ "__name__" := by cases bi <;> decide
  have hd : (biNm bi == ("__debug__" : Str)) = false := by cases bi <;> decide
  have R := call_bi (b := bi) hc hgd hu
  have V := bi_val bi
  refine PE.weak (t := tCB (rBi X.K bi) (TDL X.K cl W (dL Φ il))) ?_ fun σ H Q h => bi_ok (good_bi bi) h
  have B : ∀ id, biVal bi = .builtin id → PE X (.Call (.Name (biNm bi) p) (a :: es) [] pos) (tCB (rBi X.K bi) (TDL X.K cl W (dL Φ il))) := fun id e => by
    rw [e] at R V
    exact pe_callB R hg hm V ha hn hd (star_cons h1) (star_any h2)
  have T : ∀ id, biVal bi = .type id → PE X (.Call (.Name (biNm bi) p) (a :: es) [] pos) (tCB (rBi X.K bi) (TDL X.K cl W (dL Φ il))) := fun id e => by
    rw [e] at R V
    exact pe_callTy R hg hm V ha hn hd (star_cons h1) (star_any h2)
  match bi with
  | .len | .max2 | .min2 | .repr | .sorted | .abs | .sum | .all | .any => exact B _ rfl
  | .int | .tuple | .list | .dict => exact T _ rfl

theorem base_name {x : Str} {m : Str} : attributeBase (.Name x p) m X.env (eval (.Name x p) X.env) = eval (.Name x p) X.env := rfl
def muIdB : Mu → String
  | .append => "list.append"
  | .extend => "list.extend"
  | .pop => "list.pop"
  | .popAt => "list.pop"
def muNm : Mu → Str
  | .append => "append"
  | .extend => "extend"
  | .pop => "pop"
  | .popAt => "pop"
theorem mt_mu (m : Mu) : MtR X (muIdB m) (rMu X.K m) := by
  match m with
  | .append => exact mt_append
  | .extend => exact mt_extX
  | .pop => exact mt_pop
  | .popAt => exact mt_popAt
theorem se_mut {m : Mu} {i : Nat} {x : Str} {il : IL} (hN : X.N[i]? = some x) (hv : Vis X.env.scope x) (hd : (x == ("__debug__" : Str)) = false) (hcd : (x == ("__classdict__" : Str)) = false)
    (hs : ((a :: es).all fun e => !isStar e) = true) (hl : (apos.endLine == pos.line) = true) (hk : (a :: es).length < 30) (ha : PA X (a :: es) (TDD X.K cl W (dD Φ il))) :
    PE X (.Call (.Attribute (.Name x p) (muNm m) apos) (a :: es) [] pos) (TDE X.K cl W (dE Φ (.mut m i il))) := by
  have h1 : isStar a = false := by
    simp only [List.all_cons, Bool.and_eq_true, Bool.not_eq_true'] at hs
    exact hs.1
  have h2 : (es.all fun e => !isStar e) = true := by
    simp only [List.all_cons, Bool.and_eq_true] at hs
    exact hs.2
  have few : ((backTo pos (starEach (a :: es) X.env)).all (fun x => !x.1) && (backToKw pos (keywordEach [] X.env)).all (fun x => x.1.isSome)
      && decide ((a :: es).length + ([] : List Keyword).length + (if ([] : List Keyword).isEmpty then 0 else 1) < 30)) = true := by
    rw [star_all hs]
    simp only [List.isEmpty_nil, if_true, List.length_nil, Nat.add_zero, decide_eq_true hk]
    rfl
  have slot : Slot "list" (muNm m) (muIdB m) := by
    match m with
    | .append => exact F.slot_list_append
    | .extend => exact F.slot_list_extend
    | .pop => exact F.slot_list_pop
    | .popAt => exact F.slot_list_pop
  have ty : typeOf (.builtin (muIdB m)) = pure (.type "method_descriptor") := by
    match m with
    | .append => exact F.type_list_append
    | .extend => exact F.type_list_extend
    | .pop => exact F.type_list_pop
    | .popAt => exact F.type_list_pop
  exact PE.weak (pe_bm F.plainAttrs_list slot ty (mt_mu m) (pe_var hN hv hd hcd) ha base_name few hl (star_cons h1) (star_any h2)) fun σ H Q h => mut_ok h
theorem se_mut0 {i : Nat} {x : Str} (hN : X.N[i]? = some x) (hv : Vis X.env.scope x) (hd : (x == ("__debug__" : Str)) = false) (hcd : (x == ("__classdict__" : Str)) = false)
    (hl : (apos.endLine == pos.line) = true) : PE X (.Call (.Attribute (.Name x p) (muNm .pop) apos) [] [] pos) (TDE X.K cl W (dE Φ (.mut .pop i .nil))) := by
  refine PE.weak (pe_bm0 F.plainAttrs_list F.slot_list_pop F.type_list_pop mt_pop (pe_var hN hv hd hcd) base_name hl) fun σ H Q h => ?_
  obtain ⟨v, h1, h2, h3⟩ := mut_ok h
  refine ⟨v, h1, h2, ?_⟩
  obtain ⟨ρ, Z, R, h⟩ := h3
  simp only [dD] at h
  exact h _ _ (Aft.refl R) [] .nil
end
end Mv
namespace Mv
open PySem PySem.Spec L2
open PyProof.Rows hiding St

theorem enumNew {v : Value} {o : Obj} {Hh : Heap → Prop} (B : Begins v o Hh) :
    Meets (Builtin.«enumerate.__new__» ⟨[.type "enumerate", v], []⟩) (fun _ R s => Hh s.heap ∧
      R (.ok (.ret (.ref (s.heap.push o).objs.size))) { s with heap := (s.heap.push o).push { cls := .type "enumerate", data := .fields #[.none, .bool false, .ref s.heap.objs.size, rawInt 0, .none, .none] } }) :=
  .of_wp fun prog w A R s h => by
    obtain ⟨hp, g, dd, tk, os⟩ := s
    obtain ⟨h1, h⟩ := h
    have su := sub_enumerate
    have go : ∀ {A' : Around} {E : Value → Shared → Prop} {Q : Value → Shared → Prop}, Q (.ref hp.objs.size) ⟨hp.push o, g, dd, tk, os⟩ → wpAny (model prog w) A' (pyIter v) Q E ⟨hp, g, dd, tk, os⟩ :=
      fun q => B.iter prog w _ _ ⟨hp, g, dd, tk, os⟩ _ h1 q
    wp_walk using go
    refine wpAny_stack_any fun st => wpAny_pure ?_
    split
    · rename_i c _ _ _ _ _
      cases (c == Value.type "enumerate") <;> (wp_walk using go; exact ⟨_, rfl, h⟩)
    · wp_walk using go
      exact ⟨_, rfl, h⟩
section
variable {prog : Program} {w : World} {A : Around} {E : Value → Shared → Prop} {s : Shared}
theorem call_enumT {l : Addr} {items : Array Value} {Q : Value → Shared → Prop} (hL : s.heap.IsTuple l items)
    (h : ∀ h', IsEnum h' (s.heap.objs.size + 1) s.heap.objs.size 0 .none → h'.IsTupleIter s.heap.objs.size l 0 → (∀ b o, s.heap.get? b = some o → h'.get? b = some o) → Q (.ref (s.heap.objs.size + 1)) { s with heap := h' }) :
    wpAny (model prog w) A (call (.type "enumerate") [.ref l]) Q E s := by
  refine callType_new F.called_enumerate (by decide) (F.typeCall_enumerate_1 _) (F.newCall_enumerate_1 _) (fun obj => F.args_object_init_2 obj _) F.entry_enumerate_new (enumNew (begins_tuple l items)) ⟨hL, ?_⟩
  have sz : (s.heap.push { cls := .type "tuple_iterator", data := .fields #[.ref l, .int 0 0] }).objs.size = s.heap.objs.size + 1 := Heap.size_push ..
  show _ ∧ _
  rw [sz]
  have it : IsEnum ((s.heap.push { cls := .type "tuple_iterator", data := .fields #[.ref l, .int 0 0] }).push { cls := .type "enumerate", data := .fields #[.none, .bool false, .ref s.heap.objs.size, rawInt 0, .none, .none] }) (s.heap.objs.size + 1) s.heap.objs.size 0 .none := by
    have q := Heap.get?_push_size (s.heap.push { cls := .type "tuple_iterator", data := .fields #[.ref l, .int 0 0] }) (o := { cls := .type "enumerate", data := .fields #[.none, .bool false, .ref s.heap.objs.size, rawInt 0, .none, .none] }) rfl
    rw [sz] at q
    exact q
  exact ⟨⟨_, it, rfl⟩, h _ it ⟨_, Heap.get?_push_of_some _ (Heap.get?_push_size _ rfl), rfl, rfl⟩ fun b o x => Heap.get?_push_of_some _ (Heap.get?_push_of_some _ x)⟩
end
/-- the tuple at a, each item in a new pair with its place -/
def ItE (K : PySem.W.Frag) (a : Addr) : It :=
  ⟨fun i H => ∃ (xs : List V) (x : V), SqT K H a xs ∧ xs[i]? = some x,
   fun i H v H' => ∃ T x us, v = .ref T ∧ H T = none ∧ H' = upd H T (.frz (tupO us) (.tup [.int (i : Nat), x])) ∧ ∀ xs, SqT K H a xs → xs[i]? = some x,
   fun i H => ∃ xs : List V, SqT K H a xs ∧ xs.length = i⟩
theorem turn_enumT {P : Program} {w : World} {K : PySem.W.Frag} {elts : List Expr} {kk : Nat} {tpos : Pos} (a e it : Addr) :
    Turn P w K (.Tuple elts kk tpos) (ItE K a) [e, it] e (fun i h => (∃ old, IsEnum h e it ((i : Nat) : Int) old) ∧ h.IsTupleIter it a i ∧ e ≠ it) where
  mem := List.mem_cons_self
  obj := fun i h st b hb => by
    obtain ⟨⟨old, he⟩, ⟨o, ho, hc, hd⟩, _⟩ := st
    rcases List.mem_cons.mp hb with z | z
    · subst z; exact ⟨_, he, fun v q => nomatch q⟩
    · have z := List.mem_singleton.mp z
      subst z; exact ⟨o, ho, fun v q => by rw [hd] at q; cases q⟩
  keep := fun i h h' ⟨⟨old, he⟩, hi, hne⟩ k => ⟨⟨old, k e List.mem_cons_self _ he⟩, hi.at fun o q => k it (List.mem_cons_of_mem _ List.mem_cons_self) o q, hne⟩
  item := by
    intro X hP hw hK hc i pins s σ H E I hf st hg
    subst hP hw hK
    obtain ⟨⟨old, he⟩, hit, hne⟩ := st
    obtain ⟨xs, x, hq, hx⟩ := hg
    obtain ⟨its, rv, p, hz⟩ := I.tuple hq
    obtain ⟨u, hu, ru⟩ := rv.get hx
    have hel : e < s.heap.objs.size := Heap.lt_size he
    have hil : it < s.heap.objs.size := by obtain ⟨_, q, _⟩ := id hit; exact Heap.lt_size q
    have hal : a ≠ it := fun z => by
      obtain ⟨o1, q1, c1, _⟩ := id hit
      obtain ⟨o2, q2, c2, _⟩ := id p
      rw [z, q1] at q2
      cases q2
      rw [c1] at c2
      injection c2 with q
      exact absurd q (by decide)
    have hae : e ≠ a := fun z => by
      obtain ⟨o2, q2, c2, _⟩ := id p
      have he' := id he
      unfold IsEnum at he'
      rw [z, q2] at he'
      cases he'
      injection c2 with q
      exact absurd q (by decide)
    have D := Draws.tuple (prog := X.prog) (w := X.w) (A := X.A.in1) (I.ok.hd hc) it a hal its.toArray
    have hlt : i < its.toArray.size := by
      rcases Nat.lt_or_ge i its.toArray.size with q | q
      · exact q
      · rw [List.getElem?_eq_none (by simpa using q)] at hu; cases hu
    refine wpAny_pyNext_enum_itemC D he ⟨hit, p⟩ hlt hne (by simp [hne, hae]) fun x' h' tk hx' ho hit' hT hsz hk => ?_
    have hxu : x' = u := by
      have h2 : its.toArray[i]? = some u := by simpa using hu
      rw [h2] at hx'
      exact (Option.some.inj hx').symm
    subst hxu
    refine ⟨_, rfl, wpAny_letOwnedTupleGo_enum (s := { s with heap := h', toks := tk + 1 }) ho fun h'' he' sb => ?_⟩
    have hT2 : h''.get? s.heap.objs.size = some { cls := .type "tuple", data := .seq #[.int i tk, x'] } := (sb.2 _ (Nat.ne_of_gt hel)).trans hT
    have fresh : ObjOk X.prog X.w (upd H s.heap.objs.size (.frz (tupO [.int i tk, x']) (.tup [.int (i : Nat), x]))) h'' s.heap.objs.size (.frz (tupO [.int i tk, x']) (.tup [.int (i : Nat), x])) :=
      ⟨hT2, by show 2 ≤ sizeLine; decide, [.int i tk, x'], .cons ⟨_, rfl⟩ (.cons ru .nil), ⟨_, hT2, rfl, _, rfl⟩⟩
    have I1 : Inv X pins σ (upd H s.heap.objs.size (.frz (tupO [.int i tk, x']) (.tup [.int (i : Nat), x]))) { s with heap := h'', toks := tk + 1 } :=
      I.turnedNew (ch := [e, it]) (fun b ob hb q => (sb.2 b (fun z => hb (by simp [z]))).trans (hk b ob (fun z => hb (by simp [z])) (fun z => hb (by simp [z])) q)) hf (Nat.le_refl _) fresh
    refine ⟨.ref s.heap.objs.size, _, I1, rfl, ⟨_, x, _, rfl, I.hok.fresh (Nat.le_refl _), rfl, fun ys hy => by rw [I.tuple_inj hy hq]; exact hx⟩, ⟨⟨x', ?_⟩, hit'.1.at fun o q => (sb.2 it (Ne.symm hne)).trans q, hne⟩, fun b hb => ?_⟩
    · have e1 : ((i + 1 : Nat) : Int) = (i : Int) + 1 := by omega
      rw [e1]; exact he'
    · have hb' : b < s.heap.objs.size := by
        rcases List.mem_cons.mp hb with z | z
        · subst z; exact hel
        · have z := List.mem_singleton.mp z
          subst z; exact hil
      rw [upd_ne (Nat.ne_of_lt hb')]
      exact (hf b hb).1
  done := by
    intro X hP hw hK hc i pins s σ H E I hf st hg
    subst hP hw hK
    obtain ⟨⟨old, he⟩, hit, hne⟩ := st
    obtain ⟨xs, hq, hx⟩ := hg
    obtain ⟨its, rv, p, hz⟩ := I.tuple hq
    have hal : a ≠ it := fun z => by
      obtain ⟨o1, q1, c1, _⟩ := id hit
      obtain ⟨o2, q2, c2, _⟩ := id p
      rw [z, q1] at q2
      cases q2
      rw [c1] at c2
      injection c2 with q
      exact absurd q (by decide)
    have D := Draws.tuple (prog := X.prog) (w := X.w) (A := X.A.in1) (I.ok.hd hc) it a hal its.toArray
    obtain ⟨f0, f1, f2, f3, f4, f5⟩ := hf it (List.mem_cons_of_mem _ List.mem_cons_self)
    have hi : i = its.toArray.size := by
      have q := rv.length
      rw [List.size_toArray]
      omega
    subst hi
    exact wpAny_pyNext_enum_endD D he ⟨hit, p⟩ fun h' eb => ⟨rfl, I.turned (t' := s.toks) (fun b o hb q => eb b o hb q) f0 f1 f3 f4 f5⟩
  self := fun A i s Q E st h => let ⟨⟨_, he⟩, _⟩ := st; wpAny_pyIter_enum he h
def iEnumT (K : PySem.W.Frag) (ta : TA) : TI := fun σ H R => ta σ H fun vs H1 => ∃ a xs, vs = [.ref a] ∧ SqT K H1 a xs ∧ R (ItE K a) H1
theorem pi_enumT {X : Cx} {e : Expr} {ta : TA} {p pos tpos : Pos} {elts : List Expr} {kk : Nat} (hg : Gl X "enumerate") (hm : X.mg "enumerate" = none) (ha : PA X [e] ta) (hs : starEach [e] X.env = [(false, eval e X.env)]) :
    PI X (.Tuple elts kk tpos) (.Call (.Name "enumerate" p) [e] [] pos) (iEnumT X.K ta) := by
  refine ⟨fun pins s σ H R I h => ?_⟩
  refine Call_ (ld_blt I hg hm boot_enumerate (PyProof.Rows.callWith_type1 (thn (ha.run pos pins s σ H _ I h) fun us s1 ⟨vs, H1, I1, r1, q1⟩ => ?_) hs rfl))
  obtain ⟨a, xs, ex, hq, q⟩ := q1
  subst ex
  cases r1 with
  | cons r rr =>
    cases rr
    cases r
    obtain ⟨its, rv, p', hz⟩ := I1.tuple hq
    refine call_enumT (items := its.toArray) p' fun h' he hit hk => wpAny_pyIter_enum he ?_
    have I2 : Inv X pins σ H1 { s1 with heap := h' } := I1.kept (t' := s1.toks) hk
    refine ⟨s1.heap.objs.size + 1, [s1.heap.objs.size + 1, s1.heap.objs.size], _, _, H1, rfl, I2, turn_enumT a (s1.heap.objs.size + 1) s1.heap.objs.size, ⟨⟨.none, he⟩, hit, Nat.succ_ne_self _⟩, fun b hb => ?_, q⟩
    have hle : s1.heap.objs.size ≤ b := by
      rcases List.mem_cons.mp hb with z | z
      · rw [z]; exact Nat.le_add_right _ _
      · rw [List.mem_singleton.mp z]; exact Nat.le_refl _
    exact I1.fpOk hle (I1.hok.fresh hle)
/-- the list at a, each item in a new pair with its place -/
def ItL (K : PySem.W.Frag) (a : Addr) : It :=
  ⟨fun i H => ∃ (xs : List V) (x : V), SqL K H a xs ∧ xs[i]? = some x,
   fun i H v H' => ∃ T x us, v = .ref T ∧ H T = none ∧ H' = upd H T (.frz (tupO us) (.tup [.int (i : Nat), x])) ∧ ∀ xs, SqL K H a xs → xs[i]? = some x,
   fun i H => ∃ xs : List V, SqL K H a xs ∧ xs.length = i⟩
theorem turn_enumL {P : Program} {w : World} {K : PySem.W.Frag} {elts : List Expr} {kk : Nat} {tpos : Pos} (a e it : Addr) :
    Turn P w K (.Tuple elts kk tpos) (ItL K a) [e, it] e (fun i h => (∃ old, IsEnum h e it ((i : Nat) : Int) old) ∧ h.IsListIter it a i ∧ e ≠ it) where
  mem := List.mem_cons_self
  obj := fun i h st b hb => by
    obtain ⟨⟨old, he⟩, ⟨o, ho, hc, hd⟩, _⟩ := st
    rcases List.mem_cons.mp hb with z | z
    · subst z; exact ⟨_, he, fun v q => nomatch q⟩
    · have z := List.mem_singleton.mp z
      subst z; exact ⟨o, ho, fun v q => by rw [hd] at q; cases q⟩
  keep := fun i h h' ⟨⟨old, he⟩, hi, hne⟩ k => ⟨⟨old, k e List.mem_cons_self _ he⟩, hi.at fun o q => k it (List.mem_cons_of_mem _ List.mem_cons_self) o q, hne⟩
  item := by
    intro X hP hw hK hc i pins s σ H E I hf st hg
    subst hP hw hK
    obtain ⟨⟨old, he⟩, hit, hne⟩ := st
    obtain ⟨xs, x, hq, hx⟩ := hg
    obtain ⟨its, rv, p, hz⟩ := I.list hq
    obtain ⟨u, hu, ru⟩ := rv.get hx
    have hel : e < s.heap.objs.size := Heap.lt_size he
    have hil : it < s.heap.objs.size := by obtain ⟨_, q, _⟩ := id hit; exact Heap.lt_size q
    have hal : a ≠ it := fun z => by
      obtain ⟨o1, q1, c1, _⟩ := id hit
      obtain ⟨o2, q2, c2, _⟩ := id p.isList
      rw [z, q1] at q2
      cases q2
      rw [c1] at c2
      injection c2 with q
      exact absurd q (by decide)
    have hae : e ≠ a := fun z => by
      obtain ⟨o2, q2, c2, _⟩ := id p.isList
      have he' := id he
      unfold IsEnum at he'
      rw [z, q2] at he'
      cases he'
      injection c2 with q
      exact absurd q (by decide)
    have D := Draws.list (prog := X.prog) (w := X.w) (A := X.A.in1) (I.ok.hd hc) it a hal its.toArray
    have hlt : i < its.toArray.size := by
      rcases Nat.lt_or_ge i its.toArray.size with q | q
      · exact q
      · rw [List.getElem?_eq_none (by simpa using q)] at hu; cases hu
    refine wpAny_pyNext_enum_itemC D he ⟨hit, p.isList⟩ hlt hne (by simp [hne, hae]) fun x' h' tk hx' ho hit' hT hsz hk => ?_
    have hxu : x' = u := by
      have h2 : its.toArray[i]? = some u := by simpa using hu
      rw [h2] at hx'
      exact (Option.some.inj hx').symm
    subst hxu
    refine ⟨_, rfl, wpAny_letOwnedTupleGo_enum (s := { s with heap := h', toks := tk + 1 }) ho fun h'' he' sb => ?_⟩
    have hT2 : h''.get? s.heap.objs.size = some { cls := .type "tuple", data := .seq #[.int i tk, x'] } := (sb.2 _ (Nat.ne_of_gt hel)).trans hT
    have fresh : ObjOk X.prog X.w (upd H s.heap.objs.size (.frz (tupO [.int i tk, x']) (.tup [.int (i : Nat), x]))) h'' s.heap.objs.size (.frz (tupO [.int i tk, x']) (.tup [.int (i : Nat), x])) :=
      ⟨hT2, by show 2 ≤ sizeLine; decide, [.int i tk, x'], .cons ⟨_, rfl⟩ (.cons ru .nil), ⟨_, hT2, rfl, _, rfl⟩⟩
    have I1 : Inv X pins σ (upd H s.heap.objs.size (.frz (tupO [.int i tk, x']) (.tup [.int (i : Nat), x]))) { s with heap := h'', toks := tk + 1 } :=
      I.turnedNew (ch := [e, it]) (fun b ob hb q => (sb.2 b (fun z => hb (by simp [z]))).trans (hk b ob (fun z => hb (by simp [z])) (fun z => hb (by simp [z])) q)) hf (Nat.le_refl _) fresh
    refine ⟨.ref s.heap.objs.size, _, I1, rfl, ⟨_, x, _, rfl, I.hok.fresh (Nat.le_refl _), rfl, fun ys hy => by rw [I.list_inj hy hq]; exact hx⟩, ⟨⟨x', ?_⟩, hit'.1.at fun o q => (sb.2 it (Ne.symm hne)).trans q, hne⟩, fun b hb => ?_⟩
    · have e1 : ((i + 1 : Nat) : Int) = (i : Int) + 1 := by omega
      rw [e1]; exact he'
    · have hb' : b < s.heap.objs.size := by
        rcases List.mem_cons.mp hb with z | z
        · subst z; exact hel
        · have z := List.mem_singleton.mp z
          subst z; exact hil
      rw [upd_ne (Nat.ne_of_lt hb')]
      exact (hf b hb).1
  done := by
    intro X hP hw hK hc i pins s σ H E I hf st hg
    subst hP hw hK
    obtain ⟨⟨old, he⟩, hit, hne⟩ := st
    obtain ⟨xs, hq, hx⟩ := hg
    obtain ⟨its, rv, p, hz⟩ := I.list hq
    have hal : a ≠ it := fun z => by
      obtain ⟨o1, q1, c1, _⟩ := id hit
      obtain ⟨o2, q2, c2, _⟩ := id p.isList
      rw [z, q1] at q2
      cases q2
      rw [c1] at c2
      injection c2 with q
      exact absurd q (by decide)
    have D := Draws.list (prog := X.prog) (w := X.w) (A := X.A.in1) (I.ok.hd hc) it a hal its.toArray
    obtain ⟨f0, f1, f2, f3, f4, f5⟩ := hf it (List.mem_cons_of_mem _ List.mem_cons_self)
    have hi : i = its.toArray.size := by
      have q := rv.length
      rw [List.size_toArray]
      omega
    subst hi
    exact wpAny_pyNext_enum_endD D he ⟨hit, p.isList⟩ fun h' eb => ⟨rfl, I.turned (t' := s.toks) (fun b o hb q => eb b o hb q) f0 f1 f3 f4 f5⟩
  self := fun A i s Q E st h => let ⟨⟨_, he⟩, _⟩ := st; wpAny_pyIter_enum he h
def iEnumL (K : PySem.W.Frag) (ta : TA) : TI := fun σ H R => ta σ H fun vs H1 => ∃ a xs, vs = [.ref a] ∧ SqL K H1 a xs ∧ R (ItL K a) H1
theorem pi_enumL {X : Cx} {e : Expr} {ta : TA} {p pos tpos : Pos} {elts : List Expr} {kk : Nat} (hg : Gl X "enumerate") (hm : X.mg "enumerate" = none) (ha : PA X [e] ta) (hs : starEach [e] X.env = [(false, eval e X.env)]) :
    PI X (.Tuple elts kk tpos) (.Call (.Name "enumerate" p) [e] [] pos) (iEnumL X.K ta) := by
  refine ⟨fun pins s σ H R I h => ?_⟩
  refine Call_ (ld_blt I hg hm boot_enumerate (PyProof.Rows.callWith_type1 (thn (ha.run pos pins s σ H _ I h) fun us s1 ⟨vs, H1, I1, r1, q1⟩ => ?_) hs rfl))
  obtain ⟨a, xs, ex, hq, q⟩ := q1
  subst ex
  cases r1 with
  | cons r rr =>
    cases rr
    cases r
    obtain ⟨its, rv, p', hz⟩ := I1.list hq
    refine call_enumerate_list p'.isList fun h' he hit _ hk => wpAny_pyIter_enum he ?_
    have I2 : Inv X pins σ H1 { s1 with heap := h' } := I1.kept (t' := s1.toks) hk
    refine ⟨s1.heap.objs.size + 1, [s1.heap.objs.size + 1, s1.heap.objs.size], _, _, H1, rfl, I2, turn_enumL a (s1.heap.objs.size + 1) s1.heap.objs.size, ⟨⟨.none, he⟩, hit, Nat.succ_ne_self _⟩, fun b hb => ?_, q⟩
    have hle : s1.heap.objs.size ≤ b := by
      rcases List.mem_cons.mp hb with z | z
      · rw [z]; exact Nat.le_add_right _ _
      · rw [List.mem_singleton.mp z]; exact Nat.le_refl _
    exact I1.fpOk hle (I1.hok.fresh hle)
end Mv
namespace Mv
open PySem PySem.Spec L2
open PyProof.Rows hiding St
variable [G : Glo]

section
variable {K : PySem.W.Frag} {cl : Cl} {W : WX} {Z Z' Z0 Z1 Z2 : Zt} {H H' H0 H1 H2 : Hp} {ρ ρ' ρ0 ρ1 ρ2 : En} {σ σ' σ0 : L2.St} {v w : V} {d d' e : D} {own : Bool} {o : Op}
variable {X : Cx} {a b c tg iter : Expr} {es : List Expr} {pos p p2 : Pos} {Φ : Fn}
def ItOk (K : PySem.W.Frag) (Z : Zt) (H : Hp) (J : It) (xs : List D) : Prop := ∀ (i : Nat) (Z' : Zt) (H' : Hp), Ext Z H Z' H' →
  (∀ d, xs[i]? = some d → J.go i H' ∧ ∀ v H2, J.yld i H' v H2 → (∀ a o, H' a = some o → H2 a = some o) ∧ Sh K Z' H2 v d) ∧ (i = xs.length → J.stop i H')
def TDI (K : PySem.W.Frag) (cl : Cl) (W : WX) (m : En → Rs (List D)) : TI := fun σ H R => ∃ ρ Z, Rel K ρ σ H Z ∧ Post K cl W ρ σ H Z (m ρ) fun xs _ H' Z' => ∀ J, ItOk K Z' H' J xs → xs.length ≤ sizeLine → R J H'
theorem PI.weak {tg iter : Expr} {w1 w2 : TI} (h : PI X tg iter w1) (q : ∀ σ H R, w2 σ H R → w1 σ H R) : PI X tg iter w2 := ⟨fun pins s σ H R I hw => h.run pins s σ H R I (q _ _ _ hw)⟩
theorem pi_or {tg iter : Expr} {w1 w2 : TI} (h : PI X tg iter w1) (h2 : PI X tg iter w2) : PI X tg iter fun σ H R => w1 σ H R ∨ w2 σ H R := ⟨fun pins s σ H R I hw => hw.elim (h.run pins s σ H R I) (h2.run pins s σ H R I)⟩
/-- what holds if the run ends well, or fails with what is wished -/
theorem post_mono {α β : Type} {r : Rs α} {r2 : Rs β} {k : α → En → Hp → Zt → Prop} {k2 : β → En → Hp → Zt → Prop} {f : α → En → Rs β} (h : Post K cl W ρ0 σ0 H0 Z0 (r.bind f) k2)
    (q : ∀ x ρ', r = .ok x ρ' → Post K cl W ρ0 σ0 H0 Z0 (f x ρ') k2 → ∀ H' Z', Aft K ρ0 σ0 H0 Z0 ρ' σ0 H' Z' → k x ρ' H' Z') : Post K cl W ρ0 σ0 H0 Z0 r k := by
  cases r with
  | bad => exact h
  | ex c p ρ' => exact h
  | ok x ρ' => exact fun H' Z' A => q x ρ' rfl h H' Z' A
theorem itl_ok {a : Addr} {xs : List D} (h : Sh K Z H (.ref a) (.list xs)) : (∃ vs, SqL K H a vs) ∧ ItOk K Z H (Itl K a) xs := by
  have key : ∀ Z' H', Ext Z H Z' H' → ∃ vs, SqL K H' a vs ∧ vs.length = xs.length ∧ ShL K Z' H' vs xs := fun Z' H' x => by
    obtain ⟨b, vs, e, s, n, l⟩ := has_list (o := false) (h.ext x)
    cases e
    exact ⟨vs, s, l.length, l⟩
  refine ⟨let ⟨vs, s, _⟩ := key Z H Ext.refl; ⟨vs, s⟩, fun i Z' H' x => ?_⟩
  obtain ⟨vs, s, n, l⟩ := key Z' H' x
  refine ⟨fun d e => ?_, fun e => ⟨vs, s, by omega⟩⟩
  obtain ⟨v, ev, sv⟩ := l.get e
  refine ⟨⟨vs, v, s, ev⟩, fun w H2 ⟨e1, y⟩ => ?_⟩
  subst e1
  have := y vs s
  rw [ev] at this
  cases this
  exact ⟨fun _ _ h => h, sv⟩
theorem itt_ok {a : Addr} {xs : List D} (h : Sh K Z H (.ref a) (.tuple xs)) : (∃ vs, SqT K H a vs) ∧ ItOk K Z H (Itt K a) xs := by
  have key : ∀ Z' H', Ext Z H Z' H' → ∃ vs, SqT K H' a vs ∧ vs.length = xs.length ∧ ShL K Z' H' vs xs := fun Z' H' x => by
    obtain ⟨b, vs, e, s, n, l⟩ := has_tuple (o := false) (h.ext x)
    cases e
    exact ⟨vs, s, l.length, l⟩
  refine ⟨let ⟨vs, s, _⟩ := key Z H Ext.refl; ⟨vs, s⟩, fun i Z' H' x => ?_⟩
  obtain ⟨vs, s, n, l⟩ := key Z' H' x
  refine ⟨fun d e => ?_, fun e => ⟨vs, s, by omega⟩⟩
  obtain ⟨v, ev, sv⟩ := l.get e
  refine ⟨⟨vs, v, s, ev⟩, fun w H2 ⟨e1, y⟩ => ?_⟩
  subst e1
  have := y vs s
  rw [ev] at this
  cases this
  exact ⟨fun _ _ h => h, sv⟩
/-- behind one operand that is kept -/
theorem tde_seal {α : Type} {m : ME} {f : D → En → Rs α} {k : α → En → Hp → Zt → Prop} (A : Aft K ρ0 σ H0 Z0 ρ σ H Z) (h : Post K cl W ρ0 σ H0 Z0 ((m ρ).bind fun o ρ1 => match sealE ρ1 o with
      | some (d, ρ2) => f d ρ2
      | none => .bad) k) :
    TDE K cl W m σ H (fun v H' => ∃ d ρ' Z', Aft K ρ0 σ H0 Z0 ρ' σ H' Z' ∧ Sh K Z' H' v d ∧ Post K cl W ρ0 σ H0 Z0 (f d ρ') k) := by
  refine TDE.mono (tde_bind A h) fun v H1 ⟨o, ρ1, Z1, A1, B1, hv, h1⟩ => ?_
  cases e : sealE ρ1 o with
  | none => rw [e] at h1; exact h1.elim
  | some p =>
    obtain ⟨d, ρ2⟩ := p
    rw [e] at h1
    obtain ⟨Z2, A2, s, _⟩ := seal_ok A1 hv e
    exact ⟨d, ρ2, Z2, A2, s, h1⟩
/-- a run whose end is known beforehand -/
theorem tde_or {m : ME} {Q1 Q2 : VK} {R : V → Hp → Prop} (h : TDE K cl W m σ H R) (q : (∀ v H', R v H' → Q1 v H') ∨ ∀ v H', R v H' → Q2 v H') : TDE K cl W m σ H Q1 ∨ TDE K cl W m σ H Q2 :=
  q.elim (fun q => .inl (h.mono q)) fun q => .inr (h.mono q)
/-- the result, when there is one -/
def okOf {α : Type} : Rs α → Option (α × En)
  | .ok x ρ => some (x, ρ)
  | _ => none
theorem si_seq {ie : IE} (ha : PE X iter (TDE X.K cl W (dE Φ ie))) : PI X tg iter (TDI X.K cl W (dI Φ (.seq ie))) := by
  refine PI.weak (pi_or (pi_list ha) (pi_tup ha)) fun σ H R h => ?_
  obtain ⟨ρ, Z, Rl, h⟩ := h
  simp only [dI] at h
  -- what is sealed is known ahead of the run
  cases e : dE Φ ie ρ with
  | bad => rw [e] at h; exact h.elim
  | ex c q ρ' =>
    refine .inl ⟨ρ, Z, Rl, ?_⟩
    rw [e] at h ⊢
    exact h
  | ok o ρ1 =>
    cases e2 : sealE ρ1 o with
    | none => rw [e] at h; simp only [Rs.bind, e2] at h; exact h.elim
    | some pr =>
      obtain ⟨d, ρ2⟩ := pr
      have run : ∀ (Q : VK), (∀ v H' Z', Aft X.K ρ σ H Z ρ2 σ H' Z' → Sh X.K Z' H' v d → Q v H') → TDE X.K cl W (dE Φ ie) σ H Q := fun Q q => by
        refine ⟨ρ, Z, Rl, ?_⟩
        rw [e]
        intro H' Z' A v hv
        obtain ⟨Z2, A2, s, _⟩ := seal_ok A hv e2
        exact q v H' Z2 A2 s
      rw [e] at h
      simp only [Rs.bind, e2] at h
      cases d with
      | list xs =>
        refine .inl (run _ fun v H' Z' A s => ?_)
        obtain ⟨b, vs, eb, _, n, l⟩ := has_list (o := false) s
        subst eb
        obtain ⟨h1, h2⟩ := itl_ok s
        exact ⟨b, rfl, h1, h H' Z' A _ h2 (by rw [← l.length]; exact n)⟩
      | tuple xs =>
        refine .inr (run _ fun v H' Z' A s => ?_)
        obtain ⟨b, vs, eb, _, n, l⟩ := has_tuple (o := false) s
        subst eb
        obtain ⟨h1, h2⟩ := itt_ok s
        exact ⟨b, rfl, h1, h H' Z' A _ h2 (by rw [← l.length]; exact n)⟩
      | _ => exact h.elim
theorem itr_ok {lo : Int} {n : Nat} {xs : List D} (hx : xs = (List.range n).map fun (k : Nat) => .int (lo + k)) : ItOk K Z H (Itr lo n) xs := by
  subst hx
  intro i Z' H' x
  refine ⟨fun d e => ?_, fun e => ?_⟩
  · have hi : i < n := by
      rcases Nat.lt_or_ge i n with q | q
      · exact q
      · rw [List.getElem?_eq_none (by simpa using q)] at e; cases e
    rw [List.getElem?_map, List.getElem?_range hi] at e
    cases e
    exact ⟨hi, fun v H2 ⟨e1, e2⟩ => by subst e1 e2; exact ⟨fun _ _ h => h, .int _⟩⟩
  · rw [List.length_map, List.length_range] at e
    exact Nat.le_of_eq e.symm
theorem range1_ok {ie : IE} {σ : L2.St} {H : Hp} {R : It → Hp → Prop} (h : TDI K cl W (dI Φ (.range1 ie)) σ H R) : iRng1 (tCons (TDE K cl W (dE Φ ie)) tNil) σ H R := by
  obtain ⟨ρ, Z, Rl, h⟩ := h
  simp only [dI] at h
  refine TDE.mono (tde_one (Aft.refl Rl) h) fun v H1 ⟨x, ox, ρ1, Z1, A1, hv, h1⟩ => ?_
  split at h1
  · rename_i n
    split at h1
    · rename_i hb
      cases has_int hv
      refine ⟨n, rfl, hb.1, by omega, h1 _ _ A1 _ (itr_ok (by simp)) (by rw [List.length_map, List.length_range, sizeLine_eq]; omega)⟩
    · exact h1.elim
  · exact h1.elim
theorem si_range1 {ie : IE} (hg : Gl X "range") (hm : X.mg "range" = none) (hs : isStar a = false) (ha : PE X a (TDE X.K cl W (dE Φ ie))) : PI X tg (.Call (.Name "range" p) [a] [] pos) (TDI X.K cl W (dI Φ (.range1 ie))) :=
  PI.weak (pi_range1 hg hm (pa_cons ha pa_nil (star_cons hs)) (star_cons hs)) fun σ H R h => range1_ok h
theorem si_range1H {ie : IE} (hg : Gl X "range") (hm : X.mg "range" = none) (hs : isStar a = false) (ha : PE X a (TDE X.K cl W (dE Φ ie))) : L2H.PIH X tg (.Call (.Name "range" p) [a] [] pos) (TDI X.K cl W (dI Φ (.range1 ie))) :=
  ⟨fun pins s σ H R I h => (L2H.pi_range1H (tg := tg) hg hm (pa_cons ha pa_nil (star_cons hs)) (star_cons hs)).run pins s σ H R I (range1_ok h)⟩
theorem si_range2 {ia ib : IE} (hg : Gl X "range") (hm : X.mg "range" = none) (hs : isStar a = false) (hs2 : isStar b = false) (ha : PE X a (TDE X.K cl W (dE Φ ia))) (hb : PE X b (TDE X.K cl W (dE Φ ib))) :
    PI X tg (.Call (.Name "range" p) [a, b] [] pos) (TDI X.K cl W (dI Φ (.range2 ia ib))) := by
  have e1 : starEach [b] X.env = [(false, eval b X.env)] := star_cons hs2
  have e2 : starEach [a, b] X.env = [(false, eval a X.env), (false, eval b X.env)] := by rw [star_cons hs, e1]
  refine PI.weak (pi_range2 hg hm (pa_cons ha (pa_cons hb pa_nil (star_cons hs2)) (star_cons hs)) e2 e1) fun σ H R h => ?_
  obtain ⟨ρ, Z, Rl, h⟩ := h
  simp only [dI] at h
  refine TDE.mono (tde_bind (Aft.refl Rl) h) fun v H1 ⟨oa, ρ1, Z1, A1, _, hv, h1⟩ => ?_
  refine TDE.mono (tde_bind A1 h1) fun w H2 ⟨ob, ρ2, Z2, A2, B2, hw, h2⟩ => ?_
  have hv2 := hv.keep A1.rel B2
  unfold rd1 at h2
  cases e1 : deref ρ2 oa with
  | none => rw [e1] at h2; exact h2.elim
  | some pp =>
    obtain ⟨x, ox⟩ := pp
    rw [e1] at h2
    cases e2 : deref ρ2 ob with
    | none => simp only [e2] at h2; exact h2.elim
    | some pp =>
      obtain ⟨y, oy⟩ := pp
      simp only [e2] at h2
      split at h2
      · rename_i lo hi
        split at h2
        · rename_i hb
          have q1 := hv2.deref A2.rel e1
          have q2 := hw.deref A2.rel e2
          cases has_int q1
          cases has_int q2
          exact ⟨lo, hi, rfl, ⟨hb.1.1, hb.1.2, hb.2.1.1, hb.2.1.2⟩, h2 _ _ A2 _ (itr_ok rfl) (by rw [List.length_map, List.length_range, sizeLine_eq]; omega)⟩
        · exact h2.elim
      · exact h2.elim
theorem zip_get {xs : List D} {i : Nat} {d : D} (h : (xs.zipIdx.map fun p => (PyData.tuple [.int p.2, p.1] : D))[i]? = some d) : ∃ x, xs[i]? = some x ∧ d = .tuple [.int i, x] := by
  rw [List.getElem?_map, List.getElem?_zipIdx] at h
  cases e : xs[i]? with
  | none => rw [e] at h; cases h
  | some x =>
    rw [e] at h
    simp at h
    exact ⟨x, rfl, h.symm⟩
theorem pair_sh {H2 : Hp} {T : Addr} {i : Nat} {v : V} {us : List Value} (hT : H T = none) (hv : Sh K Z H v d) : (∀ a o, H a = some o → upd H T (.frz (tupO us) (.tup [.int (i : Int), v])) a = some o) ∧ Sh K Z (upd H T (.frz (tupO us) (.tup [.int (i : Int), v]))) (.ref T) (.tuple [.int i, d]) := by
  have g := Gv.tup (K := K) (Z := Z) (vs := [.int (i : Int), v]) (ds := [.int i, d]) (us := us) hT (by show 2 ≤ sizeLine; decide) (.cons (.int _) (.cons hv .nil))
  exact ⟨g.grow, g.has⟩
theorem ite_ok {a : Addr} {xs : List D} (h : Sh K Z H (.ref a) (.list xs)) : (∃ vs, SqL K H a vs) ∧ ItOk K Z H (ItL K a) (xs.zipIdx.map fun p => .tuple [.int p.2, p.1]) := by
  have key : ∀ Z' H', Ext Z H Z' H' → ∃ vs, SqL K H' a vs ∧ vs.length = xs.length ∧ ShL K Z' H' vs xs := fun Z' H' x => by
    obtain ⟨b, vs, e, s, n, l⟩ := has_list (o := false) (h.ext x)
    cases e
    exact ⟨vs, s, l.length, l⟩
  refine ⟨let ⟨vs, s, _⟩ := key Z H Ext.refl; ⟨vs, s⟩, fun i Z' H' x => ?_⟩
  obtain ⟨vs, s, n, l⟩ := key Z' H' x
  refine ⟨fun d e => ?_, fun e => ⟨vs, s, by simp at e; omega⟩⟩
  obtain ⟨y, ey, ed⟩ := zip_get e
  subst ed
  obtain ⟨v, ev, sv⟩ := l.get ey
  refine ⟨⟨vs, v, s, ev⟩, fun w H2 ⟨T, u, us, ew, hT, eH, yy⟩ => ?_⟩
  have := yy vs s
  rw [ev] at this
  cases this
  subst ew eH
  exact pair_sh (H2 := H') hT sv
theorem itE_ok {a : Addr} {xs : List D} (h : Sh K Z H (.ref a) (.tuple xs)) : (∃ vs, SqT K H a vs) ∧ ItOk K Z H (ItE K a) (xs.zipIdx.map fun p => .tuple [.int p.2, p.1]) := by
  have key : ∀ Z' H', Ext Z H Z' H' → ∃ vs, SqT K H' a vs ∧ vs.length = xs.length ∧ ShL K Z' H' vs xs := fun Z' H' x => by
    obtain ⟨b, vs, e, s, n, l⟩ := has_tuple (o := false) (h.ext x)
    cases e
    exact ⟨vs, s, l.length, l⟩
  refine ⟨let ⟨vs, s, _⟩ := key Z H Ext.refl; ⟨vs, s⟩, fun i Z' H' x => ?_⟩
  obtain ⟨vs, s, n, l⟩ := key Z' H' x
  refine ⟨fun d e => ?_, fun e => ⟨vs, s, by simp at e; omega⟩⟩
  obtain ⟨y, ey, ed⟩ := zip_get e
  subst ed
  obtain ⟨v, ev, sv⟩ := l.get ey
  refine ⟨⟨vs, v, s, ev⟩, fun w H2 ⟨T, u, us, ew, hT, eH, yy⟩ => ?_⟩
  have := yy vs s
  rw [ev] at this
  cases this
  subst ew eH
  exact pair_sh (H2 := H') hT sv
theorem si_enum {ie : IE} {elts : List Expr} {kk : Nat} {tpos : Pos} (hg : Gl X "enumerate") (hm : X.mg "enumerate" = none) (hs : isStar a = false) (ha : PE X a (TDE X.K cl W (dE Φ ie))) :
    PI X (.Tuple elts kk tpos) (.Call (.Name "enumerate" p) [a] [] pos) (TDI X.K cl W (dI Φ (.enum ie))) := by
  have hp := pa_cons ha pa_nil (star_cons hs)
  refine PI.weak (pi_or (pi_enumL hg hm hp (star_cons hs)) (pi_enumT hg hm hp (star_cons hs))) fun σ H R h => ?_
  obtain ⟨ρ, Z, Rl, h⟩ := h
  simp only [dI] at h
  cases e : dE Φ ie ρ with
  | bad => rw [e] at h; exact h.elim
  | ex c q ρ' =>
    refine .inl ⟨ρ, Z, Rl, ?_⟩
    rw [e] at h ⊢
    exact h
  | ok o ρ1 =>
    cases e2 : sealE ρ1 o with
    | none => rw [e] at h; simp only [Rs.bind, e2] at h; exact h.elim
    | some pr =>
      obtain ⟨d, ρ2⟩ := pr
      have run : ∀ (Q : VK), (∀ v H' Z', Aft X.K ρ σ H Z ρ2 σ H' Z' → Sh X.K Z' H' v d → Q v H') → TDE X.K cl W (dE Φ ie) σ H Q := fun Q q => by
        refine ⟨ρ, Z, Rl, ?_⟩
        rw [e]
        intro H' Z' A v hv
        obtain ⟨Z2, A2, s, _⟩ := seal_ok A hv e2
        exact q v H' Z2 A2 s
      rw [e] at h
      simp only [Rs.bind, e2] at h
      cases d with
      | list xs =>
        refine .inl (run _ fun v H' Z' A s => ?_)
        obtain ⟨b, vs, eb, _, n, l⟩ := has_list (o := false) s
        subst eb
        obtain ⟨⟨us, h1⟩, h2⟩ := ite_ok s
        exact ⟨b, us, rfl, h1, h H' Z' A _ h2 (by rw [List.length_map, List.length_zipIdx, ← l.length]; exact n)⟩
      | tuple xs =>
        refine .inr (run _ fun v H' Z' A s => ?_)
        obtain ⟨b, vs, eb, _, n, l⟩ := has_tuple (o := false) s
        subst eb
        obtain ⟨⟨us, h1⟩, h2⟩ := itE_ok s
        exact ⟨b, us, rfl, h1, h H' Z' A _ h2 (by rw [List.length_map, List.length_zipIdx, ← l.length]; exact n)⟩
      | _ => exact h.elim
end
end Mv
namespace Mv
open PySem PySem.Spec L2
open PyProof.Rows hiding St
variable [G : Glo]

section
variable {K : PySem.W.Frag} {cl : Cl} {W : WX} {Z Z' Z0 Z1 Z2 : Zt} {H H' H0 H1 H2 : Hp} {ρ ρ' ρ0 ρ1 ρ2 : En} {σ σ' σ0 : L2.St} {v w : V} {d d' e : D} {own : Bool} {o : Op}
variable {X : Cx} {a b c iter : Expr} {es : List Expr} {pos p p2 : Pos} {Φ : Fn}
def gL : List Nat → TGs
  | [] => gNil
  | i :: r => gCons (gName i) (gL r)
def tgR (K : PySem.W.Frag) : Tg → TG
  | .name i => gName i
  | .tup is => gTup K is.length (gL is)
def Fx (P : List Nat) (σ σ' : L2.St) : Prop := ∀ i ∈ P, σ'[i]? = σ[i]?
theorem Fx.refl {P : List Nat} : Fx P σ σ := fun _ _ => rfl
theorem Fx.trans {P : List Nat} {σ1 σ2 : L2.St} (a : Fx P σ σ1) (b : Fx P σ1 σ2) : Fx P σ σ2 := fun i h => (b i h).trans (a i h)
theorem set_cases {α : Type} {l : List α} {i j : Nat} {x y : α} (h : (l.set i x)[j]? = some y) : (i = j ∧ x = y ∧ i < l.length) ∨ (i ≠ j ∧ l[j]? = some y) := by
  by_cases hj : i = j
  · subst hj
    by_cases hi : i < l.length
    · rw [List.getElem?_set_self hi] at h
      exact .inl ⟨rfl, Option.some.inj h, hi⟩
    · rw [List.getElem?_eq_none (by rw [List.length_set]; omega)] at h; cases h
  · rw [List.getElem?_set_ne hj] at h
    exact .inr ⟨hj, h⟩
theorem Rel.store {i : Nat} (R : Rel K ρ σ H Z) (hi : i ∉ G.fix) (hv : Has K Z H v d own) (hn : own = true → ∀ a, v = .ref a → ¬ Own ρ σ a) : Rel K (ρ.set i (some (d, own))) (σ.set i (some v)) H Z where
  ge := R.ge.sl fun j hj => by rw [List.getElem?_set_ne (fun e => hi (by rw [e]; exact hj))]
  len := by rw [List.length_set, List.length_set]; exact R.len
  zt := R.zt
  has := fun j d' own' h => by
    rcases set_cases h with ⟨e, e2, hl⟩ | ⟨ne, h⟩
    · subst e
      cases e2
      exact ⟨v, by rw [List.getElem?_set_self (by rw [← R.len]; exact hl)], hv⟩
    · obtain ⟨u, h1, h2⟩ := R.has j d' own' h
      exact ⟨u, by rw [List.getElem?_set_ne ne]; exact h1, h2⟩
  sep := fun j k d1 d2 b e1 e2 q1 q2 => by
    rcases set_cases e1 with ⟨e, x1, hl⟩ | ⟨ne, f1⟩
    · subst e
      rcases set_cases e2 with ⟨e, x2, _⟩ | ⟨ne2, f2⟩
      · exact e
      · cases x1
        rw [List.getElem?_set_self (by rw [← R.len]; exact hl)] at q1
        cases q1
        rw [List.getElem?_set_ne ne2] at q2
        exact (hn rfl b rfl ⟨k, d2, f2, q2⟩).elim
    · rw [List.getElem?_set_ne ne] at q1
      rcases set_cases e2 with ⟨e, x2, hl⟩ | ⟨ne2, f2⟩
      · subst e
        cases x2
        rw [List.getElem?_set_self (by rw [← R.len]; exact hl)] at q2
        cases q2
        exact (hn rfl b rfl ⟨j, d1, f1, q1⟩).elim
      · rw [List.getElem?_set_ne ne2] at q2
        exact R.sep j k d1 d2 b f1 f2 q1 q2
theorem own_store {i : Nat} {b : Addr} (hl : ρ.length = σ.length) (h : Own (ρ.set i (some (d, own))) (σ.set i (some v)) b) : Own ρ σ b ∨ (own = true ∧ v = .ref b) := by
  obtain ⟨j, d1, e1, e2⟩ := h
  rcases set_cases e1 with ⟨e, x1, hi⟩ | ⟨ne, f1⟩
  · subst e
    cases x1
    rw [List.getElem?_set_self (by rw [← hl]; exact hi)] at e2
    cases e2
    exact .inr ⟨rfl, rfl⟩
  · rw [List.getElem?_set_ne ne] at e2
    exact .inl ⟨j, d1, f1, e2⟩
theorem Aft.store {i : Nat} (A : Aft K ρ0 σ0 H0 Z0 ρ σ H Z) (hi : i ∉ G.fix) (hv : Val K ρ0 σ0 H0 ρ σ H Z v (.val d own)) : Aft K ρ0 σ0 H0 Z0 (ρ.set i (some (d, own))) (σ.set i (some v)) H Z :=
  ⟨A.rel.store hi hv.1 fun e a q => (hv.2 e a q).1, A.zz, A.keep, A.tk, A.zn, fun b h => by
    rcases own_store A.rel.len h with q | ⟨q1, q2⟩
    · exact A.on b q
    · exact (hv.2 q1 b q2).2⟩
theorem fx_set {P : List Nat} {i : Nat} {x : Option V} (h : ¬ P.contains i = true) : Fx P σ (σ.set i x) := fun j hj => by
  rw [List.getElem?_set_ne]
  intro e
  subst e
  exact h (by simpa using hj)
theorem val_sh (h : Sh K Z H v d) : Val K ρ0 σ0 H0 ρ σ H Z v (.val d false) := ⟨h, fun z => nomatch z⟩
theorem gL_ok {P : List Nat} (hP : ∀ i ∈ G.fix, i ∈ P) : ∀ (is : List Nat) (ds : List D) (vs : List V) {ρ : En} {σ : L2.St}, Aft K ρ0 σ0 H0 Z0 ρ σ H Z → ShL K Z H vs ds → is.length = ds.length → (is.any fun i => P.contains i) = false →
    gL is vs σ H fun σ' H' => H' = H ∧ Aft K ρ0 σ0 H0 Z0 ((is.zip ds).foldl (fun r p => r.set p.1 (some (p.2, false))) ρ) σ' H Z ∧ Fx P σ σ'
  | [], [], _, ρ, σ, A, .nil, _, _ => ⟨rfl, rfl, A, Fx.refl⟩
  | i :: is, d :: ds, _, ρ, σ, A, .cons s l, hl, hp => by
    simp only [List.any_cons, Bool.or_eq_false_iff] at hp
    have A2 := A.store (i := i) (fun z => by have := hP i z; rw [← List.contains_iff_mem, hp.1] at this; cases this) (val_sh s)
    refine ⟨_, _, rfl, ?_⟩
    show gL is _ (σ.set i (some _)) H _
    have ih := gL_ok hP is ds _ A2 l (by simpa using hl) hp.2
    have mono : ∀ (is : List Nat) (vs : List V) (σ : L2.St) {Q Q' : L2.St → Hp → Prop}, (∀ σ' H', Q σ' H' → Q' σ' H') → gL is vs σ H Q → gL is vs σ H Q' := by
      intro is
      induction is with
      | nil => intro vs σ Q Q' q h; exact ⟨h.1, q _ _ h.2⟩
      | cons i is ih =>
        intro vs σ Q Q' q h
        obtain ⟨u, r, e, h⟩ := h
        exact ⟨u, r, e, ih _ _ q h⟩
    refine mono is _ _ (fun σ' H' ⟨e, B, f⟩ => ⟨e, B, (fx_set (by rw [hp.1]; simp)).trans f⟩) ih
theorem tg_ok {P : List Nat} (hP : ∀ i ∈ G.fix, i ∈ P) {tg : Tg} {Q : L2.St → Hp → Prop} (A : Aft K ρ0 σ0 H0 Z0 ρ σ H Z) (hv : Val K ρ0 σ0 H0 ρ σ H Z v (.val d own)) (h : setTg P tg d own ρ = some ρ')
    (q : ∀ σ', Aft K ρ0 σ0 H0 Z0 ρ' σ' H Z → Fx P σ σ' → Q σ' H) : tgR K tg v σ H Q := by
  unfold setTg at h
  split at h
  · split at h
    · cases h
    · rename_i hp
      cases h
      exact q _ (A.store (fun z => hp (by simpa using hP _ z)) hv) (fx_set hp)
  · split at h
    · rename_i is ds hp
      cases h
      obtain ⟨a, vs, rfl, s, n, l⟩ := has_tuple hv.1
      refine ⟨a, vs, rfl, s, by rw [l.length]; exact hp.1.symm, ?_⟩
      have g := gL_ok hP is ds vs A l hp.1 hp.2
      have mono : ∀ (is : List Nat) (vs : List V) (σ : L2.St) {Q Q' : L2.St → Hp → Prop}, (∀ σ' H', Q σ' H' → Q' σ' H') → gL is vs σ H Q → gL is vs σ H Q' := by
        intro is
        induction is with
        | nil => intro vs σ Q Q' q h; exact ⟨h.1, q _ _ h.2⟩
        | cons i is ih =>
          intro vs σ Q Q' q h
          obtain ⟨u, r, e, h⟩ := h
          exact ⟨u, r, e, ih _ _ q h⟩
      exact mono is vs σ (fun σ' H' ⟨e, B, f⟩ => by subst e; exact q _ B f) g
    · cases h
  · cases h

theorem wipeE_len (ρ : En) : ∀ own : List Nat, (wipeE ρ own).length = ρ.length
  | [] => rfl
  | i :: r => by show ((wipeE ρ r).set i none).length = _; rw [List.length_set, wipeE_len ρ r]
theorem wipeE_some {ρ : En} {j : Nat} {x : D × Bool} : ∀ {own : List Nat}, (wipeE ρ own)[j]? = some (some x) → ρ[j]? = some (some x) ∧ j ∉ own
  | [], h => ⟨h, by simp⟩
  | i :: r, h => by
    have h : ((wipeE ρ r).set i none)[j]? = some (some x) := h
    rcases set_cases h with ⟨_, e, _⟩ | ⟨ne, h⟩
    · cases e
    · obtain ⟨h1, h2⟩ := wipeE_some h
      exact ⟨h1, by simp only [List.mem_cons, not_or]; exact ⟨fun e => ne e.symm, h2⟩⟩
theorem own_wipe {own : List Nat} {b : Addr} (h : Own (wipeE ρ own) (wipe σ own) b) : Own ρ σ b := by
  obtain ⟨j, d, h1, h2⟩ := h
  exact ⟨j, d, (wipeE_some h1).1, (wipe_some h2).1⟩
theorem Rel.wipe (hf : G.fix = []) (R : Rel K ρ σ H Z) (own : List Nat) : Rel K (wipeE ρ own) (wipe σ own) H Z where
  ge := R.ge.sl fun j hj => by rw [hf] at hj; cases hj
  len := by rw [wipeE_len, wipe_length]; exact R.len
  zt := R.zt
  has := fun j d o h => by
    obtain ⟨h1, h2⟩ := wipeE_some h
    obtain ⟨v, q1, q2⟩ := R.has j d o h1
    exact ⟨v, by rw [wipe_out h2]; exact q1, q2⟩
  sep := fun j k d1 d2 b e1 e2 q1 q2 => R.sep j k d1 d2 b (wipeE_some e1).1 (wipeE_some e2).1 (wipe_some q1).1 (wipe_some q2).1
theorem Aft.wipe (hf : G.fix = []) (A : Aft K ρ0 σ0 H0 Z0 ρ σ H Z) (own : List Nat) : Aft K ρ0 σ0 H0 Z0 (wipeE ρ own) (wipe σ own) H Z :=
  ⟨A.rel.wipe hf own, A.zz, A.keep, A.tk, A.zn, fun b h => A.on b (own_wipe h)⟩
theorem restE_len (ρ0 ρ : En) : ∀ own : List Nat, (restE ρ0 ρ own).length = ρ.length
  | [] => rfl
  | i :: r => by show ((restE ρ0 ρ r).set i _).length = _; rw [List.length_set, restE_len ρ0 ρ r]
theorem restE_some {ρ0 ρ : En} {j : Nat} {x : D × Bool} : ∀ {own : List Nat}, (restE ρ0 ρ own)[j]? = some (some x) → (j ∈ own ∧ ρ0[j]? = some (some x)) ∨ (j ∉ own ∧ ρ[j]? = some (some x))
  | [], h => .inr ⟨by simp, h⟩
  | i :: r, h => by
    have h : ((restE ρ0 ρ r).set i (ρ0[i]?.join))[j]? = some (some x) := h
    rcases set_cases h with ⟨e, e2, _⟩ | ⟨ne, h⟩
    · subst e
      exact .inl ⟨by simp, join_some e2⟩
    · rcases restE_some h with ⟨h1, h2⟩ | ⟨h1, h2⟩
      · exact .inl ⟨List.mem_cons_of_mem _ h1, h2⟩
      · exact .inr ⟨by simp only [List.mem_cons, not_or]; exact ⟨fun e => ne e.symm, h1⟩, h2⟩
theorem Aft.restore (hf : G.fix = []) {own : List Nat} (R : Rel K ρ1 σ H1 Z1) (B : Aft K (wipeE ρ1 own) (L2.wipe σ own) H1 Z1 ρ2 (L2.wipe σ own) H2 Z2) (hρ : ∀ j ∈ own, ∀ x, ρ2[j]? ≠ some (some x)) : Aft K ρ1 σ H1 Z1 (restE ρ1 ρ2 own) σ H2 Z2 := by
  have Rw := R.wipe hf own
  have x := B.ext Rw
  have len : ρ2.length = σ.length := by have := B.rel.len; rw [wipe_length] at this; exact this
  -- what an own slot of the block held
  have old : ∀ {i : Nat} {d : D} {a : Addr}, i ∈ own → ρ1[i]? = some (some (d, true)) → σ[i]? = some (some (.ref a)) → ¬ Own (wipeE ρ1 own) (L2.wipe σ own) a := fun {i d a} hi h1 h2 q => by
    obtain ⟨k, d2, q1, q2⟩ := q
    obtain ⟨k1, k2⟩ := wipeE_some q1
    have e := R.sep i k d d2 a h1 k1 h2 (wipe_some q2).1
    subst e
    exact k2 hi
  have back : ∀ {j : Nat} {v : V}, j ∉ own → (L2.wipe σ own)[j]? = some (some v) → σ[j]? = some (some v) := fun {j v} hj h => by rw [wipe_out hj] at h; exact h
  have rel : Rel K (restE ρ1 ρ2 own) σ H2 Z2 := by
    refine ⟨B.rel.ge.sl (fun j hj => by rw [hf] at hj; cases hj), by rw [restE_len]; exact len, B.rel.zt, fun j d o h => ?_, fun j k d1 d2 b e1 e2 q1 q2 => ?_⟩
    · rcases restE_some h with ⟨hj, h⟩ | ⟨hj, h⟩
      · obtain ⟨v, h1, h2⟩ := R.has j d o h
        refine ⟨v, h1, ?_⟩
        cases o with
        | false => exact Has.ext x h2
        | true =>
          have h3 : Ow K Z1 H1 v d := h2
          obtain ⟨a, ob, ea, nz, ha⟩ := h3.ref
          subst ea
          have n := old hj h h1
          refine (Ow.stay x h3 (fun b u e q t => ?_) (fun b e q => ?_) : Ow K Z2 H2 _ d)
          · cases e; exact B.keep _ _ q t n
          · cases e
            rcases B.zn _ q with z | z | z
            · exact nz z
            · exact n z
            · rw [ha] at z; cases z
      · obtain ⟨v, h1, h2⟩ := B.rel.has j d o h
        exact ⟨v, back hj h1, h2⟩
    · have mix : ∀ {j k : Nat} {d1 d2 : D}, j ∈ own → k ∉ own → ρ1[j]? = some (some (d1, true)) → ρ2[k]? = some (some (d2, true)) → σ[j]? = some (some (.ref b)) → σ[k]? = some (some (.ref b)) → False := fun {j k d1 d2} hj hk h1 h2 s1 s2 => by
        rcases B.on b ⟨k, d2, h2, by rw [wipe_out hk]; exact s2⟩ with q | q
        · exact old hj h1 s1 q
        · obtain ⟨_, o, e, _⟩ := R.own ⟨j, d1, h1, s1⟩
          rw [q] at e; cases e
      rcases restE_some e1 with ⟨hj, f1⟩ | ⟨hj, f1⟩
      · rcases restE_some e2 with ⟨hk, f2⟩ | ⟨hk, f2⟩
        · exact R.sep j k d1 d2 b f1 f2 q1 q2
        · exact (mix hj hk f1 f2 q1 q2).elim
      · rcases restE_some e2 with ⟨hk, f2⟩ | ⟨hk, f2⟩
        · exact (mix hk hj f2 f1 q2 q1).elim
        · exact B.rel.sep j k d1 d2 b f1 f2 (by rw [wipe_out hj]; exact q1) (by rw [wipe_out hk]; exact q2)
  refine ⟨rel, B.zz, fun b o h t n => B.keep b o h t fun q => n (own_wipe q), B.tk, fun b h => ?_, fun b h => ?_⟩
  · rcases B.zn b h with q | q | q
    · exact .inl q
    · exact .inr (.inl (own_wipe q))
    · exact .inr (.inr q)
  · obtain ⟨j, d, e1, e2⟩ := h
    rcases restE_some e1 with ⟨hj, f1⟩ | ⟨hj, f1⟩
    · exact .inl ⟨j, d, f1, e2⟩
    · rcases B.on b ⟨j, d, f1, by rw [wipe_out hj]; exact e2⟩ with q | q
      · exact .inl (own_wipe q)
      · exact .inr q
end
end Mv
namespace Mv
open PySem PySem.Spec L2
open PyProof.Rows hiding St
variable [G : Glo]

section
variable {K : PySem.W.Frag} {cl : Cl} {W : WX} {Z Z' Z0 Z1 Z2 : Zt} {H H' H0 H1 H2 : Hp} {ρ ρ' ρ0 ρ1 ρ2 : En} {σ σ' σ0 : L2.St} {v w : V} {d d' e : D} {own : Bool} {o : Op}
variable {X : Cx} {a b c elt tg iter : Expr} {ifs es : List Expr} {pos p p2 : Pos} {Φ : Fn}
/-- no exception is wished for -/
def WF : WX := fun _ _ _ _ => False
theorem tdi_bind {α : Type} {m : En → Rs (List D)} {f : List D → En → Rs α} {k : α → En → Hp → Zt → Prop} (A : Aft K ρ0 σ H0 Z0 ρ σ H Z) (h : Post K cl W ρ0 σ H0 Z0 ((m ρ).bind f) k) :
    TDI K cl W m σ H (fun J H' => ∃ xs ρ' Z', Aft K ρ0 σ H0 Z0 ρ' σ H' Z' ∧ ItOk K Z' H' J xs ∧ xs.length ≤ sizeLine ∧ Post K cl W ρ0 σ H0 Z0 (f xs ρ') k) := by
  refine ⟨ρ, Z, A.rel, ?_⟩
  cases e : m ρ with
  | bad => rw [e] at h; exact h
  | ex c p ρ' =>
    rw [e] at h
    exact fun H' Z' cls dx B x => h H' Z' cls dx (A.trans B) x
  | ok o ρ' =>
    rw [e] at h
    exact fun H' Z' B J i n => ⟨o, ρ', Z', A.trans B, i, n, h⟩
theorem TDI.mono {m : En → Rs (List D)} {R R' : It → Hp → Prop} (h : TDI K cl W m σ H R) (q : ∀ J H', R J H' → R' J H') : TDI K cl W m σ H R' := by
  obtain ⟨ρ, Z, Rl, h⟩ := h
  refine ⟨ρ, Z, Rl, ?_⟩
  cases e : m ρ with
  | bad => rw [e] at h; exact h
  | ex c p ρ' => rw [e] at h; exact h
  | ok o ρ' =>
    rw [e] at h
    exact fun H' Z' B J i n => q _ _ (h H' Z' B J i n)
theorem tdt_noex {α : Type} {m : MT} {f : Bool → En → Rs α} {k : α → En → Hp → Zt → Prop} (R : Rel K ρ σ H Z) (h : Post K cl W ρ0 σ0 H0 Z0 ((m ρ).noex.bind f) k) :
    TDT K cl WF m σ H (fun b H' => ∃ ρ' Z', Aft K ρ σ H Z ρ' σ H' Z' ∧ Post K cl W ρ0 σ0 H0 Z0 (f b ρ') k) := by
  refine ⟨ρ, Z, R, ?_⟩
  cases e : m ρ with
  | bad => rw [e] at h; exact h.elim
  | ex c p ρ' => rw [e] at h; exact h.elim
  | ok o ρ' =>
    rw [e] at h
    exact fun H' Z' B => ⟨ρ', Z', B, h⟩
theorem tde_noex {α : Type} {m : ME} {f : Op → En → Rs α} {k : α → En → Hp → Zt → Prop} (R : Rel K ρ σ H Z) (h : Post K cl W ρ0 σ0 H0 Z0 ((m ρ).noex.bind f) k) :
    TDE K cl WF m σ H (fun v H' => ∃ o ρ' Z', Aft K ρ σ H Z ρ' σ H' Z' ∧ Val K ρ σ H ρ' σ H' Z' v o ∧ Post K cl W ρ0 σ0 H0 Z0 (f o ρ') k) := by
  refine ⟨ρ, Z, R, ?_⟩
  cases e : m ρ with
  | bad => rw [e] at h; exact h.elim
  | ex c p ρ' => rw [e] at h; exact h.elim
  | ok o ρ' =>
    rw [e] at h
    exact fun H' Z' B v hv => ⟨o, ρ', Z', B, hv, h⟩
theorem bind_assoc {α β γ : Type} (r : Rs α) (f : α → En → Rs β) (g : β → En → Rs γ) : (r.bind f).bind g = r.bind fun x ρ => (f x ρ).bind g := by
  cases r <;> rfl
/-- the slots of a target -/
def tgIx : Tg → List Nat
  | .name i => [i]
  | .tup is => is
theorem wipe_in {j : Nat} : ∀ {vs : List Nat} {σ : L2.St}, j ∈ vs → (L2.wipe σ vs)[j]? = if j < σ.length then some none else none
  | i :: r, σ, h => by
    show ((L2.wipe σ r).set i none)[j]? = _
    by_cases hj : i = j
    · subst hj
      rw [List.getElem?_set, wipe_length]
      simp
    · rw [List.getElem?_set_ne hj]
      exact wipe_in ((List.mem_cons.mp h).resolve_left fun e => hj e.symm)
theorem wipe_eq {vs : List Nat} (hl : σ'.length = σ.length) (h : ∀ j, j ∉ vs → σ'[j]? = σ[j]?) : L2.wipe σ' vs = L2.wipe σ vs := by
  apply List.ext_getElem?
  intro j
  by_cases hj : j ∈ vs
  · rw [wipe_in hj, wipe_in hj, hl]
  · rw [wipe_out hj, wipe_out hj]
    exact h j hj
theorem gL_keep : ∀ (is : List Nat) (vs : List V) {σ : L2.St} {H : Hp} {Q : L2.St → Hp → Prop}, gL is vs σ H Q → gL is vs σ H fun σ' H' => (σ'.length = σ.length ∧ ∀ j, j ∉ is → σ'[j]? = σ[j]?) ∧ Q σ' H'
  | [], vs, σ, H, Q, h => ⟨h.1, ⟨rfl, fun _ _ => rfl⟩, h.2⟩
  | i :: is, vs, σ, H, Q, h => by
    obtain ⟨u, r, e, h⟩ := h
    refine ⟨u, r, e, ?_⟩
    have h : gL is r (σ.set i (some u)) H Q := h
    have ih := gL_keep is r h
    have mono : ∀ (is : List Nat) (vs : List V) (σ : L2.St) {Q Q' : L2.St → Hp → Prop}, (∀ σ' H', Q σ' H' → Q' σ' H') → gL is vs σ H Q → gL is vs σ H Q' := by
      intro is
      induction is with
      | nil => intro vs σ Q Q' q h; exact ⟨h.1, q _ _ h.2⟩
      | cons i is ih =>
        intro vs σ Q Q' q h
        obtain ⟨u, r, e, h⟩ := h
        exact ⟨u, r, e, ih _ _ q h⟩
    refine mono is r _ (fun σ' H' ⟨⟨l, f⟩, q⟩ => ⟨⟨by rw [l, List.length_set], fun j hj => ?_⟩, q⟩) ih
    simp only [List.mem_cons, not_or] at hj
    rw [f j hj.2, List.getElem?_set_ne (fun e => hj.1 e.symm)]
theorem tg_keep {tg : Tg} {Q : L2.St → Hp → Prop} (h : tgR K tg v σ H Q) : tgR K tg v σ H fun σ' H' => (σ'.length = σ.length ∧ ∀ j, j ∉ tgIx tg → σ'[j]? = σ[j]?) ∧ Q σ' H' := by
  cases tg with
  | name i =>
    refine ⟨⟨List.length_set, fun j hj => ?_⟩, h⟩
    rw [List.getElem?_set_ne]
    intro e
    subst e
    exact hj (by simp [tgIx])
  | tup is =>
    obtain ⟨a, xs, e, s, n, h⟩ := h
    exact ⟨a, xs, e, s, n, gL_keep is xs h⟩
/-- the new list grows -/
theorem Aft.updD {D : Addr} {ob : HO} (A : Aft K ρ0 σ0 H0 Z0 ρ σ H Z) (hb : H0 D = none) (hl : ∃ xs, H D = some (.lst xs)) (nz : ¬ Z D) (no : ¬ Own ρ σ D) : Aft K ρ0 σ0 H0 Z0 ρ σ (upd H D ob) Z := by
  obtain ⟨ls, hl⟩ := hl
  have x : Ext Z H Z (upd H D ob) := ⟨fun _ h => h, fun b o z q => by rw [upd_ne (fun e => nz (by rw [← e]; exact z))]; exact q,
    fun b xs q => by rw [upd_ne (fun e => by rw [e, hl] at q; cases q)]; exact q, fun b u xs q => by rw [upd_ne (fun e => by rw [e, hl] at q; cases q)]; exact q, fun t => t.upd hl (fun _ z => nomatch z) (fun _ z => nomatch z), fun b φ q => by rw [upd_ne (fun e => by rw [e, hl] at q; cases q)]; exact q⟩
  have R := A.rel
  refine ⟨⟨R.ge.ext x, R.len, fun b z => let ⟨o, q, nt⟩ := R.zt b z; ⟨o, x.kz b o z q, nt⟩, fun i d own h => ?_, R.sep⟩, A.zz, fun b o q t n => ?_, fun b ps q => ?_, A.zn, A.on⟩
  · obtain ⟨v, h1, h2⟩ := R.has i d own h
    refine ⟨v, h1, ?_⟩
    cases own with
    | false => exact Has.ext x h2
    | true =>
      have h3 : Ow K Z H v d := h2
      refine (Ow.stay x h3 (fun b u eb hb _ => ?_) (fun b eb z => ?_) : Ow K Z (upd H D ob) v d)
      · rw [upd_ne (fun z => ?_)]
        · exact hb
        · exact no ⟨i, d, h, by rw [h1, eb, z]⟩
      · exact (R.own ⟨i, d, h, by rw [h1, eb]⟩).1 z
  · rw [upd_ne (fun e => by rw [e, hb] at q; cases q)]
    exact A.keep b o q t n
  · obtain ⟨ps', q'⟩ := A.tk b ps q
    exact ⟨ps', by rw [upd_ne (fun e => by rw [e, hb] at q; cases q)]; exact q'⟩
theorem lc_ok (hf : G.fix = []) {vs : List Nat} {itg : Tg} {it : II} {ic : IT} {ie : IE} {Q : VK} (ht : ∀ j ∈ tgIx itg, j ∈ vs) (h : TDE K cl W (dE Φ (.lc vs itg it ic ie)) σ H Q) :
    tLc (TDI K cl W (dI Φ it)) (tgR K itg) (TDT K cl WF (dT Φ ic)) (TDE K cl WF (dE Φ ie)) vs σ H Q := by
  obtain ⟨ρ0, Z0, R0, h⟩ := h
  simp only [dE] at h
  refine TDI.mono (tdi_bind (Aft.refl R0) h) fun J H1 ⟨xs, ρ1, Z1, A1, it, len, h1⟩ => ?_
  intro D hD
  have R1 := A1.rel
  have grow1 : ∀ a o, H1 a = some o → upd H1 D (.lst []) a = some o := fun a o q => by rw [upd_ne (ne_of_none q hD)]; exact q
  have nZ1 : ¬ Z1 D := R1.fresh hD
  have nO1 : ¬ Own ρ1 σ D := fun q => by
    obtain ⟨_, o, e, _⟩ := R1.own q
    rw [hD] at e; cases e
  refine ⟨fun i m Hi => m = xs.length - i ∧ i ≤ xs.length ∧ ∃ ρi Zi acc accD, Aft K (wipeE ρ1 vs) (L2.wipe σ vs) H1 Z1 (wipeE ρi vs) (L2.wipe σ vs) Hi Zi ∧ Hi D = some (.lst acc) ∧ ShL K Zi Hi acc accD ∧ ¬ Zi D ∧ ¬ Own (wipeE ρi vs) (L2.wipe σ vs) D ∧ accD.length ≤ i ∧
    Post K cl W ρ0 σ H Z0 ((lcL vs itg (dT Φ ic) (dE Φ ie) (xs.drop i) accD ρi).bind fun ds ρ2 => .ok (.val (.list ds) true) (restE ρ1 ρ2 vs)) (kE K ρ0 σ H Q),
    ⟨xs.length, by simp, Nat.zero_le _, ρ1, Z1, [], [], Aft.grow (R1.wipe hf vs) grow1, upd_same, .nil, nZ1, fun q => nO1 (own_wipe q), Nat.zero_le _, by simpa using h1⟩, ?_⟩
  rintro i m Hi ⟨em, hi, ρi, Zi, acc, accD, B, hDi, la, nzi, nOi, hla, hp⟩
  have Rw := R1.wipe hf vs
  have accN := la.length
  have xB := B.ext Rw
  by_cases hlt : i < xs.length
  · -- a turn
    obtain ⟨x, hx⟩ : ∃ x, xs[i]? = some x := ⟨xs[i], List.getElem?_eq_getElem hlt⟩
    obtain ⟨go, yl⟩ := (it i Zi Hi xB).1 x hx
    refine .inr ⟨go, fun H' => ∃ m', m' < m ∧ (m' = xs.length - (i + 1) ∧ i + 1 ≤ xs.length ∧ ∃ ρi Zi acc accD, Aft K (wipeE ρ1 vs) (L2.wipe σ vs) H1 Z1 (wipeE ρi vs) (L2.wipe σ vs) H' Zi ∧ H' D = some (.lst acc) ∧ ShL K Zi H' acc accD ∧ ¬ Zi D ∧ ¬ Own (wipeE ρi vs) (L2.wipe σ vs) D ∧ accD.length ≤ i + 1 ∧
      Post K cl W ρ0 σ H Z0 ((lcL vs itg (dT Φ ic) (dE Φ ie) (xs.drop (i + 1)) accD ρi).bind fun ds ρ2 => .ok (.val (.list ds) true) (restE ρ1 ρ2 vs)) (kE K ρ0 σ H Q)), fun H' q => q, fun v H2 hy => ?_⟩
    obtain ⟨g2, sv⟩ := yl v H2 hy
    have hd : xs.drop i = x :: xs.drop (i + 1) := by
      rw [List.drop_eq_getElem_cons hlt]
      congr 1
      exact Option.some.inj ((List.getElem?_eq_getElem hlt).symm.trans hx)
    rw [hd] at hp
    simp only [lcL] at hp
    cases e1 : setTg [] itg x false (wipeE ρi vs) with
    | none => rw [e1] at hp; exact hp.elim
    | some ρt =>
      simp only [e1] at hp
      rw [bind_assoc] at hp
      have T0 : Aft K (wipeE ρi vs) (L2.wipe σ vs) Hi Zi (wipeE ρi vs) (L2.wipe σ vs) H2 Zi := Aft.grow B.rel g2
      have t1 := tg_ok (P := []) (fun j hj => by rw [hf] at hj; exact hj) (Q := fun σ' H' => H' = H2 ∧ Aft K (wipeE ρi vs) (L2.wipe σ vs) Hi Zi ρt σ' H2 Zi) T0 (val_sh sv) e1 fun σ' A _ => ⟨rfl, A⟩
      have t2 := tg_keep t1
      have mono : ∀ (tg : Tg) (v : V) (σ : L2.St) (H : Hp) {Q Q' : L2.St → Hp → Prop}, (∀ σ' H', Q σ' H' → Q' σ' H') → tgR K tg v σ H Q → tgR K tg v σ H Q' := by
        intro tg v σ H Q Q' q h
        cases tg with
        | name i => exact q _ _ h
        | tup is =>
          obtain ⟨a, ys, e, s, n, h⟩ := h
          refine ⟨a, ys, e, s, n, ?_⟩
          have go : ∀ (is : List Nat) (vs : List V) (σ : L2.St), gL is vs σ H Q → gL is vs σ H Q' := by
            intro is
            induction is with
            | nil => intro vs σ h; exact ⟨h.1, q _ _ h.2⟩
            | cons i is ih =>
              intro vs σ h
              obtain ⟨u, r, e, h⟩ := h
              exact ⟨u, r, e, ih _ _ h⟩
          exact go is ys σ h
      refine mono itg v _ H2 (fun σ2 H3 ⟨⟨l2, k2⟩, eH, T1⟩ => ?_) t2
      subst eH
      have w2 : L2.wipe σ2 vs = L2.wipe σ vs := wipe_eq (by rw [l2, wipe_length]) fun j hj => by
        rw [k2 j (fun q => hj (ht j q)), wipe_out hj]
      refine ⟨w2, ?_⟩
      have tt := tdt_noex (ρ0 := ρ0) (σ0 := σ) (H0 := H) (Z0 := Z0) (W := W) (σ := σ2) T1.rel hp
      refine TDT.mono tt fun k H4 ⟨ρ2, Z2, C, hp2⟩ => ?_
      have T2 := T1.trans C
      have hD4 : H4 D = some (.lst acc) := T2.keep D _ hDi (fun _ z => nomatch z) nOi
      have nOt : ∀ {ρ' : En} {σ' : L2.St} {H' : Hp} {Z' : Zt}, Aft K (wipeE ρi vs) (L2.wipe σ vs) Hi Zi ρ' σ' H' Z' → ¬ Own ρ' σ' D ∧ ¬ Z' D := fun {ρ' σ' H' Z'} T => by
        refine ⟨fun q => ?_, fun q => ?_⟩
        · rcases T.on D q with q | q
          · exact nOi q
          · rw [hDi] at q; cases q
        · rcases T.zn D q with q | q | q
          · exact nzi q
          · exact nOi q
          · rw [hDi] at q; cases q
      have nOw : ∀ {ρ' : En} {H' : Hp} {Z' : Zt}, Aft K (wipeE ρi vs) (L2.wipe σ vs) Hi Zi ρ' σ2 H' Z' → ¬ Own (wipeE ρ' vs) (L2.wipe σ vs) D := fun {ρ' H' Z'} T q => by
        rw [← w2] at q
        exact (nOt T).1 (own_wipe q)
      cases k with
      | false =>
        simp only [Bool.false_eq_true, if_false] at hp2 ⊢
        refine ⟨xs.length - (i + 1), by omega, rfl, hlt, ρ2, Z2, acc, accD, ?_, hD4, la.ext (T2.ext B.rel), (nOt T2).2, nOw T2, by omega, hp2⟩
        have := (B.trans T2).wipe hf vs
        rwa [w2] at this
      | true =>
        simp only [if_true] at hp2 ⊢
        rw [bind_assoc] at hp2
        have te := tde_noex (ρ0 := ρ0) (σ0 := σ) (H0 := H) (Z0 := Z0) (W := W) (σ := σ2) T2.rel hp2
        refine TDE.mono te fun y H5 ⟨oe, ρ3, Z3, C2, hv, hp3⟩ => ?_
        cases e2 : sealE ρ3 oe with
        | none => simp only [e2] at hp3; exact hp3.elim
        | some pr =>
          obtain ⟨dd, ρ4⟩ := pr
          simp only [e2] at hp3
          obtain ⟨Z4, C3, sy, _⟩ := seal_ok C2 hv e2
          have T4 := T2.trans C3
          have hD5 : H5 D = some (.lst acc) := T4.keep D _ hDi (fun _ z => nomatch z) nOi
          refine ⟨acc, hD5, by rw [accN]; omega, xs.length - (i + 1), by omega, rfl, hlt, ρ4, Z4, acc ++ [y], accD ++ [dd], ?_, upd_same, ?_, (nOt T4).2, nOw T4, by rw [List.length_append, List.length_singleton]; omega, hp3⟩
          · have q := (B.trans T4).updD (D := D) (ob := .lst (acc ++ [y])) hD ⟨_, hD5⟩ (nOt T4).2 (nOt T4).1
            have q2 := q.wipe hf vs
            rwa [w2] at q2
          · have x : Ext Z4 H5 Z4 (upd H5 D (.lst (acc ++ [y]))) := ⟨fun _ h => h, fun b o z q => by rw [upd_ne (fun e => (nOt T4).2 (by rw [← e]; exact z))]; exact q,
              fun b xs q => by rw [upd_ne (fun e => by rw [e, hD5] at q; cases q)]; exact q, fun b u xs q => by rw [upd_ne (fun e => by rw [e, hD5] at q; cases q)]; exact q, fun t => t.upd hD5 (fun _ z => nomatch z) (fun _ z => nomatch z), fun b φ q => by rw [upd_ne (fun e => by rw [e, hD5] at q; cases q)]; exact q⟩
            exact ((la.ext (T4.ext B.rel)).append (ShL.one sy)).ext x
  · -- the end
    have ei : i = xs.length := by omega
    subst ei
    refine .inl ⟨(it _ Zi Hi xB).2 rfl, ?_⟩
    rw [List.drop_length] at hp
    simp only [lcL, Rs.bind] at hp
    have rest := Aft.restore hf (own := vs) R1 B fun j hj z q => (wipeE_some q).2 hj
    have A2 := A1.trans rest
    refine hp Hi Zi A2 _ ⟨(⟨D, rfl, nzi, .inl ⟨acc, accD, rfl, hDi, by omega, la⟩⟩ : Ow K Zi Hi _ _), fun _ b e => ?_⟩
    cases e
    refine ⟨fun q => ?_, A1.new hD⟩
    obtain ⟨j, dj, q1, q2⟩ := q
    rcases restE_some q1 with ⟨hj, f1⟩ | ⟨hj, f1⟩
    · exact nO1 ⟨j, dj, f1, q2⟩
    · exact nOi ⟨j, dj, f1, by rw [wipe_out hj]; exact q2⟩
theorem se_lc (hf : G.fix = []) {own : List (Str × Nat)} {itg : Tg} {it : II} {ic : IT} {ie : IE} {scope : Scope} (hc : X.calm = true) (hN : X.N.Nodup) (ok : BlkOk X.N X.env.scope scope own) (ht : ∀ j ∈ tgIx itg, j ∈ own.map (·.2)) (hs : ∀ x, foldedSetIterable iter X.env x = pure x)
    (hi : PI X tg iter (TDI X.K cl W (dI Φ it)))
    (hg : ∀ (s : Shared) (H : Hp) (C : Addr) (cs : List (Str × Addr)) (fp : List Addr), PG (X.blk s H scope (compEnvC scope cs C X.env) fp) tg (tgR X.K itg))
    (hts : ∀ (s : Shared) (H : Hp) (C : Addr) (cs : List (Str × Addr)) (fp : List Addr), PTs (X.blk s H scope (compEnvC scope cs C X.env) fp) ifs (TDT X.K cl WF (dT Φ ic)))
    (he : ∀ (s : Shared) (H : Hp) (C : Addr) (cs : List (Str × Addr)) (fp : List Addr), PE (X.blk s H scope (compEnvC scope cs C X.env) fp) elt (TDE X.K cl WF (dE Φ ie))) :
    PE X (.ListComp elt [⟨tg, iter, ifs, 0⟩] scope pos) (TDE X.K cl W (dE Φ (.lc (own.map (·.2)) itg it ic ie))) :=
  PE.weak (pe_lc hc hN hi ok hg hts he hs) fun σ H Q h => lc_ok hf ht h
end
end Mv
namespace Mv
open PySem PySem.Spec L2
open PyProof.Rows hiding St
variable [G : Glo]

section
variable (K : PySem.W.Frag) (cl : Cl) (W : WX) (P : List Nat)
def PostS (ρ : En) (σ : L2.St) (H : Hp) (Z : Zt) (r : SR) (D : Ends) : Prop := match r with
  | .nx ρ' => ∀ σ' H' Z', Aft K ρ σ H Z ρ' σ' H' Z' → Fx P σ σ' → D.nx σ' H'
  | .bk ρ' => ∀ σ' H' Z', Aft K ρ σ H Z ρ' σ' H' Z' → Fx P σ σ' → D.bk σ' H'
  | .ct ρ' => ∀ σ' H' Z', Aft K ρ σ H Z ρ' σ' H' Z' → Fx P σ σ' → D.ct σ' H'
  | .rt d own ρ' => ∀ v σ' H' Z', Aft K ρ σ H Z ρ' σ' H' Z' → Fx P σ σ' → Val K ρ σ H ρ' σ' H' Z' v (.val d own) → D.rt v H'
  | .ex c p ρ' => ∀ σ' H' Z' cls dx, Aft K ρ σ H Z ρ' σ' H' Z' → Fx P σ σ' → XAt K cl Z' H' c p cls dx → W cls dx σ' H'
  | .bad => False
def TDS (m : En → SR) : TS := fun D σ H => ∃ ρ Z, Rel K ρ σ H Z ∧ PostS K cl W P ρ σ H Z (m ρ) D
end
section
variable {K : PySem.W.Frag} {cl : Cl} {W : WX} {P : List Nat} {Z Z' Z0 Z1 Z2 : Zt} {H H' H0 H1 H2 : Hp} {ρ ρ' ρ0 ρ1 ρ2 : En} {σ σ' σ0 σ1 : L2.St} {v w : V} {d d' e : D} {own : Bool} {o : Op}
variable {X : Cx} {a b c tg iter : Expr} {es : List Expr} {pos p p2 : Pos} {Φ : Fn} {D : Ends} {st : Stmt} {sts : List Stmt}
theorem PS.weak {t t' : TS} (h : PS X st t) (q : ∀ D σ H, t' D σ H → t D σ H) : PS X st t' := ⟨fun pins s σ H D I hw => h.run pins s σ H D I (q D σ H hw)⟩
theorem PSs.weak {t t' : TS} (h : PSs X sts t) (q : ∀ D σ H, t' D σ H → t D σ H) : PSs X sts t' := ⟨fun pins s σ H D I hw => h.run pins s σ H D I (q D σ H hw)⟩
/-- the end from a later start -/
theorem PostS.later {r : SR} (A : Aft K ρ0 σ0 H0 Z0 ρ σ H Z) (F : Fx P σ0 σ) (h : PostS K cl W P ρ0 σ0 H0 Z0 r D) : PostS K cl W P ρ σ H Z r D := by
  cases r with
  | nx ρ' => exact fun σ' H' Z' B G => h σ' H' Z' (A.trans B) (F.trans G)
  | bk ρ' => exact fun σ' H' Z' B G => h σ' H' Z' (A.trans B) (F.trans G)
  | ct ρ' => exact fun σ' H' Z' B G => h σ' H' Z' (A.trans B) (F.trans G)
  | rt d own ρ' => exact fun v σ' H' Z' B G hv => h v σ' H' Z' (A.trans B) (F.trans G) (hv.base A)
  | ex c p ρ' => exact fun σ' H' Z' cls dx B G x => h σ' H' Z' cls dx (A.trans B) (F.trans G) x
  | bad => exact h
theorem tde_stm {m : ME} {f : Op → En → SR} (A : Aft K ρ0 σ0 H0 Z0 ρ σ H Z) (F : Fx P σ0 σ) (h : PostS K cl W P ρ0 σ0 H0 Z0 ((m ρ).stm f) D) :
    TDE K cl W m σ H (fun v H' => ∃ o ρ' Z', Aft K ρ0 σ0 H0 Z0 ρ' σ H' Z' ∧ Aft K ρ σ H Z ρ' σ H' Z' ∧ Val K ρ σ H ρ' σ H' Z' v o ∧ PostS K cl W P ρ0 σ0 H0 Z0 (f o ρ') D) := by
  refine ⟨ρ, Z, A.rel, ?_⟩
  cases e : m ρ with
  | bad => rw [e] at h; exact h
  | ex c p ρ' =>
    rw [e] at h
    exact fun H' Z' cls dx B x => h σ H' Z' cls dx (A.trans B) F x
  | ok o ρ' =>
    rw [e] at h
    exact fun H' Z' B v hv => ⟨o, ρ', Z', A.trans B, B, hv, h⟩
theorem tdt_stm {m : MT} {f : Bool → En → SR} (A : Aft K ρ0 σ0 H0 Z0 ρ σ H Z) (F : Fx P σ0 σ) (h : PostS K cl W P ρ0 σ0 H0 Z0 ((m ρ).stm f) D) :
    TDT K cl W m σ H (fun b H' => ∃ ρ' Z', Aft K ρ0 σ0 H0 Z0 ρ' σ H' Z' ∧ Aft K ρ σ H Z ρ' σ H' Z' ∧ PostS K cl W P ρ0 σ0 H0 Z0 (f b ρ') D) := by
  refine ⟨ρ, Z, A.rel, ?_⟩
  cases e : m ρ with
  | bad => rw [e] at h; exact h
  | ex c p ρ' =>
    rw [e] at h
    exact fun H' Z' cls dx B x => h σ H' Z' cls dx (A.trans B) F x
  | ok o ρ' =>
    rw [e] at h
    exact fun H' Z' B => ⟨ρ', Z', A.trans B, B, h⟩
theorem tdi_stm {m : En → Rs (List Mv.D)} {f : List Mv.D → En → SR} (A : Aft K ρ0 σ0 H0 Z0 ρ σ H Z) (F : Fx P σ0 σ) (h : PostS K cl W P ρ0 σ0 H0 Z0 ((m ρ).stm f) D) :
    TDI K cl W m σ H (fun J H' => ∃ xs ρ' Z', Aft K ρ0 σ0 H0 Z0 ρ' σ H' Z' ∧ ItOk K Z' H' J xs ∧ PostS K cl W P ρ0 σ0 H0 Z0 (f xs ρ') D) := by
  refine ⟨ρ, Z, A.rel, ?_⟩
  cases e : m ρ with
  | bad => rw [e] at h; exact h
  | ex c p ρ' =>
    rw [e] at h
    exact fun H' Z' cls dx B x => h σ H' Z' cls dx (A.trans B) F x
  | ok o ρ' =>
    rw [e] at h
    exact fun H' Z' B J i n => ⟨o, ρ', Z', A.trans B, i, h⟩

theorem sb_nil : PSs X [] (TDS K cl W P (dB Φ P .nil)) := by
  refine PSs.weak pss_nil fun D σ H h => ?_
  obtain ⟨ρ, Z, R, h⟩ := h
  simp only [dB] at h
  exact h σ H Z (Aft.refl R) Fx.refl
theorem sb_cons {is : IS} {ib : IB} (h1 : PS X st (TDS K cl W P (dS Φ P is))) (h2 : PSs X sts (TDS K cl W P (dB Φ P ib))) : PSs X (st :: sts) (TDS K cl W P (dB Φ P (.cons is ib))) := by
  refine PSs.weak (pss_cons h1 h2) fun D σ H h => ?_
  obtain ⟨ρ, Z, R, h⟩ := h
  simp only [dB] at h
  refine ⟨ρ, Z, R, ?_⟩
  cases e : dS Φ P is ρ with
  | nx ρ' =>
    rw [e] at h
    exact fun σ' H' Z' A F => ⟨ρ', Z', A.rel, PostS.later A F h⟩
  | bk ρ' => rw [e] at h; exact h
  | ct ρ' => rw [e] at h; exact h
  | rt d own ρ' => rw [e] at h; exact h
  | ex c p ρ' => rw [e] at h; exact h
  | bad => rw [e] at h; exact h

theorem ss_pass : PS X (.Pass pos) (TDS K cl W P (dS Φ P .pass)) := by
  refine PS.weak ps_pass fun D σ H ⟨ρ, Z, R, h⟩ => ?_
  simp only [dS] at h
  exact h σ H Z (Aft.refl R) Fx.refl
theorem ss_break : PS X (.Break pos) (TDS K cl W P (dS Φ P .brk)) := by
  refine PS.weak ps_break fun D σ H ⟨ρ, Z, R, h⟩ => ?_
  simp only [dS] at h
  exact h σ H Z (Aft.refl R) Fx.refl
theorem ss_continue : PS X (.Continue pos) (TDS K cl W P (dS Φ P .cont)) := by
  refine PS.weak ps_continue fun D σ H ⟨ρ, Z, R, h⟩ => ?_
  simp only [dS] at h
  exact h σ H Z (Aft.refl R) Fx.refl
theorem ss_expr {ie : IE} (hs : swapsWith a none pos.line X.env = pure false) (ha : PE X a (TDE K cl W (dE Φ ie))) : PS X (.Expr a pos) (TDS K cl W P (dS Φ P (.expr ie))) := by
  refine PS.weak (ps_expr ha hs) fun D σ H ⟨ρ, Z, R, h⟩ => ?_
  simp only [dS] at h
  exact TDE.mono (tde_stm (Aft.refl R) Fx.refl h) fun v H1 ⟨o, ρ1, Z1, A1, _, _, h1⟩ => h1 σ H1 Z1 A1 Fx.refl
theorem ss_ret {ie : IE} (ha : PE X a (TDE K cl W (dE Φ ie))) : PS X (.Return (some a) pos) (TDS K cl W P (dS Φ P (.ret ie))) := by
  refine PS.weak (ps_ret ha) fun D σ H ⟨ρ, Z, R, h⟩ => ?_
  simp only [dS] at h
  refine TDE.mono (tde_stm (Aft.refl R) Fx.refl h) fun v H1 ⟨o, ρ1, Z1, A1, _, hv, h1⟩ => ?_
  cases e : moveOut ρ1 o with
  | none => simp only [e] at h1; exact h1.elim
  | some pr =>
    obtain ⟨d, own, ρ2⟩ := pr
    simp only [e] at h1
    obtain ⟨A2, hv2⟩ := move_ok A1 hv e
    exact h1 v σ H1 Z1 A2 Fx.refl hv2
theorem ss_retN : PS X (.Return none pos) (TDS K cl W P (dS Φ P .retN)) := by
  refine PS.weak ps_retN fun D σ H ⟨ρ, Z, R, h⟩ => ?_
  simp only [dS] at h
  exact h .non σ H Z (Aft.refl R) Fx.refl (val_sh .non)
theorem asg_ok (hP : ∀ i ∈ G.fix, i ∈ P) {itg : Tg} {ie : IE} (h : TDS K cl W P (dS Φ P (.asg itg ie)) D σ H) : tAsg (TDE K cl W (dE Φ ie)) (tgR K itg) D σ H := by
  obtain ⟨ρ, Z, R, h⟩ := h
  simp only [dS] at h
  refine TDE.mono (tde_stm (Aft.refl R) Fx.refl h) fun v H1 ⟨o, ρ1, Z1, A1, _, hv, h1⟩ => ?_
  cases e : give ρ1 o with
  | none => simp only [e] at h1; exact h1.elim
  | some pr =>
    obtain ⟨d, own, ρ2⟩ := pr
    simp only [e] at h1
    obtain ⟨Z2, A2, hv2, _⟩ := give_ok A1 hv e
    cases e2 : setTg P itg d own ρ2 with
    | none => simp only [e2] at h1; exact h1.elim
    | some ρ3 =>
      simp only [e2] at h1
      exact tg_ok hP A2 hv2 e2 fun σ' A3 F => h1 σ' H1 Z2 A3 F
theorem ss_asg (hP : ∀ i ∈ G.fix, i ∈ P) {itg : Tg} {ie : IE} (hs : swapsWithSole [tg] a pos.line X.env = pure false) (hw : swappedStores [tg] a X.env = pure none) (h1 : (assignEach [tg] X.env).map (·.2) = [assign tg X.env])
    (ha : PE X a (TDE K cl W (dE Φ ie))) (hg : PG X tg (tgR K itg)) : PS X (.Assign [tg] a pos) (TDS K cl W P (dS Φ P (.asg itg ie))) :=
  PS.weak (ps_asg ha hg hs hw h1) fun D σ H h => asg_ok hP h
/-- y = [..] on one line -/
theorem ss_asgLc (hP : ∀ i ∈ G.fix, i ∈ P) (hf : G.fix = []) {i : Nat} {y : Str} {py spos : Pos} {elt t iter : Expr} {ifs : List Expr} {scope : Scope} {own : List (Str × Nat)} {itg : Tg} {it : II} {ic : IT} {ie : IE} (hc : X.calm = true) (hN : X.N.Nodup) (hy : X.N[i]? = some y) (hyl : X.env.scope.names.lookup y = some .local)
    (hsw : swapsWith (.ListComp elt [⟨t, iter, ifs, 0⟩] scope pos) (some (.Name y py)) spos.line X.env = pure true) (ok : BlkOk X.N X.env.scope scope own) (ht : ∀ j ∈ tgIx itg, j ∈ own.map (·.2)) (hs : ∀ x, foldedSetIterable iter X.env x = pure x)
    (hi : PI X t iter (TDI X.K cl W (dI Φ it)))
    (hg : ∀ (s : Shared) (H : Hp) (C : Addr) (cs : List (Str × Addr)) (fp : List Addr), PG (X.blk s H scope (compEnvC scope cs C X.env) fp) t (tgR X.K itg))
    (hts : ∀ (s : Shared) (H : Hp) (C : Addr) (cs : List (Str × Addr)) (fp : List Addr), PTs (X.blk s H scope (compEnvC scope cs C X.env) fp) ifs (TDT X.K cl WF (dT Φ ic)))
    (he : ∀ (s : Shared) (H : Hp) (C : Addr) (cs : List (Str × Addr)) (fp : List Addr), PE (X.blk s H scope (compEnvC scope cs C X.env) fp) elt (TDE X.K cl WF (dE Φ ie))) :
    PS X (.Assign [.Name y py] (.ListComp elt [⟨t, iter, ifs, 0⟩] scope pos) spos) (TDS X.K cl W P (dS Φ P (.asg (.name i) (.lc (own.map (·.2)) itg it ic ie)))) := by
  refine PS.weak (ps_setLc hc hN hy hyl hsw hi ok hg hts he hs) fun D σ H h => ?_
  exact lc_ok hf ht (asg_ok hP h)
theorem ss_if {ic : IT} {ia ib : IB} {s1 s2 : List Stmt} (hc : PT X c (TDT K cl W (dT Φ ic))) (ha : PSs X s1 (TDS K cl W P (dB Φ P ia))) (hb : PSs X s2 (TDS K cl W P (dB Φ P ib))) : PS X (.If c s1 s2 pos) (TDS K cl W P (dS Φ P (.iff ic ia ib))) := by
  refine PS.weak (ps_if hc ha hb) fun D σ H ⟨ρ, Z, R, h⟩ => ?_
  simp only [dS] at h
  refine TDT.mono (tdt_stm (Aft.refl R) Fx.refl h) fun k H1 ⟨ρ1, Z1, A1, _, h1⟩ => ?_
  cases k with
  | true =>
    simp only [if_true] at h1 ⊢
    exact ⟨ρ1, Z1, A1.rel, PostS.later A1 Fx.refl h1⟩
  | false =>
    simp only [Bool.false_eq_true, if_false] at h1 ⊢
    exact ⟨ρ1, Z1, A1.rel, PostS.later A1 Fx.refl h1⟩
/-- name op= e -/
def rAug (op : Operator) : TIp := fun x y H Q => ∃ i j z, x = .int i ∧ y = .int j ∧ augF op i j = some z ∧ Q (.int z) H
theorem ip_aug (op : Operator) : PIp X op (rAug op) := by
  intro pins s σ H x y v u Q I rx ry h
  obtain ⟨i, j, z, e1, e2, e3, q⟩ := h
  cases op <;> first | (simp only [augF] at e3; cases e3; done) | skip
  case Add =>
    simp only [augF] at e3
    cases e3
    exact ip_add pins s σ H x y v u Q I rx ry ⟨i, j, e1, e2, q⟩
  case Sub =>
    simp only [augF] at e3
    cases e3
    exact ip_sub pins s σ H x y v u Q I rx ry ⟨i, j, e1, e2, q⟩
  case Mult =>
    simp only [augF] at e3
    split at e3
    · rename_i c
      cases e3
      exact iop_mul pins s σ H x y v u Q I rx ry ⟨i, j, e1, e2, CMul_of c, q⟩
    · cases e3
theorem ss_aug (hP : ∀ i ∈ G.fix, i ∈ P) {i : Nat} {x : Str} {op : Operator} {ie : IE} {pn : Pos} (hN : X.N.Nodup) (hi : X.N[i]? = some x) (hx : Loc X.env.scope x) (hf : X.fn x = true ∨ X.env.scope.names.lookup x = some .local) (ha : PE X a (TDE K cl W (dE Φ ie))) :
    PS X (.AugAssign (.Name x pn) op a pos) (TDS K cl W P (dS Φ P (.aug i op ie))) := by
  refine PS.weak (ps_aug hN hi hx ha (ip_aug op) hf) fun D σ H ⟨ρ, Z, R, h⟩ => ?_
  simp only [dS] at h
  split at h
  · exact h.elim
  · rename_i hp
    split at h
    · rename_i n e
      obtain ⟨u, h1, h2⟩ := R.has i _ _ e
      cases has_int h2
      refine ⟨_, h1, ?_⟩
      refine TDE.mono (tde_stm (Aft.refl R) Fx.refl h) fun v H1 ⟨o, ρ1, Z1, A1, _, hv, h3⟩ => ?_
      split at h3
      · rename_i m om e2
        have hm := hv.deref A1.rel e2
        cases has_int hm
        cases e3 : augF op n m with
        | none => simp only [e3] at h3; exact h3.elim
        | some z =>
          simp only [e3] at h3
          exact ⟨n, m, z, rfl, rfl, e3, h3 _ H1 Z1 (A1.store (fun z => hp (by simpa using hP _ z)) (val_sh (.int _))) (fx_set (by simpa using hp))⟩
      · exact h3.elim
    · exact h.elim
theorem setF_some {x k v x' : Mv.D} (h : setF x k v = some x') : (∃ xs n j, x = .list xs ∧ k = .int n ∧ ixN xs.length n = some j ∧ x' = .list (xs.set j v)) ∨
    ∃ es kk, x = .dict es ∧ dkey k = some kk ∧ es.length < sizeLine ∧ x' = .dict (putE dkey es kk k v) ∧ ∀ es', es ≠ (.none, .none) :: es' := by
  unfold setF at h
  split at h
  · rename_i xs n
    rw [Option.map_eq_some_iff] at h
    obtain ⟨j, e, rfl⟩ := h
    exact .inl ⟨xs, n, j, rfl, rfl, e, rfl⟩
  · cases h
  · rename_i es hes
    split at h
    · rename_i kk ek
      split at h
      · rename_i hl
        cases h
        exact .inr ⟨es, kk, rfl, ek, hl, rfl, fun es' e => hes es' (by rw [e])⟩
      · cases h
    · cases h
  · cases h
theorem set_any (hu : X.A.units + 1 < cLine) : PSet X fun o i v H Q => rSetL o i v H Q ∨ rSetD o i v H Q := by
  intro pins s σ H o i v ov iv u Q I ro ri rv h
  rcases h with h | h
  · exact set_list pins s σ H o i v ov iv u Q I ro ri rv h
  · exact set_dict hu pins s σ H o i v ov iv u Q I ro ri rv h
/-- x[k] = v -/
theorem ss_setix {i : Nat} {x : Str} {ik iv : IE} {k : Expr} {pn px : Pos} (hu : X.A.units + 70 < cLine) (hN : X.N[i]? = some x) (hv : Vis X.env.scope x) (hd : (x == ("__debug__" : Str)) = false) (hcd : (x == ("__classdict__" : Str)) = false)
    (hs : swapsWithSole [.Subscript (.Name x pn) k px] a pos.line X.env = pure false) (hw : swappedStores [.Subscript (.Name x pn) k px] a X.env = pure none)
    (has : ∀ v, assign (.Subscript (.Name x pn) k px) X.env v = (do
      let ov ← holding [v] (eval (.Name x pn) X.env)
      let iv ← holding [v, ov] (eval k X.env)
      standAt px
      holding [v, ov, iv] (setItem ov iv v)
      release [v, ov, iv] []))
    (ha : PE X a (TDE K cl W (dE Φ iv))) (hk : PE X k (TDE K cl W (dE Φ ik))) : PS X (.Assign [.Subscript (.Name x pn) k px] a pos) (TDS K cl W P (dS Φ P (.setix i ik iv))) := by
  refine PS.weak (ps_asg ha (pg_sub (pe_var hN hv hd hcd) hk (set_any (by omega)) has) hs hw rfl) fun D σ H ⟨ρ, Z, R, h⟩ => ?_
  simp only [dS] at h
  refine TDE.mono (tde_stm (Aft.refl R) Fx.refl h) fun v H1 ⟨o, ρ1, Z1, A1, _, hv, h1⟩ => ?_
  cases e : sealE ρ1 o with
  | none => simp only [e] at h1; exact h1.elim
  | some pr =>
    obtain ⟨d, ρ2⟩ := pr
    simp only [e] at h1
    obtain ⟨Z2, A2, sv, _⟩ := seal_ok A1 hv e
    split at h1
    · rename_i z ez
      obtain ⟨zd, zo⟩ := z
      obtain ⟨u, hu, _⟩ := A2.rel.has i _ _ ez
      refine ⟨u, hu, ?_⟩
      refine TDE.mono (tde_stm A2 Fx.refl h1) fun y H3 ⟨ok, ρ3, Z3, A3, B3, hy, h3⟩ => ?_
      split at h3
      · rename_i kd okd x e1 e2
        cases e3 : setF x kd d with
        | none => simp only [e3] at h3; exact h3.elim
        | some x' =>
          simp only [e3] at h3
          obtain ⟨u', hu', ow⟩ := A3.rel.has i _ _ e2
          rw [hu] at hu'
          cases hu'
          have ow' : Ow K Z3 H3 u x := ow
          have hy' := hy.deref A3.rel e1
          rcases setF_some e3 with ⟨xs, n, j, q0, q1, e4, q2⟩ | ⟨es, kk, q0, q1, hl, q2, nm⟩
          · subst q0 q1 q2
            cases has_int hy'
            obtain ⟨b, eb, nz, o'⟩ := id ow'
            subst eb
            rcases o' with ⟨ws, ds', q1, hb, n1, lw⟩ | ⟨_, _, q1, _⟩ | ⟨_, _, q1, _⟩ <;> cases q1
            refine .inl ⟨b, ws, n, j, rfl, rfl, hb, by rw [lw.length]; exact e4, ?_⟩
            exact h3 σ _ Z3 (A3.put e2 hu (ow_list (ow'.ext_upd) nz upd_same (by rw [List.length_set]; exact n1) (lw.set (sv.ext (B3.ext A2.rel)) j))) Fx.refl
          · subst q0 q2
            cases key_v hy' q1
            obtain ⟨b, eb, nz, o'⟩ := id ow'
            subst eb
            rcases o' with ⟨_, _, q, _⟩ | ⟨kvs, es', q, hb, lk⟩ | ⟨kvs, es', q, hb, lk⟩
            · cases q
            · cases q
              refine .inr ⟨b, _, rfl, DPut.k hb (by rw [lk.len]; exact hl), ?_⟩
              have x := ow'.ext_upd (ob := .dK (putK kvs kk v))
              exact h3 σ _ Z3 (A3.put e2 hu ⟨b, rfl, nz, .inr (.inl ⟨_, _, rfl, upd_same, (lk.put kk (sv.ext (B3.ext A2.rel)) q1).ext x⟩)⟩) Fx.refl
            · cases q
              exact absurd rfl (nm es')
      · exact h3.elim
    · exact h1.elim
end
end Mv
namespace Mv
open PySem PySem.Spec L2
open PyProof.Rows hiding St
variable [G : Glo]

section
variable {K : PySem.W.Frag} {cl : Cl} {W : WX} {P : List Nat} {Z Z' Z0 Z1 Z2 : Zt} {H H' H0 H1 H2 : Hp} {ρ ρ' ρ0 ρ1 ρ2 : En} {σ σ' σ0 σ1 : L2.St} {v w : V} {d d' e : D} {own : Bool} {o : Op}
variable {X : Cx} {a b c tg iter : Expr} {es : List Expr} {pos p p2 : Pos} {Φ : Fn} {D : Ends} {st : Stmt} {sts : List Stmt}
/-- one turn's body, then the rest -/
theorem turn_ok {m : En → SR} {f : En → SR} {N : L2.St → Hp → Prop} (A : Aft K ρ0 σ0 H0 Z0 ρ σ H Z) (F : Fx P σ0 σ)
    (h : PostS K cl W P ρ0 σ0 H0 Z0 (match m ρ with
      | .nx ρ2 => f ρ2
      | .ct ρ2 => f ρ2
      | .bk ρ2 => .nx ρ2
      | r => r) D)
    (hN : ∀ ρ2 σ2 H2 Z2, Aft K ρ0 σ0 H0 Z0 ρ2 σ2 H2 Z2 → Fx P σ0 σ2 → PostS K cl W P ρ0 σ0 H0 Z0 (f ρ2) D → N σ2 H2) : TDS K cl W P m { D with nx := N, ct := N, bk := D.nx } σ H := by
  refine ⟨ρ, Z, A.rel, ?_⟩
  cases e : m ρ with
  | nx ρ' =>
    rw [e] at h
    exact fun σ' H' Z' B G => hN ρ' σ' H' Z' (A.trans B) (F.trans G) h
  | ct ρ' =>
    rw [e] at h
    exact fun σ' H' Z' B G => hN ρ' σ' H' Z' (A.trans B) (F.trans G) h
  | bk ρ' =>
    rw [e] at h
    exact fun σ' H' Z' B G => h σ' H' Z' (A.trans B) (F.trans G)
  | rt d own ρ' =>
    rw [e] at h
    exact PostS.later (r := .rt d own ρ') A F h
  | ex c p ρ' =>
    rw [e] at h
    exact PostS.later (r := .ex c p ρ') A F h
  | bad => rw [e] at h; exact h
theorem tgR_mono {tg : Tg} {Q Q' : L2.St → Hp → Prop} (q : ∀ σ' H', Q σ' H' → Q' σ' H') (h : tgR K tg v σ H Q) : tgR K tg v σ H Q' := by
  cases tg with
  | name i => exact q _ _ h
  | tup is =>
    obtain ⟨a, ys, e, s, n, h⟩ := h
    refine ⟨a, ys, e, s, n, ?_⟩
    have go : ∀ (is : List Nat) (vs : List V) (σ : L2.St), gL is vs σ H Q → gL is vs σ H Q' := by
      intro is
      induction is with
      | nil => intro vs σ h; exact ⟨h.1, q _ _ h.2⟩
      | cons i is ih =>
        intro vs σ h
        obtain ⟨u, r, e, h⟩ := h
        exact ⟨u, r, e, ih _ _ h⟩
    exact go is ys σ h
theorem for_ok (hP : ∀ i ∈ G.fix, i ∈ P) {itg : Tg} {it : II} {ib : IB} {D : Ends} {σ : L2.St} {H : Hp} (h : TDS K cl W P (dS Φ P (.for_ itg it ib)) D σ H) : tFor (TDI K cl W (dI Φ it)) (tgR K itg) (TDS K cl W P (dB Φ P ib)) D σ H := by
  obtain ⟨ρ, Z, R, h⟩ := h
  simp only [dS] at h
  refine TDI.mono (tdi_stm (Aft.refl R) Fx.refl h) fun J H1 ⟨xs, ρ1, Z1, A1, it, h1⟩ => ?_
  refine ⟨fun i m σi Hi => m = xs.length - i ∧ i ≤ xs.length ∧ ∃ ρi Zi, Aft K ρ1 σ H1 Z1 ρi σi Hi Zi ∧ Fx P σ σi ∧ PostS K cl W P ρ1 σ H1 Z1 (forL P itg (dB Φ P ib) (xs.drop i) ρi) D,
    ⟨xs.length, by simp, Nat.zero_le _, ρ1, Z1, Aft.refl A1.rel, Fx.refl, by simpa using PostS.later A1 Fx.refl h1⟩, ?_⟩
  rintro i m σi Hi ⟨em, hi, ρi, Zi, B, F, hp⟩
  have xB := B.ext A1.rel
  by_cases hlt : i < xs.length
  · obtain ⟨x, hx⟩ : ∃ x, xs[i]? = some x := ⟨xs[i], List.getElem?_eq_getElem hlt⟩
    obtain ⟨go, yl⟩ := (it i Zi Hi xB).1 x hx
    refine .inr ⟨go, fun σ' H' => ∃ m', m' < m ∧ (m' = xs.length - (i + 1) ∧ i + 1 ≤ xs.length ∧ ∃ ρi Zi, Aft K ρ1 σ H1 Z1 ρi σ' H' Zi ∧ Fx P σ σ' ∧ PostS K cl W P ρ1 σ H1 Z1 (forL P itg (dB Φ P ib) (xs.drop (i + 1)) ρi) D), fun σ' H' q => q, fun v H2 hy => ?_⟩
    obtain ⟨g2, sv⟩ := yl v H2 hy
    have hd : xs.drop i = x :: xs.drop (i + 1) := by
      rw [List.drop_eq_getElem_cons hlt]
      congr 1
      exact Option.some.inj ((List.getElem?_eq_getElem hlt).symm.trans hx)
    rw [hd] at hp
    simp only [forL] at hp
    cases e1 : setTg P itg x false ρi with
    | none => rw [e1] at hp; exact hp.elim
    | some ρt =>
      simp only [e1] at hp
      have B2 := B.trans (Aft.grow B.rel g2)
      refine tg_ok hP B2 (val_sh sv) e1 fun σ2 B3 F2 => ?_
      exact turn_ok B3 (F.trans F2) hp fun ρ2 σ3 H3 Z3 B4 F3 h4 => ⟨xs.length - (i + 1), by omega, rfl, hlt, ρ2, Z3, B4, F3, h4⟩
  · have ei : i = xs.length := by omega
    subst ei
    rw [List.drop_length] at hp
    simp only [forL] at hp
    exact .inl ⟨(it _ Zi Hi xB).2 rfl, hp σi Hi Zi B F⟩
theorem ss_for (hP : ∀ i ∈ G.fix, i ∈ P) {itg : Tg} {it : II} {ib : IB} (hp : PassesOwn (model X.prog X.w) X.A X.env X.xe) (hc : X.calm = true) (hs : ∀ x, foldedSetIterable iter X.env x = pure x)
    (hi : PI X tg iter (TDI K cl W (dI Φ it))) (hg : PG X tg (tgR K itg)) (hb : PSs X sts (TDS K cl W P (dB Φ P ib))) : PS X (.For tg iter sts [] pos) (TDS K cl W P (dS Φ P (.for_ itg it ib))) :=
  PS.weak (ps_for hp hc hi hg hb hs) fun D σ H h => for_ok hP h
theorem ss_forH (hP : ∀ i ∈ G.fix, i ∈ P) {itg : Tg} {it : II} {ib : IB} (hp : PassesOwn (model X.prog X.w) X.A X.env X.xe) (hc : L2H.HotC X) (hs : ∀ x, foldedSetIterable iter X.env x = pure x)
    (hi : L2H.PIH X tg iter (TDI K cl W (dI Φ it))) (hg : PG X tg (tgR K itg)) (hb : PSs X sts (TDS K cl W P (dB Φ P ib))) : PS X (.For tg iter sts [] pos) (TDS K cl W P (dS Φ P (.for_ itg it ib))) :=
  PS.weak (L2H.ps_forH hp hc hi hg hb hs) fun D σ H h => for_ok hP h
theorem ss_while {ic : IT} {ib : IB} (hp : PassesOwn (model X.prog X.w) X.A X.env X.xe) (hc : PT X c (TDT K cl W (dT Φ ic))) (hb : PSs X sts (TDS K cl W P (dB Φ P ib))) : PS X (.While c sts [] pos) (TDS K cl W P (dS Φ P (.while_ ic ib))) := by
  refine PS.weak (ps_while hp hc hb) fun D σ H ⟨ρ, Z, R, h⟩ => ?_
  simp only [dS] at h
  refine ⟨fun m σi Hi => ∃ ρi Zi, Aft K ρ σ H Z ρi σi Hi Zi ∧ Fx P σ σi ∧ PostS K cl W P ρ σ H Z (whileL (dT Φ ic) (dB Φ P ib) m ρi) D, ⟨bigFuel, ρ, Z, Aft.refl R, Fx.refl, h⟩, ?_⟩
  rintro m σi Hi ⟨ρi, Zi, B, F, hp⟩
  cases m with
  | zero => exact hp.elim
  | succ m =>
    simp only [whileL] at hp
    refine TDT.mono (tdt_stm B F hp) fun k H2 ⟨ρ2, Z2, B2, _, h2⟩ => ?_
    cases k with
    | true =>
      simp only [if_true] at h2 ⊢
      refine ⟨fun σ' H' => ∃ m', m' < m + 1 ∧ ∃ ρi Zi, Aft K ρ σ H Z ρi σ' H' Zi ∧ Fx P σ σ' ∧ PostS K cl W P ρ σ H Z (whileL (dT Φ ic) (dB Φ P ib) m' ρi) D, fun σ' H' q => q, ?_⟩
      exact turn_ok B2 F h2 fun ρ3 σ3 H3 Z3 B4 F3 h4 => ⟨m, Nat.lt_succ_self _, ρ3, Z3, B4, F3, h4⟩
    | false =>
      simp only [Bool.false_eq_true, if_false] at h2 ⊢
      exact h2 σi H2 Z2 B2 F
end
end Mv
namespace Mv
open PySem PySem.Spec L2
open PyProof.Rows hiding St

/-- nothing is handled; or, where a def can be called so (hb), an exception is, and it stands apart -/
def Cool (hb : Bool) (outer : List Env) (H : Hp) (s : Shared) (A : Around) : Prop := A.handled = none ∨ (hb = true ∧ ∃ p : Addr × Obj, L2H.Hot1 A p ∧ L2H.PinOk outer H s p)
/-- a def keeps its promise wherever no repr is under way -/
structure FnG (P : Program) (w : World) (K : PySem.W.Frag) (mg : Str → Option Value) (base : Heap) (k : Nat) (f : Addr) (fd : FuncData) (ps : List Str) (hb : Bool) (sp : Sp) : Prop where
  len : ∀ vs H Q E, sp vs H Q E → vs.length = ps.length
  run : ∀ (A : Around) (outer : List Env) (s : Shared) (H : Hp) (args : Args) (us : List Value) (vs : List V) (Q : VK) (E : XK), L2H.RoomH k A → A.guards = some [] → Cool hb outer H s A → Env0 P w K mg base A outer s H →
    BindsTo s fd args (ps.zip us) → Vals vs us → sp vs H Q E → codeAny (model P w) A (.call (.ref f) args) (L2.CR (L2N.CX P w) outer P w H s Q E) s
/-- what a context knows of the exception that is handled -/
def CoolC (hb : Bool) (X : Cx) : Prop := X.A.handled = none ∨ (hb = true ∧ L2H.HotC X)
theorem CoolC.at {hb : Bool} {X : Cx} {pins : List (Addr × Obj)} {σ : L2.St} {H : Hp} {s : Shared} (c : CoolC hb X) (I : Inv X pins σ H s) : Cool hb X.stack H s X.A := by
  rcases c with c | ⟨e, p, hot, hp⟩
  · exact .inl c
  · have q := I.pin p (List.mem_append_left _ hp)
    exact .inr ⟨e, p, hot, q.1, q.2.1, fun hm => (List.mem_cons.mp (I.stkSub p.1 hm)).elim q.2.2.1 q.2.2.2.1, q.2.2.2.2⟩
section
variable [Glo]
variable {X : Cx} {k : Nat} {f : Addr} {fd : FuncData} {ps ks : List Str} {hb : Bool} {sp : Sp} {W : WX} {x : Str} {p pos : Pos} {e : Expr} {es : List Expr} {kws : List Keyword} {t tk : TA}
theorem runG {pins : List (Addr × Obj)} {σ : L2.St} {H : Hp} {s : Shared} {Q : VK} {args : Args} {us : List Value} {vs : List V} (G : FnG X.prog X.w X.K X.mg X.base k f fd ps hb sp) (room : L2H.RoomH k X.A) (gd : X.A.guards = some []) (cool : CoolC hb X) (tkn : L2N.Takes X W)
    (I : Inv X pins σ H s) (bd : BindsTo s fd args (ps.zip us)) (r : Vals vs us) (h : sp vs H Q (WE W σ)) :
    codeAny (model X.prog X.w) X.A (.call (.ref f) args) (fun r s' => match r with
      | .ok (.ret u) => EP X pins σ Q u s'
      | .ok _ => False
      | .error e => X.xe e s') s := by
  refine codeAny_mono (G.run X.A X.stack s H args us vs Q (WE W σ) room gd (cool.at I) I.env0 bd r h) fun r s' q => ?_
  match r, q with
  | .error e, q => exact L2N.passAt tkn σ pins H s e s' I q
  | .ok (.ret u), q => exact I.after q
/-- f(e, ..) -/
theorem pe_callG (G : FnG X.prog X.w X.K X.mg X.base k f fd ps hb sp) (room : L2H.RoomH k X.A) (gd : X.A.guards = some []) (cool : CoolC hb X) (hg : Gl X x) (hm : X.mg x = some (.ref f)) (hk : PySem.W.keepIn X.K (.ref f) = true) (hb : Binds X.K fd ps []) (tkn : L2N.Takes X W)
    (hs : ((e :: es).all fun e => !isStar e) = true) (hdb : (x == ("__debug__" : Str)) = false) (ha : PA X (e :: es) t) :
    PE X (.Call (.Name x p) (e :: es) [] pos) (fun σ H Q => t σ H fun vs H1 => sp vs H1 Q (WE W σ)) := by
  simp only [List.all_cons, Bool.and_eq_true, Bool.not_eq_true'] at hs
  refine ⟨fun pins s σ H Q I h => wpAny_Call_Name_kw (ld_glob I hg hm ?_ hdb)⟩
  refine PySem.W.callWith_K (h₀ := X.base) I.ok.mod.kin hk ?_ (star_cons hs.1) (star_any hs.2)
  refine thn (ha.run pos pins s σ H _ I h) fun us s1 ⟨vs, H1, I1, r, q⟩ => ⟨I1.kIn, ?_⟩
  have hl : us.length = ps.length := by rw [← r.length]; exact G.len _ _ _ _ q
  have bd := hb s1 us I1.kIn (by rw [List.append_nil]; exact hl)
  rw [List.append_nil] at bd
  refine wpAny_call (codeAny_mono (runG G room gd cool tkn I1 bd r q) fun r s' z => ?_)
  match r, z with
  | .error e, z => exact z
  | .ok (.ret u), z => exact z
/-- f() -/
theorem pe_callG0 (G : FnG X.prog X.w X.K X.mg X.base k f fd ps hb sp) (room : L2H.RoomH k X.A) (gd : X.A.guards = some []) (cool : CoolC hb X) (hg : Gl X x) (hm : X.mg x = some (.ref f)) (hk : PySem.W.keepIn X.K (.ref f) = true) (hb : Binds X.K fd ps []) (tkn : L2N.Takes X W)
    (hdb : (x == ("__debug__" : Str)) = false) : PE X (.Call (.Name x p) [] [] pos) (fun σ H Q => sp [] H Q (WE W σ)) := by
  refine ⟨fun pins s σ H Q I h => wpAny_Call_Name_kw (ld_glob I hg hm ?_ hdb)⟩
  refine PySem.W.callWith_K0 I.kIn hk ?_
  have hl : 0 = ps.length := G.len _ _ _ _ h
  have bd := hb s [] I.kIn (by simpa using hl)
  refine wpAny_call (codeAny_mono (runG G room gd cool tkn I bd .nil h) fun r s' z => ?_)
  match r, z with
  | .error e, z => exact z
  | .ok (.ret u), z => exact z
end
/-- THE RULE for a def, by its body -/
theorem fnG_of {P : Program} {w : World} {K : PySem.W.Frag} {mg : Str → Option Value} {base : Heap} {k : Nat} {f : Addr} {x qual : Str} {st : Stmt} {fd : FuncData} {N ps : List Str} {hb : Bool} {sp : Sp} (F : Fun K x qual st f fd) (S : FnScope N ps (defScope st))
    (len : ∀ vs H Q E, sp vs H Q E → vs.length = ps.length)
    (hbody : ∀ (cdv : Value), fd.code = cdv → ∀ (A : Around) (outer : List Env) (s : Shared) (H : Hp) (vs : List V) (Q : VK) (E : XK), L2H.RoomH k (A.deeper (envOfC qual (defScope st) s.heap.objs.size f cdv)) → A.handled = none → A.guards = some [] → sp vs H Q E →
      ∃ t, PSs (cxOf (L2N.CX P w) P w K mg base N qual (defScope st) f cdv A outer s H E) (defBody st) t ∧ t { nx := fun _ H' => Q .non H', rt := Q } (start N vs) H)
    (hbodyH : hb = true → ∀ (cdv : Value), fd.code = cdv → ∀ (A : Around) (outer : List Env) (s : Shared) (H : Hp) (vs : List V) (Q : VK) (E : XK) (p : Addr × Obj), L2H.RoomH k (A.deeper (envOfC qual (defScope st) s.heap.objs.size f cdv)) → L2H.Hot1 A p → A.guards = some [] → sp vs H Q E →
      ∃ t, PSs (L2H.cxH (L2N.CX P w) P w K mg base N qual (defScope st) f cdv A outer s H E p) (defBody st) t ∧ t { nx := fun _ H' => Q .non H', rt := Q } (start N vs) H) :
    FnG P w K mg base (k + 1) f fd ps hb sp := by
  obtain ⟨oc, od, kV, doc, pm, an, cdv, ct, osl, rfl, look, code⟩ := F.ex
  constructor
  · exact len
  intro A outer s H args us vs Q E room gd cool env0 bd r want
  have n := len _ _ _ _ want
  have inK : K.In s.heap := env0.mod.kin.keeps fun b o z => (env0.bs b o z).1
  have noLim : s.heap.NoLimit := env0.mod.nolimit.keeps fun b o z => (env0.bs b o z).1
  have kinds : ∀ y ∈ ps.zip us, (defScope st).names.lookup y.1 = some .local ∨ ((defScope st).names.lookup y.1 = some .cell ∧ ((cellsFrom (s.heap.objs.size + 1) (defScope st).names []).lookup y.1).isSome = true) := by
    intro y hy
    rcases S.par y.1 (List.of_mem_zip (a := y.1) (b := y.2) hy).1 with q | q
    · exact .inl q
    · exact .inr ⟨q, PySem.W.cellsFrom_some _ _ _ (.inl q)⟩
  refine codeAny_call_function room.depth (inK _ _ look) rfl S.co S.gen rfl (PySem.W.codeRec_of inK code) (bd _ _ _ _ ?_)
  refine wpAny_newFunctionEnv_cells S.kind kinds fun env he s1 inC => ?_
  subst he
  refine ⟨noLim.keeps inC.toInCall.keep, codeAny_func ?_⟩
  rcases cool with hd | ⟨eb, p, hot, pin⟩
  · obtain ⟨t, ht, hq⟩ := hbody cdv rfl A outer s H vs Q E (room.deeper _) hd gd want
    have I0 := inv_start (CX := L2N.CX P w) (mg := mg) (base := base) (outer := outer) (E := E) S hd env0 n r inC
    refine wpAny_mono (ht.run [] s1 (start N vs) H _ I0 hq) (fun fl s' hs => ?_) fun e s' hs => hs
    have back : ∀ {σ' : L2.St} {H' : Hp} {v : V} {u : Value}, Inv (cxOf (L2N.CX P w) P w K mg base N qual (defScope st) f cdv A outer s H E) [] σ' H' s' → RelV v u → Q v H' → L2.CE outer P w H s Q u s' :=
      fun {σ' H' v u} J rv q => ⟨v, H', J.os, J.bare, J.base, J.hok, rv, q⟩
    match fl, hs with
    | .next, ⟨σ', H', J, q⟩ => exact back (v := V.non) (u := Value.none) J rfl q
    | .ret u, ⟨v, σ', H', J, rv, q⟩ => exact back J rv q
    | .brk, ⟨_, _, _, q⟩ => exact q.elim
    | .cont, ⟨_, _, _, q⟩ => exact q.elim
  · obtain ⟨t, ht, hq⟩ := hbodyH eb cdv rfl A outer s H vs Q E p (room.deeper _) hot gd want
    have I0 := L2H.inv_startH (CX := L2N.CX P w) (mg := mg) (base := base) (outer := outer) (E := E) S pin env0 n r inC
    refine wpAny_mono (ht.run [] s1 (start N vs) H _ I0 hq) (fun fl s' hs => ?_) fun e s' hs => hs
    have back : ∀ {σ' : L2.St} {H' : Hp} {v : V} {u : Value}, Inv (L2H.cxH (L2N.CX P w) P w K mg base N qual (defScope st) f cdv A outer s H E p) [] σ' H' s' → RelV v u → Q v H' → L2.CE outer P w H s Q u s' :=
      fun {σ' H' v u} J rv q => ⟨v, H', J.os, J.bare, J.base, J.hok, rv, q⟩
    match fl, hs with
    | .next, ⟨σ', H', J, q⟩ => exact back (v := V.non) (u := Value.none) J rfl q
    | .ret u, ⟨v, σ', H', J, rv, q⟩ => exact back J rv q
    | .brk, ⟨_, _, _, q⟩ => exact q.elim
    | .cont, ⟨_, _, _, q⟩ => exact q.elim

section
variable [G : Glo]
variable (K : PySem.W.Frag) (cl : Cl)
def Outs (vs : List V) (out : En) (ρ' : En) (σ' : L2.St) : Prop := ∀ (j : Nat) (s : D × Bool), out[j]? = some (some s) → ρ'[j]? = some (some s) ∧ ∃ v, vs[j]? = some v ∧ σ'[j]? = some (some v)
def PostC (xs : List (D × Bool)) (vs : List V) (H : Hp) (Z : Zt) (r : CL) (Q : VK) (E : XK) : Prop := match r with
  | .ok d own out => ∀ v ρ' σ' H' Z', Aft K (xs.map some) (vs.map some) H Z ρ' σ' H' Z' → Val K (xs.map some) (vs.map some) H ρ' σ' H' Z' v (.val d own) → Outs vs out ρ' σ' → Q v H'
  | .ex c p out => ∀ ρ' σ' H' Z' cls dx, Aft K (xs.map some) (vs.map some) H Z ρ' σ' H' Z' → XAt K cl Z' H' c p cls dx → Outs vs out ρ' σ' → E cls dx H'
  | .bad => False
def spD (g : List (D × Bool) → CL) (n : Nat) : Sp := fun vs H Q E => vs.length = n ∧ ∃ xs Z, Rel K (xs.map some) (vs.map some) H Z ∧ PostC K cl xs vs H Z (g xs) Q E
end
section
variable [G : Glo]
variable {K : PySem.W.Frag} {cl : Cl} {W : WX} {P : List Nat} {Z Z' Z0 Z1 Z2 : Zt} {H H' H0 H1 H2 : Hp} {ρ ρ' ρ0 ρ1 ρ2 : En} {σ σ' σ0 σ1 : L2.St} {v w : V} {d d' e : D} {own : Bool} {o : Op}
variable {X : Cx} {Φ : Fn}
theorem get_pad {α : Type} {l : List α} {n i : Nat} {x : α} : (l.map some ++ List.replicate n (none : Option α))[i]? = some (some x) ↔ (l.map some)[i]? = some (some x) := by
  by_cases hi : i < l.length
  · rw [List.getElem?_append_left (by simpa using hi)]
  · have h1 : (l.map some)[i]? = none := List.getElem?_eq_none (by simpa using hi)
    rw [h1, List.getElem?_append_right (by simpa using hi), List.getElem?_replicate]
    constructor
    · intro h
      split at h <;> cases h
    · intro h; cases h
theorem own_pad {xs : List (D × Bool)} {vs : List V} {n m : Nat} {a : Addr} : Own (xs.map some ++ List.replicate n none) (vs.map some ++ List.replicate m none) a ↔ Own (xs.map some) (vs.map some) a := by
  constructor
  · rintro ⟨i, d, h1, h2⟩
    exact ⟨i, d, get_pad.mp h1, get_pad.mp h2⟩
  · rintro ⟨i, d, h1, h2⟩
    exact ⟨i, d, get_pad.mpr h1, get_pad.mpr h2⟩
theorem Rel.pad (hf : G.fix = []) {xs : List (D × Bool)} {vs : List V} {n : Nat} (R : Rel K (xs.map some) (vs.map some) H Z) : Rel K (xs.map some ++ List.replicate n none) (vs.map some ++ List.replicate n none) H Z where
  ge := R.ge.sl fun j hj => by rw [hf] at hj; cases hj
  len := by rw [List.length_append, List.length_append, R.len, List.length_replicate, List.length_replicate]
  zt := R.zt
  has := fun i d own h => by
    obtain ⟨v, h1, h2⟩ := R.has i d own (get_pad.mp h)
    exact ⟨v, get_pad.mpr h1, h2⟩
  sep := fun i j d e a h1 h2 h3 h4 => R.sep i j d e a (get_pad.mp h1) (get_pad.mp h2) (get_pad.mp h3) (get_pad.mp h4)
theorem Aft.start {ρb : En} {σb : L2.St} (h : ∀ a, Own ρ σ a ↔ Own ρb σb a) (A : Aft K ρ σ H Z ρ' σ' H' Z') : Aft K ρb σb H Z ρ' σ' H' Z' :=
  ⟨A.rel, A.zz, fun a o q t n => A.keep a o q t fun z => n ((h a).mp z), A.tk, fun a q => (A.zn a q).imp id fun z => z.imp (h a).mp id, fun a q => (A.on a q).imp (h a).mp id⟩
theorem Val.start {ρb : En} {σb : L2.St} (h : ∀ a, Own ρ σ a ↔ Own ρb σb a) (hv : Val K ρ σ H ρ' σ' H' Z' v (.val d own)) : Val K ρb σb H ρ' σ' H' Z' v (.val d own) :=
  ⟨hv.1, fun e a q => ⟨(hv.2 e a q).1, (hv.2 e a q).2.imp (h a).mp id⟩⟩
/-- the slots that came back -/
theorem outs_ok {vs : List V} {np : Nat} (hn : np = vs.length) {N : Nat} (F : Fx P (vs.map some ++ List.replicate N none) σ') : Outs vs (outs P np ρ') ρ' σ' := by
  intro j s h
  unfold outs at h
  rw [List.getElem?_map] at h
  cases e : (List.range np)[j]? with
  | none => rw [e] at h; cases h
  | some k =>
    rw [e] at h
    have hj : j < np := by
      rcases Nat.lt_or_ge j np with q | q
      · exact q
      · rw [List.getElem?_eq_none (by simpa using q)] at e; cases e
    rw [List.getElem?_range hj] at e
    cases e
    have h : (if P.contains j = true then ρ'[j]?.join else none) = some s := Option.some.inj h
    split at h
    · rename_i hp
      refine ⟨join_some h, ?_⟩
      have hjv : j < vs.length := by omega
      refine ⟨vs[j], List.getElem?_eq_getElem hjv, ?_⟩
      rw [F j (by simpa using hp), List.getElem?_append_left (by simpa using hjv), List.getElem?_map, List.getElem?_eq_getElem hjv]
      rfl
    · cases h
/-- from a body's meaning to its def's promise -/
theorem body_sp (hf : G.fix = []) {fd : Fd} {N : List Str} {vs : List V} {Q : VK} {E : XK} {sts : List Stmt} (hnn : fd.nn = N.length) (hnp : fd.np ≤ fd.nn) (h : spD K cl (runF Φ fd) fd.np vs H Q E) :
    TDS K cl (fun cls d _ H => E cls d H) fd.P (dB Φ fd.P fd.body) { nx := fun _ H' => Q .non H', rt := Q } (L2.start N vs) H := by
  obtain ⟨hl, xs, Z, R, h⟩ := h
  have hx : xs.length = fd.np := by
    have := R.len
    rw [List.length_map, List.length_map] at this
    omega
  unfold runF at h
  rw [if_pos hx] at h
  have hs : L2.start N vs = vs.map some ++ List.replicate (fd.nn - fd.np) none := by
    unfold L2.start
    rw [hnn, hl]
  rw [hs]
  refine ⟨xs.map some ++ List.replicate (fd.nn - fd.np) none, Z, R.pad hf, ?_⟩
  have pd : ∀ a, Own (xs.map some ++ List.replicate (fd.nn - fd.np) none) (vs.map some ++ List.replicate (fd.nn - fd.np) none) a ↔ Own (xs.map some) (vs.map some) a := fun a => own_pad
  cases e : dB Φ fd.P fd.body (xs.map some ++ List.replicate (fd.nn - fd.np) none) with
  | nx ρ' =>
    rw [e] at h
    exact fun σ' H' Z' A F => h .non ρ' σ' H' Z' (A.start pd) (val_sh .non) (outs_ok hl.symm F)
  | rt d own ρ' =>
    rw [e] at h
    exact fun v σ' H' Z' A F hv => h v ρ' σ' H' Z' (A.start pd) (hv.start pd) (outs_ok hl.symm F)
  | ex c p ρ' =>
    rw [e] at h
    exact fun σ' H' Z' cls dx A F x => h ρ' σ' H' Z' cls dx (A.start pd) x (outs_ok hl.symm F)
  | bk ρ' => rw [e] at h; exact h.elim
  | ct ρ' => rw [e] at h; exact h.elim
  | bad => rw [e] at h; exact h.elim
end
end Mv
namespace Mv
open PySem PySem.Spec L2
open PyProof.Rows hiding St
variable [G : Glo]

section
variable {K : PySem.W.Frag} {cl : Cl} {W : WX} {P : List Nat} {Z Z' Z0 Z1 Z2 : Zt} {H H' H0 H1 H2 : Hp} {ρ ρ' ρ0 ρ1 ρ2 : En} {σ σ' σ0 σ1 : L2.St} {v w : V} {d d' e : D} {own : Bool} {o : Op}
variable {X : Cx} {Φ : Fn}
def OwnS (ρ : En) (s : Nat) : Prop := ∃ d, ρ[s]? = some (some (d, true))
theorem put_len : ∀ (os : List Op) (out : En), (putBack ρ os out).length = ρ.length
  | [], _ => rfl
  | .val _ _ :: r, out => put_len r out.tail
  | .ref i :: r, out => by
    unfold putBack
    split
    · rw [List.length_set, put_len r]
    · exact put_len r out.tail
theorem put_some {s : Nat} {x : D × Bool} : ∀ {os : List Op} {out : En}, (putBack ρ os out)[s]? = some (some x) →
    (OwnS ρ s ∧ ∃ j : Nat, os[j]? = some (Op.ref s) ∧ out[j]? = some (some x)) ∨ ((∀ j : Nat, os[j]? = some (Op.ref s) → ¬ OwnS ρ s) ∧ ρ[s]? = some (some x))
  | [], _, h => .inr ⟨fun j q => by simp at q, h⟩
  | .val a b :: r, out, h => by
    have h : (putBack ρ r out.tail)[s]? = some (some x) := h
    rcases put_some h with ⟨h1, j, h2, h3⟩ | ⟨h1, h2⟩
    · refine .inl ⟨h1, j + 1, by simpa using h2, ?_⟩
      cases out with
      | nil => simp at h3
      | cons _ t => simpa using h3
    · refine .inr ⟨fun j q => ?_, h2⟩
      cases j with
      | zero => simp at q
      | succ j => exact h1 j (by simpa using q)
  | .ref i :: r, out, h => by
    unfold putBack at h
    have tail : ∀ {out : En} {j : Nat} {y : Sl}, out.tail[j]? = some y → out[j + 1]? = some y := fun {out j y} q => by
      cases out with
      | nil => simp at q
      | cons _ t => simpa using q
    split at h
    · rename_i d0 e
      rcases set_cases h with ⟨e1, e2, _⟩ | ⟨ne, h⟩
      · subst e1
        refine .inl ⟨⟨d0, e⟩, 0, rfl, ?_⟩
        cases out with
        | nil => simp at e2
        | cons y t => simp at e2; simp [e2]
      · rcases put_some h with ⟨h1, j, h2, h3⟩ | ⟨h1, h2⟩
        · exact .inl ⟨h1, j + 1, by simpa using h2, tail h3⟩
        · refine .inr ⟨fun j q => ?_, h2⟩
          cases j with
          | zero => simp at q; exact (ne q).elim
          | succ j => exact h1 j (by simpa using q)
    · rename_i e
      rcases put_some h with ⟨h1, j, h2, h3⟩ | ⟨h1, h2⟩
      · exact .inl ⟨h1, j + 1, by simpa using h2, tail h3⟩
      · refine .inr ⟨fun j q => ?_, h2⟩
        cases j with
        | zero =>
          simp at q
          subst q
          rintro ⟨d0, e0⟩
          exact e d0 e0
        | succ j => exact h1 j (by simpa using q)
theorem ownIx_mem {s : Nat} {j : Nat} : ∀ {os : List Op}, os[j]? = some (Op.ref s) → OwnS ρ s → s ∈ ownIx ρ os
  | .ref i :: r, h, q => by
    unfold ownIx
    cases j with
    | zero =>
      simp at h
      subst h
      obtain ⟨d, e⟩ := q
      rw [e]
      exact List.mem_cons_self
    | succ j =>
      have ih := ownIx_mem (j := j) (os := r) (by simpa using h) q
      split
      · exact List.mem_cons_of_mem _ ih
      · exact ih
  | .val _ _ :: r, h, q => by
    cases j with
    | zero => simp at h
    | succ j => exact ownIx_mem (j := j) (os := r) (by simpa using h) q
  | [], h, q => by simp at h
theorem ownIx_inj {s : Nat} : ∀ {os : List Op} {i j : Nat}, (ownIx ρ os).Nodup → os[i]? = some (Op.ref s) → os[j]? = some (Op.ref s) → OwnS ρ s → i = j
  | [], _, _, _, h, _, _ => by simp at h
  | .val _ _ :: r, i, j, nd, h1, h2, q => by
    cases i with
    | zero => simp at h1
    | succ i =>
      cases j with
      | zero => simp at h2
      | succ j => exact congrArg (· + 1) (ownIx_inj (os := r) (i := i) (j := j) nd (by simpa using h1) (by simpa using h2) q)
  | .ref k :: r, i, j, nd, h1, h2, q => by
    have cut : (ownIx ρ r).Nodup := by
      unfold ownIx at nd
      split at nd
      · exact (List.nodup_cons.mp nd).2
      · exact nd
    have first : ∀ {j : Nat}, k = s → r[j]? = some (.ref s) → False := fun {j} e h => by
      subst e
      obtain ⟨d, e⟩ := id q
      unfold ownIx at nd
      rw [e] at nd
      exact (List.nodup_cons.mp nd).1 (ownIx_mem h q)
    cases i with
    | zero =>
      cases j with
      | zero => rfl
      | succ j => exact (first (by simpa using h1) (by simpa using h2)).elim
    | succ i =>
      cases j with
      | zero => exact (first (by simpa using h2) (by simpa using h1)).elim
      | succ j => exact congrArg (· + 1) (ownIx_inj (os := r) (i := i) (j := j) cut (by simpa using h1) (by simpa using h2) q)
theorem paired_get {α β : Type} {F : α → β → Prop} : ∀ {xs : List α} {ys : List β} {i : Nat} {y : β}, Paired F xs ys → ys[i]? = some y → ∃ x, xs[i]? = some x ∧ F x y
  | _, _, _, _, .nil, h => by simp at h
  | _, _, 0, _, .cons r _, h => by simp at h; subst h; exact ⟨_, rfl, r⟩
  | _, _, i + 1, _, .cons _ t, h => by
    obtain ⟨x, h1, h2⟩ := paired_get t (i := i) (by simpa using h)
    exact ⟨x, by simpa using h1, h2⟩
theorem paired_len {α β : Type} {F : α → β → Prop} : ∀ {xs : List α} {ys : List β}, Paired F xs ys → xs.length = ys.length
  | _, _, .nil => rfl
  | _, _, .cons _ t => by rw [List.length_cons, List.length_cons, paired_len t]
theorem argsOf_get : ∀ {os : List Op} {xs : List (D × Bool)} {i : Nat} {x : D × Bool}, argsOf ρ os = some xs → xs[i]? = some x → ∃ o, os[i]? = some o ∧ deref ρ o = some x
  | [], _, _, _, h, e => by
    simp only [argsOf] at h
    cases h
    simp at e
  | o :: r, xs, i, x, h, e => by
    simp only [argsOf] at h
    split at h
    · rename_i y ys e1 e2
      cases h
      cases i with
      | zero => simp at e; subst e; exact ⟨o, rfl, e1⟩
      | succ i =>
        obtain ⟨o', h1, h2⟩ := argsOf_get (i := i) e2 (by simpa using e)
        exact ⟨o', by simpa using h1, h2⟩
    · cases h
theorem argsOf_len : ∀ {os : List Op} {xs : List (D × Bool)}, argsOf ρ os = some xs → xs.length = os.length
  | [], _, h => by simp only [argsOf] at h; cases h; rfl
  | o :: r, xs, h => by
    simp only [argsOf] at h
    split at h
    · rename_i y ys e1 e2
      cases h
      rw [List.length_cons, List.length_cons, argsOf_len e2]
    · cases h
/-- what the callee owns -/
structure Handed (K : PySem.W.Frag) (ρ0 : En) (σ : L2.St) (H0 : Hp) (ρ1 : En) (H1 : Hp) (Z1 : Zt) (vs : List V) (os : List Op) (xs : List (D × Bool)) : Prop where
  av : AVal K ρ0 σ H0 ρ1 σ H1 Z1 vs os
  ar : argsOf ρ1 os = some xs
  nd : (ownIx ρ1 os).Nodup
theorem ownS_of {a : Addr} {s : Nat} {x : D × Bool} (h : deref ρ (.ref s) = some x) (hx : x.2 = true) : OwnS ρ s := by
  obtain ⟨d, b⟩ := x
  cases hx
  exact ⟨d, join_some h⟩
/-- an address that the callee owns: one of a slot's, or a new thing's -/
theorem Handed.owned {vs : List V} {os : List Op} {xs : List (D × Bool)} (h : Handed K ρ0 σ H0 ρ1 H1 Z1 vs os xs) {a : Addr} (q : Own (xs.map some) (vs.map some) a) :
    ∃ (i : Nat) (d : D), xs[i]? = some (d, true) ∧ vs[i]? = some (.ref a) ∧ ((∃ s : Nat, os[i]? = some (Op.ref s) ∧ OwnS ρ1 s ∧ σ[s]? = some (some (V.ref a))) ∨ (os[i]? = some (Op.val d true) ∧ ¬ Own ρ1 σ a ∧ (Own ρ0 σ a ∨ H0 a = none))) := by
  obtain ⟨i, d, h1, h2⟩ := q
  have x1 : xs[i]? = some (d, true) := by
    rw [List.getElem?_map] at h1
    cases e : xs[i]? with
    | none => rw [e] at h1; cases h1
    | some y => rw [e] at h1; exact congrArg some (Option.some.inj (Option.some.inj h1))
  have v1 : vs[i]? = some (.ref a) := by
    rw [List.getElem?_map] at h2
    cases e : vs[i]? with
    | none => rw [e] at h2; cases h2
    | some y => rw [e] at h2; exact congrArg some (Option.some.inj (Option.some.inj h2))
  obtain ⟨o, o1, o2⟩ := argsOf_get h.ar x1
  obtain ⟨u, u1, u2⟩ := paired_get h.av.1 o1
  rw [v1] at u1
  cases u1
  refine ⟨i, d, x1, v1, ?_⟩
  cases o with
  | ref s => exact .inl ⟨s, o1, ownS_of (a := a) o2 rfl, u2⟩
  | val d' b =>
    cases o2
    exact .inr ⟨o1, u2.2 rfl a rfl⟩
theorem Handed.relF {vs : List V} {os : List Op} {xs : List (D × Bool)} (R : Rel K ρ1 σ H1 Z1) (h : Handed K ρ0 σ H0 ρ1 H1 Z1 vs os xs) : RelF K (xs.map some) (vs.map some) H1 Z1 where
  len := by rw [List.length_map, List.length_map, argsOf_len h.ar, paired_len h.av.1]
  zt := R.zt
  has := fun i d own e => by
    have x1 : xs[i]? = some (d, own) := by
      rw [List.getElem?_map] at e
      cases e2 : xs[i]? with
      | none => rw [e2] at e; cases e
      | some y => rw [e2] at e; exact congrArg some (Option.some.inj (Option.some.inj e))
    obtain ⟨o, o1, o2⟩ := argsOf_get h.ar x1
    obtain ⟨u, u1, u2⟩ := paired_get h.av.1 o1
    refine ⟨u, ?_, u2.deref R o2⟩
    rw [List.getElem?_map, u1]
    rfl
  sep := fun i j d e a e1 e2 s1 s2 => by
    have g : ∀ {i : Nat} {d : D}, (xs.map some)[i]? = some (some (d, true)) → (vs.map some)[i]? = some (some (.ref a)) → ∃ o, os[i]? = some o ∧ vs[i]? = some (.ref a) ∧ deref ρ1 o = some (d, true) ∧ Val K ρ0 σ H0 ρ1 σ H1 Z1 (.ref a) o := fun {i d} e s => by
      have x1 : xs[i]? = some (d, true) := by
        rw [List.getElem?_map] at e
        cases e2 : xs[i]? with
        | none => rw [e2] at e; cases e
        | some y => rw [e2] at e; exact congrArg some (Option.some.inj (Option.some.inj e))
      have v1 : vs[i]? = some (.ref a) := by
        rw [List.getElem?_map] at s
        cases e2 : vs[i]? with
        | none => rw [e2] at s; cases s
        | some y => rw [e2] at s; exact congrArg some (Option.some.inj (Option.some.inj s))
      obtain ⟨o, o1, o2⟩ := argsOf_get h.ar x1
      obtain ⟨u, u1, u2⟩ := paired_get h.av.1 o1
      rw [v1] at u1
      cases u1
      exact ⟨o, o1, v1, o2, u2⟩
    obtain ⟨o1, a1, b1, c1, v1⟩ := g e1 s1
    obtain ⟨o2, a2, b2, c2, v2⟩ := g e2 s2
    cases o1 with
    | val d1 k1 =>
      cases c1
      cases o2 with
      | val d2 k2 =>
        cases c2
        exact h.av.2 i j _ _ a a1 a2 b1 b2
      | ref t =>
        have ot := ownS_of (a := a) c2 rfl
        obtain ⟨dt, et⟩ := ot
        exact ((v1.2 rfl a rfl).1 ⟨t, dt, et, v2⟩).elim
    | ref s =>
      have os' := ownS_of (a := a) c1 rfl
      cases o2 with
      | val d2 k2 =>
        cases c2
        obtain ⟨ds, es⟩ := os'
        exact ((v2.2 rfl a rfl).1 ⟨s, ds, es, v1⟩).elim
      | ref t =>
        have ot := ownS_of (a := a) c2 rfl
        obtain ⟨ds, es⟩ := id os'
        obtain ⟨dt, et⟩ := ot
        have est := R.sep s t ds dt a es et v1 v2
        subst est
        exact ownIx_inj h.nd a1 a2 os'
theorem Handed.rel {vs : List V} {os : List Op} {xs : List (D × Bool)} (R : Rel K ρ1 σ H1 Z1) (h : Handed K ρ0 σ H0 ρ1 H1 Z1 vs os xs) : @Rel G.bare K (xs.map some) (vs.map some) H1 Z1 :=
  rel_bare G.toTabC (h.relF R) R.ge.tb
/-- behind the call -/
theorem Handed.back {vs : List V} {os : List Op} {xs : List (D × Bool)} {out : En} (A1 : Aft K ρ0 σ H0 Z0 ρ1 σ H1 Z1) (h : Handed K ρ0 σ H0 ρ1 H1 Z1 vs os xs) (C : AftF K (xs.map some) (vs.map some) H1 Z1 ρ' σ' H' Z') (tb : TbOk H') (O : Outs vs out ρ' σ') :
    Aft K ρ0 σ H0 Z0 (putBack ρ1 os out) σ H' Z' ∧ ∀ (v : V) (d : D) (own : Bool), Val K (xs.map some) (vs.map some) H1 ρ' σ' H' Z' v (.val d own) → Val K ρ0 σ H0 (putBack ρ1 os out) σ H' Z' v (.val d own) := by
  have R := A1.rel
  have Rc := h.relF R
  -- an own slot that was not handed over
  have apart : ∀ {s : Nat} {d : D} {a : Addr}, (∀ j : Nat, os[j]? = some (Op.ref s) → ¬ OwnS ρ1 s) → ρ1[s]? = some (some (d, true)) → σ[s]? = some (some (V.ref a)) → ¬ Own (xs.map some) (vs.map some) a := fun {s d a} hn e1 e2 q => by
    obtain ⟨i, di, _, _, z⟩ := h.owned q
    rcases z with ⟨t, t1, ⟨dt, t2⟩, t3⟩ | ⟨_, n, _⟩
    · have est := R.sep s t d dt a e1 t2 e2 t3
      subst est
      exact hn i t1 ⟨d, e1⟩
    · exact n ⟨s, d, e1, e2⟩
  have ownR : ∀ {a : Addr}, Own (xs.map some) (vs.map some) a → Own ρ0 σ a ∨ H0 a = none := fun {a} q => by
    obtain ⟨i, di, _, _, z⟩ := h.owned q
    rcases z with ⟨t, t1, ⟨dt, t2⟩, t3⟩ | ⟨_, _, f⟩
    · exact A1.on a ⟨t, dt, t2, t3⟩
    · exact f
  -- what came back of a slot
  have come : ∀ {s j : Nat} {x : D × Bool}, os[j]? = some (.ref s) → out[j]? = some (some x) → ρ'[j]? = some (some x) ∧ ∃ u, σ'[j]? = some (some u) ∧ σ[s]? = some (some u) := fun {s j x} o1 o2 => by
    obtain ⟨h1, u, h2, h3⟩ := O j x o2
    obtain ⟨u', u1, u2⟩ := paired_get h.av.1 o1
    rw [h2] at u1
    cases u1
    exact ⟨h1, u, h3, u2⟩
  have rel : Rel K (putBack ρ1 os out) σ H' Z' := by
    refine ⟨R.ge.ext (C.ext Rc tb), by rw [put_len]; exact R.len, C.rel.zt, fun s d own e => ?_, fun s t d e a e1 e2 s1 s2 => ?_⟩
    · rcases put_some e with ⟨_, j, o1, o2⟩ | ⟨hn, e1⟩
      · obtain ⟨h1, u, h2, h3⟩ := come o1 o2
        obtain ⟨v, q1, q2⟩ := C.rel.has j d own h1
        rw [h2] at q1
        cases q1
        exact ⟨u, h3, q2⟩
      · obtain ⟨v, q1, q2⟩ := R.has s d own e1
        refine ⟨v, q1, ?_⟩
        have x := C.ext Rc tb
        cases own with
        | false => exact Has.ext x q2
        | true =>
          have q3 : Ow K Z1 H1 v d := q2
          obtain ⟨a, ob, ea, nz, ha⟩ := q3.ref
          subst ea
          have n := apart hn e1 q1
          refine (Ow.stay x q3 (fun b u e q t => ?_) (fun b e q => ?_) : Ow K Z' H' _ d)
          · cases e; exact C.keep _ _ q t n
          · cases e
            rcases C.zn _ q with z | z | z
            · exact nz z
            · exact n z
            · rw [ha] at z; cases z
    · have inR : ∀ {s : Nat} {d : D}, (putBack ρ1 os out)[s]? = some (some (d, true)) → ∃ d', ρ1[s]? = some (some (d', true)) := fun {s d} e => by
        rcases put_some e with ⟨q, _⟩ | ⟨_, q⟩
        · exact q
        · exact ⟨d, q⟩
      obtain ⟨d1, f1⟩ := inR e1
      obtain ⟨d2, f2⟩ := inR e2
      exact R.sep s t d1 d2 a f1 f2 s1 s2
  refine ⟨⟨rel, fun a q => C.zz a (A1.zz a q), fun a ob q t n => ?_, fun a ps q => ?_, fun a q => ?_, fun a q => ?_⟩, fun v d own hv => ⟨hv.1, fun e a ea => ⟨fun q => ?_, ?_⟩⟩⟩
  · refine C.keep a ob (A1.keep a ob q t n) t fun z => ?_
    rcases ownR z with z | z
    · exact n z
    · rw [q] at z; cases z
  · obtain ⟨p1, e1⟩ := A1.tk a ps q
    exact C.tk a p1 e1
  · rcases C.zn a q with z | z | z
    · exact A1.zn a z
    · exact .inr (ownR z)
    · exact .inr (A1.new z)
  · obtain ⟨s, d, e1, e2⟩ := q
    rcases put_some e1 with ⟨⟨d', z⟩, _⟩ | ⟨_, z⟩
    · exact A1.on a ⟨s, d', z, e2⟩
    · exact A1.on a ⟨s, d, z, e2⟩
  · obtain ⟨s, ds, e1, e2⟩ := q
    rcases put_some e1 with ⟨_, j, o1, o2⟩ | ⟨hn, z⟩
    · obtain ⟨h1, u, h2, h3⟩ := come o1 o2
      rw [e2] at h3
      cases h3
      exact (hv.2 e a ea).1 ⟨j, ds, h1, h2⟩
    · rcases (hv.2 e a ea).2 with q | q
      · exact apart hn z e2 q
      · obtain ⟨_, ob, f, _⟩ := R.own ⟨s, ds, z, e2⟩
        rw [q] at f; cases f
  · rcases (hv.2 e a ea).2 with q | q
    · exact ownR q
    · exact A1.new q
theorem callD_ok {f : Nat} {os : List Op} {vs : List V} {np : Nat} {Q : VK} (hlen : ∀ xs, Φ f xs ≠ .bad → xs.length = np) (A1 : Aft K ρ0 σ H0 Z0 ρ1 σ H1 Z1) (av : AVal K ρ0 σ H0 ρ1 σ H1 Z1 vs os) (h1 : Post K cl W ρ0 σ H0 Z0 (callD Φ f os ρ1) (kE K ρ0 σ H0 Q)) :
    @spD G.bare K cl (Φ f) np vs H1 Q (WE W σ) := by
  unfold callD at h1
  cases e : argsOf ρ1 os with
  | none => simp only [e] at h1; exact h1.elim
  | some xs =>
    simp only [e] at h1
    split at h1
    · rename_i nd
      have hd : Handed K ρ0 σ H0 ρ1 H1 Z1 vs os xs := ⟨av, e, nd⟩
      have hl : vs.length = xs.length := by rw [argsOf_len e, paired_len av.1]
      have hb : Φ f xs ≠ .bad := fun z => by rw [z] at h1; exact h1.elim
      refine ⟨by rw [hl]; exact hlen xs hb, xs, Z1, hd.rel A1.rel, ?_⟩
      cases e2 : Φ f xs with
      | bad => exact (hb e2).elim
      | ok d own out =>
        rw [e2] at h1
        intro v ρ' σ' H' Z' C hv O
        obtain ⟨A2, back⟩ := hd.back A1 (aft_bare G.toTabC C).1 (aft_bare G.toTabC C).2 O
        exact h1 H' Z' A2 v (back v d own hv)
      | ex c p out =>
        rw [e2] at h1
        intro ρ' σ' H' Z' cls dx C x O
        obtain ⟨A2, _⟩ := hd.back A1 (aft_bare G.toTabC C).1 (aft_bare G.toTabC C).2 O
        exact h1 H' Z' cls dx A2 x
    · exact h1.elim
theorem call_ok {f : Nat} {il : IL} {np : Nat} {Q : VK} (hlen : ∀ xs, Φ f xs ≠ .bad → xs.length = np) (h : TDE K cl W (dE Φ (.call f il)) σ H Q) : TDL K cl W (dL Φ il) σ H fun vs H1 => @spD G.bare K cl (Φ f) np vs H1 Q (WE W σ) := by
  obtain ⟨ρ, Z, R, h⟩ := h
  simp only [dE] at h
  exact TDL.mono (tdl_bind (Aft.refl R) h) fun vs H1 ⟨os, ρ1, Z1, A1, _, av, h1⟩ => callD_ok hlen A1 av h1
variable {k : Nat} {fa : Addr} {fd : FuncData} {hb : Bool} {ps : List Str} {x : Str} {p pos : Pos} {e : Expr} {es : List Expr}
theorem se_call {f : Nat} {il : IL} {np : Nat} (F : FnG X.prog X.w X.K X.mg X.base k fa fd ps hb (@spD G.bare X.K cl (Φ f) np)) (room : L2H.RoomH k X.A) (gd : X.A.guards = some []) (cool : CoolC hb X) (hg : Gl X x) (hm : X.mg x = some (.ref fa)) (hk : PySem.W.keepIn X.K (.ref fa) = true) (hb : Binds X.K fd ps []) (tkn : L2N.Takes X W)
    (hlen : ∀ xs, Φ f xs ≠ .bad → xs.length = np) (hs : ((e :: es).all fun e => !isStar e) = true) (hdb : (x == ("__debug__" : Str)) = false) (ha : PA X (e :: es) (TDL X.K cl W (dL Φ il))) :
    PE X (.Call (.Name x p) (e :: es) [] pos) (TDE X.K cl W (dE Φ (.call f il))) :=
  PE.weak (pe_callG F room gd cool hg hm hk hb tkn hs hdb ha) fun σ H Q h => call_ok hlen h
end
end Mv
namespace Mv
open PySem PySem.Spec L2
open PyProof.Rows hiding St
variable [G : Glo]

section
variable {K : PySem.W.Frag} {cl : Cl} {W : WX} {P : List Nat} {Z Z' Z0 Z1 Z2 : Zt} {H H' H0 H1 H2 : Hp} {ρ ρ' ρ0 ρ1 ρ2 : En} {σ σ' σ0 σ1 : L2.St} {v w : V} {d d' e : D} {own : Bool} {o : Op}
variable {X : Cx} {a b c : Expr} {es : List Expr} {pos p p2 : Pos} {Φ : Fn}
theorem se_chain {op op' : CmpOp} {ia ib ic : IE} (hu : X.A.units + 70 < cLine) (hm : lastMarks [op, op'] [b, c] = false) (ha : PE X a (TDE X.K cl W (dE Φ ia))) (hb : PE X b (TDE X.K cl W (dE Φ ib))) (hc : PE X c (TDE X.K cl W (dE Φ ic))) :
    PE X (.Compare a [op, op'] [b, c] pos) (TDE X.K cl W (dE Φ (.chain op op' ia ib ic))) :=
  PE.weak (pe_chain (op_cmp hu op) (op_cmp hu op') ha hb hc hm) fun _ _ _ h => chain_ok h
theorem st_chain {op op' : CmpOp} {ia ib ic : IE} (hu : X.A.units + 70 < cLine) (hm : lastMarks [op, op'] [b, c] = false) (ha : PE X a (TDE X.K cl W (dE Φ ia))) (hb : PE X b (TDE X.K cl W (dE Φ ib))) (hc : PE X c (TDE X.K cl W (dE Φ ic))) :
    PT X (.Compare a [op, op'] [b, c] pos) (TDT X.K cl W (dT Φ (.tb (.chain op op' ia ib ic)))) := by
  refine PT.weak (pt_chain (op_cmp hu op) (op_cmp hu op') ha hb hc hm) fun σ H Q h => ?_
  obtain ⟨ρ, Z, R, h⟩ := h
  simp only [dT] at h
  exact chain_ok (tde_tb R h)
theorem sts_nil : PTs X [] (TDT K cl W (dT Φ .yes)) := by
  refine ⟨fun pins s σ H Q I h => pts_nil.run pins s σ H Q I ?_⟩
  obtain ⟨ρ, Z, R, h⟩ := h
  simp only [dT] at h
  exact h _ _ (Aft.refl R)
theorem sg_tup {k : Nat} {is : List Nat} (hc : X.calm = true) (h : PGs X es (gL is)) (hn : (assignEach es X.env).length = is.length) (hst : (assignEach es X.env).findIdx? (·.1) = none) : PG X (.Tuple es k pos) (tgR X.K (.tup is)) :=
  pg_tup hc h hn hst

theorem give_own {ρ' : En} (h : give ρ o = some (d, true, ρ')) : o = .val d true := by
  cases o with
  | val d' own' => cases h; rfl
  | ref i =>
    simp only [give] at h
    split at h <;> cases h
def asOp (x : D × Bool) : Op := .val x.1 x.2
theorem AVal.tail {vs : List V} {os : List Op} (h : AVal K ρ σ H ρ' σ' H' Z' (v :: vs) (o :: os)) : AVal K ρ σ H ρ' σ' H' Z' vs os :=
  ⟨by cases h.1; assumption, fun i j d e a h1 h2 h3 h4 => Nat.succ.inj (h.2 (i + 1) (j + 1) d e a (by simpa using h1) (by simpa using h2) (by simpa using h3) (by simpa using h4))⟩
theorem AVal.head {vs : List V} {os : List Op} (h : AVal K ρ σ H ρ' σ' H' Z' (v :: vs) (o :: os)) : Val K ρ σ H ρ' σ' H' Z' v o := by
  cases h.1; assumption
theorem AVal.keep {vs : List V} {os : List Op} (R : Rel K ρ1 σ H1 Z1) (h : AVal K ρ0 σ0 H0 ρ1 σ H1 Z1 vs os) (B : Aft K ρ1 σ H1 Z1 ρ2 σ H2 Z2) : AVal K ρ0 σ0 H0 ρ2 σ H2 Z2 vs os :=
  ⟨paired_map (fun _ _ q => q.keep R B) h.1, h.2⟩
theorem giveAll_ok : ∀ {os : List Op} {vs : List V} {ρ ρ' : En} {Z : Zt} {xs : List (D × Bool)}, Aft K ρ0 σ0 H0 Z0 ρ σ H Z → AVal K ρ0 σ0 H0 ρ σ H Z vs os → giveAll ρ os = some (xs, ρ') →
    ∃ Z', Aft K ρ σ H Z ρ' σ H Z' ∧ AVal K ρ0 σ0 H0 ρ' σ H Z' vs (xs.map asOp)
  | [], vs, ρ, ρ', Z, xs, A, av, h => by
    simp only [giveAll] at h
    cases h
    exact ⟨Z, Aft.refl A.rel, av⟩
  | o :: r, [], ρ, ρ', Z, xs, A, av, h => by
    have := av.1
    cases this
  | o :: r, v :: vs, ρ, ρ', Z, xs, A, av, h => by
    simp only [giveAll] at h
    cases e1 : give ρ o with
    | none => simp only [e1] at h; cases h
    | some pr =>
      obtain ⟨d, own, ρ1⟩ := pr
      simp only [e1] at h
      cases e2 : giveAll ρ1 r with
      | none => simp only [e2] at h; cases h
      | some pr =>
        obtain ⟨ys, ρ2⟩ := pr
        simp only [e2] at h
        cases h
        have step : ∃ Z1, Aft K ρ σ H Z ρ1 σ H Z1 ∧ Val K ρ0 σ0 H0 ρ1 σ H Z1 v (.val d own) := by
          cases o with
          | val d' own' => cases e1; exact ⟨Z, Aft.refl A.rel, av.head⟩
          | ref i =>
            obtain ⟨Z1, B, hv, _⟩ := give_ok (ρ0 := ρ) (σ0 := σ) (H0 := H) (Z0 := Z) (o := .ref i) (Aft.refl A.rel) av.head e1
            obtain ⟨_, _, hv2, _⟩ := give_ok A av.head e1
            cases own with
            | true => exact nomatch (give_own e1)
            | false => exact ⟨Z1, B, hv.1, fun q => nomatch q⟩
        obtain ⟨Z1, B1, hv⟩ := step
        obtain ⟨Z2, B2, av2⟩ := giveAll_ok (A.trans B1) (av.tail.keep A.rel B1) e2
        refine ⟨Z2, B1.trans B2, .cons (hv.keep B1.rel B2) av2.1, ?_⟩
        have apart : ∀ (j : Nat) (d' e : D) (a : Addr), own = true → (ys.map asOp)[j]? = some (.val e true) → v = .ref a → vs[j]? = some (.ref a) → False := fun j d' e a eo ej ev evj => by
          subst eo
          have eo := give_own e1
          subst eo
          -- the tail's thing was one of the tail's own
          have q : ∀ {os : List Op} {ρ ρ' : En} {xs : List (D × Bool)} {j : Nat}, giveAll ρ os = some (xs, ρ') → (xs.map asOp)[j]? = some (.val e true) → os[j]? = some (.val e true) := by
            intro os
            induction os with
            | nil => intro ρ ρ' xs j h1 h2; simp only [giveAll] at h1; cases h1; simp at h2
            | cons o r ih =>
              intro ρ ρ' xs j h1 h2
              simp only [giveAll] at h1
              split at h1
              · rename_i d1 own1 ρ1 e3
                split at h1
                · rename_i ys ρ2 e4
                  cases h1
                  cases j with
                  | zero =>
                    simp [asOp] at h2
                    obtain ⟨rfl, rfl⟩ := h2
                    simp [give_own e3]
                  | succ j => simpa using ih e4 (by simpa using h2)
                · cases h1
              · cases h1
          have := av.2 0 (j + 1) d e a (by simp) (by simpa using q e2 ej) (by simpa using ev) (by simpa using evj)
          cases this
        intro i j d1 e a h1 h2 h3 h4
        cases i with
        | zero =>
          cases j with
          | zero => rfl
          | succ j => exact (apart j d1 e a (by simp [asOp] at h1; exact h1.2) (by simpa using h2) (by simpa using h3) (by simpa using h4)).elim
        | succ i =>
          cases j with
          | zero => exact (apart i e d1 a (by simp [asOp] at h2; exact h2.2) (by simpa using h1) (by simpa using h4) (by simpa using h3)).elim
          | succ j => exact congrArg (· + 1) (av2.2 i j d1 e a (by simpa using h1) (by simpa using h2) (by simpa using h3) (by simpa using h4))
theorem setL_ok (hf : G.fix = []) : ∀ {is : List Nat} {xs : List (D × Bool)} {vs : List V} {ρ : En} {σ : L2.St}, Aft K ρ0 σ0 H0 Z0 ρ σ H Z → AVal K ρ0 σ0 H0 ρ σ H Z vs (xs.map asOp) → Aft K ρ0 σ0 H0 Z0 (setL ρ is xs) (setL σ is vs) H Z
  | [], xs, vs, ρ, σ, A, av => A
  | i :: is, [], vs, ρ, σ, A, av => by
    have := av.1
    cases this
    exact A
  | i :: is, x :: xs, [], ρ, σ, A, av => by
    have := av.1
    cases this
  | i :: is, x :: xs, v :: vs, ρ, σ, A, av => by
    show Aft K ρ0 σ0 H0 Z0 (setL (ρ.set i (some x)) is xs) (setL (σ.set i (some v)) is vs) H Z
    obtain ⟨d, own⟩ := x
    have hv : Val K ρ0 σ0 H0 ρ σ H Z v (.val d own) := av.head
    refine setL_ok hf (A.store (by rw [hf]; exact fun z => nomatch z) hv) ⟨?_, av.tail.2⟩
    have gen : ∀ {ys : List (D × Bool)} {us : List V}, (∀ (j : Nat) (e : D) (a : Addr), (ys.map asOp)[j]? = some (.val e true) → us[j]? = some (.ref a) → own = true → v = .ref a → False) →
        Paired (fun v o => Val K ρ0 σ0 H0 ρ σ H Z v o) us (ys.map asOp) → Paired (fun u o => Val K ρ0 σ0 H0 (ρ.set i (some (d, own))) (σ.set i (some v)) H Z u o) us (ys.map asOp) := by
      intro ys
      induction ys with
      | nil => intro us _ h; cases h; exact .nil
      | cons y ys ih =>
        intro us hn h
        cases h with
        | cons r t =>
          rename_i u us
          refine .cons ?_ (ih (fun j e a h1 h2 => hn (j + 1) e a (by simpa using h1) (by simpa using h2)) t)
          refine ⟨r.1, fun e a ea => ⟨fun q => ?_, (r.2 e a ea).2⟩⟩
          rcases own_store A.rel.len q with q | ⟨q1, q2⟩
          · exact (r.2 e a ea).1 q
          · refine hn 0 y.1 a ?_ (by simpa using ea) q1 q2
            simp [asOp]
            exact e
    refine gen (fun j e a h1 h2 h3 h4 => ?_) av.tail.1
    have := av.2 0 (j + 1) d e a (by simp [asOp]; exact h3) (by simpa using h1) (by simpa using h4) (by simpa using h2)
    cases this
theorem setL_fx : ∀ {is : List Nat} {vs : List V} {σ : L2.St}, (is.any fun i => P.contains i) = false → Fx P σ (setL σ is vs)
  | [], _, _, _ => Fx.refl
  | _ :: _, [], _, _ => Fx.refl
  | i :: is, v :: vs, σ, h => by
    simp only [List.any_cons, Bool.or_eq_false_iff] at h
    exact (fx_set (by rw [h.1]; exact Bool.false_ne_true)).trans (setL_fx h.2)
theorem par_ok (hf : G.fix = []) {is : List Nat} {il : IL} {D : Ends} (h : TDS K cl W P (dS Φ P (.par is il)) D σ H) : TDL K cl W (dL Φ il) σ H fun vs H1 => vs.length = is.length ∧ D.nx (setL σ is vs) H1 := by
  obtain ⟨ρ, Z, R, h⟩ := h
  simp only [dS] at h
  split at h
  · exact h.elim
  · rename_i hP
    have hP : (is.any fun i => P.contains i) = false := by simpa using hP
    refine ⟨ρ, Z, R, ?_⟩
    cases e : dL Φ il ρ with
    | bad => rw [e] at h; exact h
    | ex c p ρ' =>
      rw [e] at h
      exact fun H' Z' cls dx B x => h σ H' Z' cls dx B Fx.refl x
    | ok os ρ1 =>
      rw [e] at h
      intro H1 Z1 A1 vs av
      simp only [Rs.stm] at h
      cases e1 : giveAll ρ1 os with
      | none => simp only [e1] at h; exact h.elim
      | some pr =>
        obtain ⟨xs, ρ2⟩ := pr
        simp only [e1] at h
        split at h
        · rename_i hl
          obtain ⟨Z2, B, av2⟩ := giveAll_ok A1 av e1
          have hv : vs.length = is.length := by rw [paired_len av2.1, List.length_map]; exact hl
          exact ⟨hv, h _ H1 Z2 (setL_ok hf (A1.trans B) av2) (setL_fx hP)⟩
        · exact h.elim
theorem ss_par2 (hf : G.fix = []) {i j : Nat} {x y : Str} {il : IL} {px py pt pt2 : Pos} {kt k2 : Nat} (hc : X.calm = true) (hN : X.N.Nodup) (hi : X.N[i]? = some x) (hj : X.N[j]? = some y) (hij : i ≠ j)
    (hx : X.env.scope.names.lookup x = some .local) (hy : X.env.scope.names.lookup y = some .local) 
    (hw : swappedStores [.Tuple [.Name x px, .Name y py] kt pt] (.Tuple [a, b] k2 pt2) X.env = pure (some [x, y])) (ha : PA X [a, b] (TDL K cl W (dL Φ il))) :
    PS X (.Assign [.Tuple [.Name x px, .Name y py] kt pt] (.Tuple [a, b] k2 pt2) pos) (TDS K cl W P (dS Φ P (.par [i, j] il))) := by
  refine PS.weak (ps_par hc hN hi hj hij hx hy ha hw) fun D σ H h => TDL.mono (par_ok hf h) fun vs H1 ⟨hl, q⟩ => ?_
  match vs, hl with
  | [v, w], _ => exact ⟨v, w, rfl, q⟩
theorem ss_par3 (hf : G.fix = []) {i j l : Nat} {x y z : Str} {il : IL} {px py pz pt pt2 : Pos} {kt k2 : Nat} (hc : X.calm = true) (hN : X.N.Nodup) (hi : X.N[i]? = some x) (hj : X.N[j]? = some y) (hl : X.N[l]? = some z) (hij : i ≠ j) (hil : i ≠ l) (hjl : j ≠ l)
    (hx : X.env.scope.names.lookup x = some .local) (hy : X.env.scope.names.lookup y = some .local) (hz : X.env.scope.names.lookup z = some .local)
    (hw : swappedStores [.Tuple [.Name x px, .Name y py, .Name z pz] kt pt] (.Tuple [a, b, c] k2 pt2) X.env = pure (some [x, y, z])) (ha : PA X [a, b, c] (TDL K cl W (dL Φ il))) :
    PS X (.Assign [.Tuple [.Name x px, .Name y py, .Name z pz] kt pt] (.Tuple [a, b, c] k2 pt2) pos) (TDS K cl W P (dS Φ P (.par [i, j, l] il))) := by
  refine PS.weak (ps_par3 hc hN hi hj hl hij hil hjl hx hy hz ha hw) fun D σ H h => TDL.mono (par_ok hf h) fun vs H1 ⟨hl, q⟩ => ?_
  match vs, hl with
  | [u, v, w], _ => exact ⟨u, v, w, rfl, q⟩

theorem pick_get {α : Type} {l : List α} : ∀ {p : List Nat} {r : List α} {j : Nat} {x : α}, pick l p = some r → r[j]? = some x → ∃ i, p[j]? = some i ∧ l[i]? = some x
  | [], r, j, x, h, e => by simp only [pick] at h; cases h; simp at e
  | i :: p, r, j, x, h, e => by
    simp only [pick] at h
    split at h
    · rename_i y ys e1 e2
      cases h
      cases j with
      | zero => simp at e; subst e; exact ⟨i, rfl, e1⟩
      | succ j =>
        obtain ⟨k, h1, h2⟩ := pick_get (j := j) e2 (by simpa using e)
        exact ⟨k, by simpa using h1, h2⟩
    · cases h
theorem pick_len {α : Type} {l : List α} : ∀ {p : List Nat} {r : List α}, pick l p = some r → r.length = p.length
  | [], r, h => by simp only [pick] at h; cases h; rfl
  | i :: p, r, h => by
    simp only [pick] at h
    split at h
    · rename_i y ys e1 e2
      cases h
      rw [List.length_cons, List.length_cons, pick_len e2]
    · cases h
theorem pick_pair {α β : Type} {F : α → β → Prop} {xs : List α} {ys : List β} (h : Paired F xs ys) : ∀ {p : List Nat} {r : List β}, pick ys p = some r → ∃ q, pick xs p = some q ∧ Paired F q r
  | [], r, e => by simp only [pick] at e; cases e; exact ⟨[], rfl, .nil⟩
  | i :: p, r, e => by
    simp only [pick] at e
    split at e
    · rename_i y ys' e1 e2
      cases e
      obtain ⟨x, x1, x2⟩ := paired_get h e1
      obtain ⟨q, q1, q2⟩ := pick_pair h e2
      exact ⟨x :: q, by simp only [pick, x1, q1], .cons x2 q2⟩
    · cases e
theorem AVal.pick {vs : List V} {os os' : List Op} {p : List Nat} (nd : p.Nodup) (h : AVal K ρ σ H ρ' σ' H' Z' vs os) (e : pick os p = some os') : ∃ vs', Mv.pick vs p = some vs' ∧ AVal K ρ σ H ρ' σ' H' Z' vs' os' := by
  obtain ⟨vs', e1, q⟩ := pick_pair h.1 e
  refine ⟨vs', e1, q, fun i j d e' a h1 h2 h3 h4 => ?_⟩
  obtain ⟨i1, p1, o1⟩ := pick_get e h1
  obtain ⟨j1, p2, o2⟩ := pick_get e h2
  obtain ⟨i2, p3, o3⟩ := pick_get e1 h3
  obtain ⟨j2, p4, o4⟩ := pick_get e1 h4
  rw [p1] at p3
  cases p3
  rw [p2] at p4
  cases p4
  have := h.2 i1 j1 d e' a o1 o2 o3 o4
  subst this
  have hi : i < p.length := by
    rcases Nat.lt_or_ge i p.length with z | z
    · exact z
    · rw [List.getElem?_eq_none z] at p1; cases p1
  exact (List.getElem?_inj hi nd).mp (by rw [p1, p2])
theorem sk_nil : PK X [] (TDL K cl W (dL Φ .nil)) := by
  refine ⟨fun pos pins s σ H Q I h => pk_nil.run pos pins s σ H Q I ?_⟩
  obtain ⟨ρ, Z, R, h⟩ := h
  simp only [dL] at h
  exact h _ _ (Aft.refl R) [] ⟨.nil, fun i j d e a h => by simp at h⟩
theorem sk_cons {ie : IE} {il : IL} {nm : Option Str} {kpos : Pos} {kws : List Keyword} (ha : PE X a (TDE K cl W (dE Φ ie))) (hr : PK X kws (TDL K cl W (dL Φ il))) : PK X (⟨nm, a, kpos⟩ :: kws) (TDL K cl W (dL Φ (.cons ie il))) := by
  refine ⟨fun pos pins s σ H Q I h => (pk_cons ha hr).run pos pins s σ H Q I ?_⟩
  obtain ⟨ρ, Z, R, h⟩ := h
  simp only [dL] at h
  refine TDE.mono (tde_bind (Aft.refl R) h) fun v H1 ⟨o, ρ1, Z1, A1, _, hv, h1⟩ => ?_
  refine TDL.mono (tdl_bind A1 h1) fun vs H3 ⟨os, ρ3, Z3, A3, B3, l, h3⟩ => ?_
  exact h3 _ _ A3 (v :: vs) (l.cons A1.rel A1 hv B3)
theorem vals_get {vs : List V} {us : List Value} (r : Vals vs us) : ∀ {p : List Nat} {q : List V}, pick vs p = some q → ∃ t, pick us p = some t ∧ Vals q t
  | [], q, e => by simp only [pick] at e; cases e; exact ⟨[], rfl, .nil⟩
  | i :: p, q, e => by
    simp only [pick] at e
    split at e
    · rename_i y ys' e1 e2
      cases e
      obtain ⟨u, u1, u2⟩ := r.get e1
      obtain ⟨t, t1, t2⟩ := vals_get r e2
      exact ⟨u :: t, by simp only [pick, u1, t1], .cons u2 t2⟩
    · cases e
theorem dL_length : ∀ (il : IL) {ρ ρ' : En} {os : List Op}, dL Φ il ρ = .ok os ρ' → os.length = ilLen il
  | .nil, _, _, _, h => by
    simp only [dL] at h
    cases h
    rfl
  | .cons e r, ρ, ρ', os, h => by
    simp only [dL, Rs.bind] at h
    split at h
    · split at h
      · rename_i h2
        cases h
        rw [List.length_cons, dL_length r h2]
        rfl
      · cases h
      · cases h
    · cases h
    · cases h
theorem post_lenL {il : IL} {α : Type} {f : List Op → En → Rs α} {k : α → En → Hp → Zt → Prop} (h : Post K cl W ρ σ H Z ((dL Φ il ρ).bind f) k) :
    Post K cl W ρ σ H Z ((dL Φ il ρ).bind fun os ρ' => if os.length = ilLen il then f os ρ' else .bad) k := by
  cases e : dL Φ il ρ with
  | bad => rw [e] at h; exact h
  | ex c p ρ' => rw [e] at h; exact h
  | ok ds ρ' =>
    rw [e] at h
    simp only [Rs.bind] at h ⊢
    rw [if_pos (dL_length il e)]
    exact h
/-- the parameters, by place and by keywords -/
def KwB (K : PySem.W.Frag) (fd : FuncData) (ps ks : List Str) (perm : List Nat) : Prop :=
  ∀ (s : Shared) (as us ws : List Value), K.In s.heap → as.length + us.length = ps.length → us.length = ks.length → pick (as ++ us) perm = some ws → BindsTo s fd ⟨as, ks.zip us⟩ (ps.zip ws)
variable {k : Nat} {fa : Addr} {fd : FuncData} {hb : Bool} {ps ks : List Str} {x : Str} {kws : List Keyword}
theorem kw_all : ∀ {kws : List Keyword} {env : Env}, (kws.all fun k => k.arg.isSome) = true → (backToKw pos (keywordEach kws env)).all (·.1.isSome) = true
  | [], _, _ => rfl
  | ⟨nm, e, kp⟩ :: r, env, h => by
    simp only [List.all_cons, Bool.and_eq_true] at h
    show (nm.isSome && (backToKw pos (keywordEach r env)).all (·.1.isSome)) = true
    rw [Bool.and_eq_true]
    exact ⟨h.1, kw_all h.2⟩
theorem kw_none : ∀ {kws : List Keyword} {env : Env}, (kws.all fun k => k.arg.isSome) = true → (backToKw pos (keywordEach kws env)).any (·.1.isNone) = false
  | [], _, _ => rfl
  | ⟨nm, e, kp⟩ :: r, env, h => by
    simp only [List.all_cons, Bool.and_eq_true] at h
    show (nm.isNone || (backToKw pos (keywordEach r env)).any (·.1.isNone)) = false
    rw [Bool.or_eq_false_iff]
    refine ⟨?_, kw_none h.2⟩
    cases nm with
    | none => exact nomatch h.1
    | some _ => rfl
theorem kw_names : ∀ {kws : List Keyword} {env : Env}, (backToKw pos (keywordEach kws env)).filterMap (·.1) = kws.filterMap (·.arg)
  | [], _ => rfl
  | ⟨none, e, kp⟩ :: r, env => kw_names (kws := r)
  | ⟨some x, e, kp⟩ :: r, env => congrArg (x :: ·) (kw_names (kws := r))
theorem kw_len : ∀ {kws : List Keyword}, (kws.all fun k => k.arg.isSome) = true → (kws.filterMap (·.arg)).length = kws.length
  | [], _ => rfl
  | ⟨none, e, kp⟩ :: r, h => by simp at h
  | ⟨some x, e, kp⟩ :: r, h => by
    simp only [List.all_cons, Bool.and_eq_true] at h
    exact congrArg (· + 1) (kw_len h.2)
theorem se_callp {f np : Nat} {perm : List Nat} {il : IL} (F : FnG X.prog X.w X.K X.mg X.base k fa fd ps hb (@spD G.bare X.K cl (Φ f) np)) (room : L2H.RoomH k X.A) (gd : X.A.guards = some []) (cool : CoolC hb X) (hg : Gl X x) (hm : X.mg x = some (.ref fa)) (hk : PySem.W.keepIn X.K (.ref fa) = true) (hb : KwB X.K fd ps (kws.filterMap (·.arg)) perm) (tkn : L2N.Takes X W)
    (hlen : ∀ xs, Φ f xs ≠ .bad → xs.length = np) (hks : (kws.all fun k => k.arg.isSome) = true) (hil : ilLen il = kws.length) (hnp : kws.length = np) (hdb : (x == ("__debug__" : Str)) = false) (ha : PK X kws (TDL X.K cl W (dL Φ il))) :
    PE X (.Call (.Name x p) [] kws pos) (TDE X.K cl W (dE Φ (.callp f perm il))) := by
  refine ⟨fun pins s σ H Q I h => wpAny_Call_Name_kw (ld_glob I hg hm ?_ hdb)⟩
  refine PySem.W.callWith_KW0 (h₀ := X.base) I.ok.mod.kin hk (kw_all hks) ?_ (by rw [kw_none hks]; rfl)
  have h2 : TDL X.K cl W (dL Φ il) σ H fun vs H1 => ∃ vs', pick vs perm = some vs' ∧ vs.length = kws.length ∧ @spD G.bare X.K cl (Φ f) np vs' H1 Q (WE W σ) := by
    obtain ⟨ρ, Z, R, h⟩ := h
    simp only [dE] at h
    refine TDL.mono (tdl_bind (Aft.refl R) (post_lenL h)) fun vs H1 ⟨os, ρ1, Z1, A1, _, av, h1⟩ => ?_
    split at h1
    · rename_i hl
      cases e : pick os perm with
      | none => simp only [e] at h1; exact h1.elim
      | some os' =>
        simp only [e] at h1
        split at h1
        · rename_i nd
          obtain ⟨vs', e1, av'⟩ := av.pick nd e
          exact ⟨vs', e1, by rw [paired_len av.1, hl, hil], callD_ok hlen A1 av' h1⟩
        · exact h1.elim
    · exact h1.elim
  refine thn (ha.run pos pins s σ H _ I h2) fun us s1 h3 => ?_
  obtain ⟨vs, H1, I1, r, vs', e, hl, q⟩ := h3
  refine ⟨I1.kIn, ?_⟩
  obtain ⟨ws, e2, r2⟩ := vals_get r e
  rw [kw_names]
  have lp : np = ps.length := by rw [← F.len _ _ _ _ q]; exact (show vs'.length = np from q.1).symm
  have bd := hb s1 [] us ws I1.kIn (by rw [← r.length, hl, List.length_nil, Nat.zero_add, hnp, lp]) (by rw [← r.length, hl, kw_len hks]) e2
  refine wpAny_call (codeAny_mono (runG F room gd cool tkn I1 bd r2 q) fun r s' z => ?_)
  match r, z with
  | .error e, z => exact z
  | .ok (.ret u), z => exact z
def kwK (Φ : Fn) (f : Nat) (perm : List Nat) (n : Nat) (os : List Op) (ρ' : En) : Rs Op := if os.length = n then match Mv.pick os perm with
    | some os' => if perm.Nodup then callD Φ f os' ρ' else .bad
    | none => .bad
  else .bad
/-- f(e, k = v, ..) -/
theorem se_callm {f np : Nat} {perm : List Nat} {ie : IE} {il : IL} {e : Expr} (F : FnG X.prog X.w X.K X.mg X.base k fa fd ps hb (@spD G.bare X.K cl (Φ f) np)) (room : L2H.RoomH k X.A) (gd : X.A.guards = some []) (cool : CoolC hb X) (hg : Gl X x) (hm : X.mg x = some (.ref fa)) (hk : PySem.W.keepIn X.K (.ref fa) = true) (hb : KwB X.K fd ps (kws.filterMap (·.arg)) perm) (tkn : L2N.Takes X W)
    (hlen : ∀ xs, Φ f xs ≠ .bad → xs.length = np) (hks : (kws.all fun k => k.arg.isSome) = true) (hil : ilLen il = kws.length) (hnp : 1 + kws.length = np) (hst : isStar e = false) (hdb : (x == ("__debug__" : Str)) = false) (he : PE X e (TDE X.K cl W (dE Φ ie))) (ha : PK X kws (TDL X.K cl W (dL Φ il))) :
    PE X (.Call (.Name x p) [e] kws pos) (TDE X.K cl W (dE Φ (.callp f perm (.cons ie il)))) := by
  refine ⟨fun pins s σ H Q I h => wpAny_Call_Name_kw (ld_glob I hg hm ?_ hdb)⟩
  have h2 : TDE X.K cl W (dE Φ ie) σ H fun v H1 => TDL X.K cl W (dL Φ il) σ H1 fun vs H2 => ∃ vs', pick (v :: vs) perm = some vs' ∧ vs.length = kws.length ∧ @spD G.bare X.K cl (Φ f) np vs' H2 Q (WE W σ) := by
    obtain ⟨ρ, Z, R, h⟩ := h
    simp only [dE] at h
    have h : Post X.K cl W ρ σ H Z ((dL Φ (.cons ie il) ρ).bind (kwK Φ f perm (ilLen (.cons ie il)))) (kE X.K ρ σ H Q) := post_lenL h
    simp only [dL] at h
    have h3 : Post X.K cl W ρ σ H Z ((dE Φ ie ρ).bind fun o ρ1 => (dL Φ il ρ1).bind fun os ρ2 => kwK Φ f perm (ilLen (.cons ie il)) (o :: os) ρ2) (kE X.K ρ σ H Q) := by
      cases e1 : dE Φ ie ρ with
      | bad => rw [e1] at h; exact h
      | ex c p ρ' => rw [e1] at h; exact h
      | ok o ρ1 =>
        rw [e1] at h
        simp only [Rs.bind] at h ⊢
        cases e2 : dL Φ il ρ1 with
        | bad => rw [e2] at h; exact h
        | ex c p ρ' => rw [e2] at h; exact h
        | ok os ρ2 => rw [e2] at h; exact h
    refine TDE.mono (tde_bind (Aft.refl R) h3) fun v H1 ⟨o, ρ1, Z1, A1, _, hv, h4⟩ => ?_
    refine TDL.mono (tdl_bind A1 h4) fun vs H2 ⟨os, ρ2, Z2, A2, B2, av, h5⟩ => ?_
    have av2 := av.cons A1.rel A1 hv B2
    unfold kwK at h5
    split at h5
    · rename_i hl
      cases e : pick (o :: os) perm with
      | none => simp only [e] at h5; exact h5.elim
      | some os' =>
        simp only [e] at h5
        split at h5
        · rename_i nd
          obtain ⟨vs', e1, av'⟩ := av2.pick nd e
          refine ⟨vs', e1, ?_, callD_ok hlen A2 av' h5⟩
          have q1 := paired_len av.1
          have q2 : os.length + 1 = ilLen il + 1 := hl
          omega
        · exact h5.elim
    · exact h5.elim
  refine PySem.W.callWith_KW (h₀ := X.base) I.ok.mod.kin hk (kw_all hks) ?_ (by rw [kw_none hks, Bool.or_false]; exact star_any (by simp [hst])) (star_cons hst)
  refine thn ((pa_cons he pa_nil (star_cons hst)).run pos pins s σ H (fun vs H1 => ∃ v, vs = [v] ∧ TDL X.K cl W (dL Φ il) σ H1 fun vs H2 => ∃ vs', pick (v :: vs) perm = some vs' ∧ vs.length = kws.length ∧ @spD G.bare X.K cl (Φ f) np vs' H2 Q (WE W σ)) I ?_) fun us s1 ⟨vs, H1, I1, r, v, ev, h3⟩ => ?_
  · exact TDE.mono h2 fun v H1 q => ⟨v, rfl, q⟩
  subst ev
  refine thn (ha.run pos pins s1 σ H1 _ I1 h3) fun ws s2 ⟨zs, H2, I2, rz, vs', e, hl, q⟩ => ⟨I2.kIn, ?_⟩
  cases r with
  | cons r0 r1 =>
    cases r1
    obtain ⟨ts, e2, r2⟩ := vals_get (.cons r0 rz) e
    rw [kw_names]
    have lp : np = ps.length := by rw [← F.len _ _ _ _ q]; exact (show vs'.length = np from q.1).symm
    have bd := hb s2 [_] ws ts I2.kIn (by rw [← rz.length, hl, ← lp, ← hnp]; rfl) (by rw [← rz.length, hl, kw_len hks]) e2
    refine wpAny_call (codeAny_mono (runG F room gd cool tkn I2 bd r2 q) fun r s' z => ?_)
    match r, z with
    | .error e, z => exact z
    | .ok (.ret u), z => exact z
end
end Mv
namespace Mv
open PySem PySem.Spec L2
open PyProof.Rows hiding St
variable [G : Glo]

section
variable {cl : Cl} {W : WX} {Z Z' : Zt} {H H' : Hp} {ρ ρ' : En} {σ σ' : L2.St}
variable {X : Cx} {a b c : Expr} {pos apos : Pos} {Φ : Fn}
theorem isD_of {K : PySem.W.Frag} {v : V} {es : List (D × D)} {o : Bool} (h : Has K Z H v (.dict es) o) : ∃ a, v = .ref a ∧ IsD H a := by
  obtain ⟨a, e, h⟩ := dict_cases h
  rcases h with ⟨kvs, ha, _⟩ | ⟨kvs, _, _, ha, _⟩
  · exact ⟨a, e, .inl ⟨kvs, .inl ha⟩⟩
  · exact ⟨a, e, .inr ⟨kvs, .inl ha⟩⟩
theorem get_ok {ia ik ix : IE} {Q : VK} (h : TDE X.K cl W (dE Φ (.get ia ik ix)) σ H Q) : tDGet2 (TDE X.K cl W (dE Φ ia)) (TDE X.K cl W (dE Φ ik)) (TDE X.K cl W (dE Φ ix)) σ H Q := by
  obtain ⟨ρ, Z, R, h⟩ := h
  simp only [dE] at h
  refine TDE.mono (tde_bind (Aft.refl R) h) fun v H1 ⟨oa, ρ1, Z1, A1, _, hv, h1⟩ => ?_
  cases e0 : deref ρ1 oa with
  | none => simp only [e0] at h1; exact h1.elim
  | some p =>
    obtain ⟨d0, o0⟩ := p
    cases d0 with
    | dict es =>
      simp only [e0] at h1
      obtain ⟨a, ea, isd⟩ := isD_of (hv.deref A1.rel e0)
      subst ea
      refine ⟨a, rfl, isd, ?_⟩
      refine TDE.mono (tde_bind A1 h1) fun w H2 ⟨ok, ρ2, Z2, A2, B2, hw, h2⟩ => ?_
      refine TDE.mono (tde_bind A2 h2) fun z H3 ⟨ox, ρ3, Z3, A3, B3, hz, h3⟩ => ?_
      have hv3 := (hv.keep A1.rel B2).keep A2.rel B3
      have hw3 := hw.keep A2.rel B3
      unfold rd1 at h3
      cases e1 : deref ρ3 oa with
      | none => simp only [e1] at h3; exact h3.elim
      | some p =>
        obtain ⟨x, bx⟩ := p
        simp only [e1] at h3
        cases e2 : deref ρ3 ok with
        | none => simp only [e2] at h3; exact h3.elim
        | some p =>
          obtain ⟨y, byy⟩ := p
          simp only [e2] at h3
          cases e3 : getF x y with
          | none => simp only [e3] at h3; exact h3.elim
          | some r =>
            simp only [e3] at h3
            have hx := hv3.deref A3.rel e1
            have hy := hw3.deref A3.rel e2
            have isd : ∃ es, x = .dict es := by
              cases x <;> first | exact ⟨_, rfl⟩ | (simp only [getF] at e3; cases e3)
            obtain ⟨es', rfl⟩ := isd
            obtain ⟨a', ov, ea, g, c⟩ := dict_get hx hy e3
            cases ea
            refine ⟨ov, g, ?_⟩
            rcases c with ⟨d, u, rfl, rfl, s⟩ | ⟨rfl, rfl⟩
            · exact h3 _ _ A3 _ (val_sh s)
            · exact h3 _ _ A3 _ hz
    | _ => simp only [e0] at h1; exact h1.elim
theorem se_get {ia ik ix : IE} {x : Str} {p : Pos} (hu : X.A.units + 70 < cLine) (hl : (apos.endLine == pos.line) = true) (s1 : isStar b = false) (s2 : isStar c = false) (ha : PE X (.Name x p) (TDE X.K cl W (dE Φ ia))) (hb : PE X b (TDE X.K cl W (dE Φ ik))) (hc : PE X c (TDE X.K cl W (dE Φ ix))) :
    PE X (.Call (.Attribute (.Name x p) "get" apos) [b, c] [] pos) (TDE X.K cl W (dE Φ (.get ia ik ix))) := by
  have tr : starEach [b, c] X.env = [(false, eval b X.env), (false, eval c X.env)] := by rw [star_cons s1, star_cons s2]; rfl
  refine PE.weak (pe_dget2 (by omega) ha hb hc ⟨base_name, ?_, hl, ?_⟩) fun σ H Q h => get_ok h
  · rw [star_all (by simp [s1, s2])]
    rfl
  · rw [tr]
    rfl
end
end Mv
namespace Mv
open PySem PySem.Spec L2
open PyProof.Rows hiding St
variable [G : Glo]

theorem kit_all (K : PySem.W.Frag) (T : Ty) (t : Ty7) : PySem.W.kitOne K (.type (ty7 t)) (.type (tyS T)) = some (isiT T t) := by
  cases T <;> cases t <;> kernel_rfl
def tyN : Ty → Str
  | .tuple => "tuple"
  | .int => "int"
  | .bool => "bool"
  | .str => "str"
  | .list => "list"
  | .dict => "dict"
theorem boot_ty (T : Ty) : bootBuiltins (tyN T) = some (.type (tyS T)) := by cases T <;> decide +kernel
section
variable {cl : Cl} {W : WX} {K : PySem.W.Frag} {Z Z' : Zt} {H H' : Hp} {v : V} {d : D} {o : Bool}
variable {X : Cx} {a b c : Expr} {p pt pos apos : Pos} {Φ : Fn}
theorem has_ty (h : Has K Z H v d o) : TyX K H v (.type (ty7 (tyD d))) := by
  cases d with
  | none => cases has_none h; exact .base .non
  | bool b => cases has_bool h; exact .base (.bl _)
  | int i => cases has_int h; exact .base (.int _)
  | str x => cases has_str h; exact .base (.str _)
  | list xs =>
    obtain ⟨a, vs, rfl, s, _, _⟩ := has_listX h
    rcases s with (s | ⟨ob, s⟩) | ⟨its, n, s, _⟩
    · exact .base (.lst s)
    · exact .base (.frz s)
    · exact .kList s rfl
  | tuple xs =>
    obtain ⟨a, vs, rfl, ⟨us, s⟩, _, _⟩ := has_tupleS h
    exact .fTuple s
  | dict es =>
    obtain ⟨a, rfl, s⟩ := dict_cases h
    rcases s with ⟨kvs, s, _⟩ | ⟨kvs, _, _, s, _⟩
    · exact .base (.dK s)
    · exact .base (.dT s)
theorem se_isi {ia : IE} {T : Ty} (hg : Gl X "isinstance") (hm : X.mg "isinstance" = none) (hgT : Gl X (tyN T)) (hmT : X.mg (tyN T) = none) (s1 : isStar a = false) (ha : PE X a (TDE X.K cl W (dE Φ ia))) :
    PE X (.Call (.Name "isinstance" p) [a, .Name (tyN T) pt] [] pos) (TDE X.K cl W (dE Φ (.isi T ia))) := by
  have hT : PE X (.Name (tyN T) pt) (tC (.ty (tyS T))) := pe_bltn hgT hmT (boot_ty T) rfl (by cases T <;> decide) (by cases T <;> decide)
  have hp := pa_cons ha (pa_cons hT pa_nil (star_cons rfl)) (star_cons s1)
  refine PE.weak (pe_callB call_isi hg hm (by decide +kernel) hp (by decide) (by decide) (star_cons s1) rfl) fun σ H Q h => ?_
  obtain ⟨ρ, Z, R, h⟩ := h
  simp only [dE] at h
  refine TDE.mono (tde_bind (Aft.refl R) h) fun v H1 ⟨oa, ρ1, Z1, A1, _, hv, h1⟩ => ?_
  unfold rd1 at h1
  cases e : deref ρ1 oa with
  | none => simp only [e] at h1; exact h1.elim
  | some q =>
    obtain ⟨d, ow⟩ := q
    simp only [e] at h1
    have ty := has_ty (hv.deref A1.rel e)
    exact ⟨v, .ty (tyS T), _, _, _, rfl, .ty _, ty, kit_all X.K T _, h1 _ _ A1 _ (val_sh (.bl _))⟩
theorem se_dnew : PE X (.Dict [] [] pos) (TDE X.K cl W (dE Φ .dnew)) := by
  refine PE.weak pe_dnewK fun σ H Q h => ?_
  obtain ⟨ρ, Z, R, h⟩ := h
  simp only [dE] at h
  intro p hp
  have g : Gv X.K Z H (.ref p) (.dict []) true (upd H p (.dK [])) := Gv.dict (R.fresh hp) hp .nil
  exact h _ _ (Aft.grow R g.grow) _ (g.val R (Aft.refl R))
/-- a, b = x, y where some name is a cell: no stores from the right -/
theorem noSwapC {ts vs : List Expr} {kt k2 : Nat} {pt pt2 : Pos} {env : Env} {x : Str} {px : Pos} (hx : Expr.Name x px ∈ ts) (hk : env.kindOf x ≠ some .local) : swappedStores [.Tuple ts kt pt] (.Tuple vs k2 pt2) env = pure none := by
  unfold swappedStores
  simp only
  split
  · rfl
  · split
    · rfl
    · rename_i h1 h2
      have short : ∀ {f : Expr → Option Str} {l : List Expr}, f (.Name x px) = none → Expr.Name x px ∈ l → (l.filterMap f).length < l.length := by
        intro f l hf
        induction l with
        | nil => intro h; cases h
        | cons y l ih =>
          intro h
          rcases List.mem_cons.mp h with e | h
          · subst e
            rw [List.filterMap_cons_none hf, List.length_cons]
            exact Nat.lt_succ_of_le (List.length_filterMap_le _ _)
          · have := ih h
            rw [List.filterMap_cons]
            split
            · exact Nat.lt_succ_of_lt this
            · exact Nat.succ_lt_succ this
      rw [if_pos]
      have := @short (fun
        | .Name id pos => if env.kindOf id == some .local && pos.line == (ts.head?.map (·.pos.line)).getD 0 then some id else none
        | _ => none) ts (by simp [hk]) hx
      simp only [bne_iff_ne, ne_eq, Bool.or_eq_true]
      exact .inl (Nat.ne_of_lt this)
end
end Mv
namespace Mv
open PySem PySem.Spec L2
open PyProof.Rows hiding St
open PySem.W (Frag ksFn ksEnv)

abbrev ib (p0 p1 p2 p3 p4 p5 p6 p7 p8 p9 : Pos) : List Stmt :=
  [.Expr (.Call (.Attribute (.Call (.Name "super" p0) [] [] p1) "__init__" p2) [.Name "what" p3] [] p4) p5, .Assign [.Attribute (.Name "self" p6) "what" p7] (.Name "what" p8) p9]
/-- the base class D, its __init__ at fI -/
structure InitF (K : Frag) (prog : Program) (fI D : Addr) : Prop where
  ex : ∃ (qual : Str) (params : Arguments) (scope : Scope) (dV kV doc pm ct oc : Value) (an od : Option Addr) (osl : Array (Option Value)) (cda cc : Addr) (p0 p1 p2 p3 p4 p5 p6 p7 p8 p9 : Pos) (ar : Arg),
    K.lookup fI = some ⟨oc, od, .func (ksFn "__init__" qual params (ib p0 p1 p2 p3 p4 p5 p6 p7 p8 p9) scope dV kV doc pm an (.ref cda) ct cc), osl⟩ ∧ PySem.W.codeIn K (.ref cda) qual = true ∧
    (∀ (s : Shared) (u v : Value), BindsTo s (ksFn "__init__" qual params (ib p0 p1 p2 p3 p4 p5 p6 p7 p8 p9) scope dV kV doc pm an (.ref cda) ct cc) ⟨[u, v], []⟩ [("self", u), ("what", v)]) ∧
    (params.posonlyargs ++ params.args).head? = some ar ∧ ar.arg = "self" ∧
    (∃ (ccl : Value) (cdd : Option Addr) (vs : Array Value) (ccs : Array (Option Value)) (file : Str) (tf : Tok), K.lookup cda = some ⟨ccl, cdd, .fields vs, ccs⟩ ∧ vs[2]? = some (.str file tf) ∧ ((prog.main.file : Str) == file) = true) ∧
    (∃ (c1 : Value) (c2 : Option Addr) (c3 : Array (Option Value)), K.lookup cc = some ⟨c1, c2, .cell (some (.ref D)), c3⟩) ∧
    scope.names.lookup ("super" : Str) = some .globalImplicit ∧ scope.names.lookup ("__class__" : Str) = some .free ∧ scope.names.lookup ("self" : Str) = some .local ∧ scope.names.lookup ("what" : Str) = some .local ∧
    (∀ env : Env, ∃ pl : Sem Bool, eval (.Call (.Attribute (.Call (.Name "super" p0) [] [] p1) "__init__" p2) [.Name "what" p3] [] p4) env = (do
      let ov ← attributeBase (.Call (.Name "super" p0) [] [] p1) "__init__" env (eval (.Call (.Name "super" p0) [] [] p1) env)
      standAt p2.atName
      let (f, first) ← holding [ov] (getMethod ov "__init__" pl)
      callWith p4 f first (backTo p4 (starEach [.Name "what" p3] env)) [])) ∧
    scope.kind = .function ∧ scope.isCoroutine = false ∧ scope.isGenerator = false ∧ (∀ x ∈ scope.names, x.2 ≠ .cell)
  clsD : (PySem.W.clsIn K D).isSome = true
  sup : PySem.W.nsIn K mainGlobals "super" = some none
  top : (prog.main.scope.names.lookup ("super" : Str)).isSome = false
  tI : PySem.W.typeIn K (.ref fI) = some (.type "function")
  thr : PySem.W.nsIn K cStatics "thirdparty.any" = some none
/-- a class C that is made with it -/
structure MkF (K : Frag) (mg : Str → Option Value) (prog : Program) (fI D : Addr) (x : Str) (C : Addr) : Prop where
  init : InitF K prog fI D
  oex : OexC K C
  iC : PySem.W.findIn K (.ref C) "__init__" = some (some (.ref fI))
  mx : mg x = some (.ref C)
  hw : PySem.W.findIn K (.ref C) "what" = some none
  mro : PySem.W.mroIn K C (.ref D) = some true
  sup : PySem.W.ks_superIn K C D "__init__" = some (some (.builtin "ValueError.__init__"))
  ve : PySem.W.subIn K (.ref C) (.type "ValueError") = some true

/-- the walk of __init__ -/
theorem init_ok {P : Program} {w : World} {A : Around} {K : Frag} {mg : Str → Option Value} {fI D C a t0 : Addr} {x : Str} {s : Shared} {u : Value} {R : Result → Shared → Prop} (M : MkF K mg P fI D x C) (room : A.depth < recursionLimit)
    (kin : K.In s.heap) (na : K.lookup a = none) (G : s.heap.Ns mainGlobals mg) (B : ∃ mb, s.heap.Ns builtinsNs mb ∧ ∀ x : Str, x ≠ "__name__" → mb x = bootBuiltins x) (lim : s.heap.NoLimit) (ha : s.heap.get? a = some (PySem.HandSPX.excO C t0))
    (hR : ∀ (h' : Heap) (tk : Nat) (d t1 : Addr), (∀ b o, b ≠ a → s.heap.get? b = some o → h'.get? b = some o) → h'.get? a = some ({ cls := .ref C, dict := some d, data := .fields #[.ref t1, .none, .none, .none, .bool false, .none] } : Obj) →
      h'.Ns1 d (fun y => if y = "what" then some u else none) → s.heap.objs.size ≤ d → d ≠ a → R (.ok (.ret .none)) { s with heap := h', toks := tk }) :
    codeAny (model P w) A (.call (.ref fI) ⟨[.ref a, u], []⟩) R s := by
  obtain ⟨I0, oex, iC, mx, hw, mro, sup, ve⟩ := M
  obtain ⟨⟨qual, params, scope, dV, kV, doc, pm, ct, oc, an, od, osl, cda, cc, p0, p1, p2, p3, p4, p5, p6, p7, p8, p9, ar, look, code, bd, hp, ear, ⟨ccl, cdd, vs, ccs, file, tf, lc, hv, hfile⟩, ⟨c1, c2, c3, lcell⟩, n1, n2, n3, n4, ev, n5, n6, n7, n8⟩, clsD, supG, top, tI, thr⟩ := I0
  obtain ⟨cdD, hD⟩ := Option.isSome_iff_exists.mp clsD
  obtain ⟨nm, q, N, bs, bm, sn, sub, ab, col, dd, k0, k1, k2, k3, k5, hC, hbm⟩ := oex.cls
  have hcl : PySem.W.clsIn K C = some { name := nm, bases := bs, mro := .ref C :: bm, ns := N, qualname := q, hasDict := true, slotNames := sn, subclasses := sub, abstract := ab, collection := col, hasDel := false } := by unfold PySem.W.clsIn; rw [hC] <;> rfl
  refine ks_codeAny_call_defAt room (kin _ _ look) rfl lim (PySem.W.codeRec_of kin code) rfl (bd s (.ref a) u) n8 (fun y hy => ?_) (fun h1 ns1 k1 => ?_) n6 n7 n5
  · rcases List.mem_cons.mp hy with e | hy
    · rw [e]; exact n3
    · rcases List.mem_cons.mp hy with e | hy
      · rw [e]; exact n4
      · cases hy
  have kin1 : K.In h1 := kin.keeps k1
  have oD : ∃ o, h1.get? D = some o ∧ o.data = .cls cdD := by
    unfold PySem.W.clsIn at hD
    split at hD
    · rename_i c d cd' sl ho
      cases hD
      exact ⟨_, kin1 _ _ ho, rfl⟩
    · cases hD
  obtain ⟨od1, hD1, hD2⟩ := oD
  have hs : h1.Ns s.heap.objs.size (fun y => List.lookup y [(("what" : Str), u), ("self", .ref a)]) := ns1
  have lself : ∀ {h2 : Heap} {tk : Nat} {A : Around} {Q : Value → Shared → Prop} {E : Value → Shared → Prop}, (∀ b o, h1.get? b = some o → b ≠ a → h2.get? b = some o) → Q (.ref a) ⟨h2, s.gens, s.drawn, tk, s.os⟩ → wpAny (model P w) A (loadName (ksEnv qual scope s.heap.objs.size fI (.ref cda) cc) "self") Q E ⟨h2, s.gens, s.drawn, tk, s.os⟩ := fun {h2 tk A Q E} k qq =>
    wpAny_loadName_local n5 n3 (hs.at' fun o e => k _ o e (Nat.ne_of_gt (Heap.lt_size ha))) rfl qq
  have lwhat : ∀ {h2 : Heap} {tk : Nat} {A : Around} {Q : Value → Shared → Prop} {E : Value → Shared → Prop}, (∀ b o, h1.get? b = some o → b ≠ a → h2.get? b = some o) → Q u ⟨h2, s.gens, s.drawn, tk, s.os⟩ → wpAny (model P w) A (loadName (ksEnv qual scope s.heap.objs.size fI (.ref cda) cc) "what") Q E ⟨h2, s.gens, s.drawn, tk, s.os⟩ := fun {h2 tk A Q E} k qq =>
    wpAny_loadName_local n5 n4 (hs.at' fun o e => k _ o e (Nat.ne_of_gt (Heap.lt_size ha))) rfl qq
  have ha1 := k1 _ _ ha
  refine ks_wpAt_execs_cons (ks_wpAt_Expr_any ?_ ?hi ?hs)
  case hi =>
    show (scope.kind == .module && _) = false
    rw [n5]
    rfl
  case hs => exact rfl
  obtain ⟨pl, ev⟩ := ev (ksEnv qual scope s.heap.objs.size fI (.ref cda) cc)
  refine ks_wpAt_MethodCall (pl := pl) ?_ ev
  refine ks_wpAt_super_base (env := ksEnv qual scope s.heap.objs.size fI (.ref cda) cc) n1 n2 (by decide) rfl (kin1 _ _ look) rfl hp rfl (kin1 _ _ lc) rfl hv hfile top ?_
  · obtain ⟨mb, B1, B2⟩ := B
    refine PySem.W.ks_loadName_global n5 n1 (Calls.loadGlobal_builtin (env := ksEnv qual scope s.heap.objs.size fI (.ref cda) cc) (G.keeps k1) (PySem.W.mg_none_of kin G supG) (B1.keeps k1) ((B2 _ (by decide +kernel)).trans (by decide +kernel)) ⟨rfl, ?_⟩)
    refine wpAny_loadName_free n5 n2 rfl ⟨_, kin1 _ _ lcell, rfl⟩ ?_
    rw [ear]
    refine lself (fun _ _ e _ => e) ?_
    refine ks_wpAny_isType_cls hD1 hD2 ⟨rfl, ?_⟩
    refine ks_wpAny_call_super hD1 hD2 ha1 rfl (fun c e => by cases e) (PySem.W.looks_mroIn kin1 mro) (fun h2 e2 kk2 => ?_)
    have kin2 : K.In h2 := kin1.keeps kk2
    have ha2 := kk2 _ _ ha1
    have I2 : PySem.W.InstAt h2 a (PySem.HandSPX.excO C t0) C none := ⟨ha2, rfl, rfl, trivial⟩
    have hI : PySem.W.Looks (model P w) h2 (isInstance (.ref a) (.type "ValueError")) true := I2.type.andThen (PySem.W.looks_subIn kin2 ve)
    have along : PySem.W.alongIn K "__init__" (((Value.ref C :: bm).dropWhile (· != .ref D)).drop 1) = some (some (.builtin "ValueError.__init__")) := by
      unfold PySem.W.ks_superIn at sup
      rw [hcl] at sup
      exact sup
    refine PySem.W.kxs_getMethod PySem.W.kxs_ValueError e2 (PySem.W.looks_opaque kin2 thr) (l₀ := Value.ref C :: bm) ?_ rfl kin2 along hI (PySem.W.ks_ne kin2 I2 hcl) (by decide) ?_
    · exact fun A Q E s k q => wpAny_bind ((PySem.W.looks_clsIn kin2 hcl) A _ E s k (wpAny_pure q))
    -- the call of the wrapper
    have kk3 : ∀ b o, h2.get? b = some o → (h2.push (PySem.W.kxs_mw "ValueError.__init__" a)).get? b = some o := fun b o e => Heap.get?_push_of_some _ e
    have hu3 : (h2.push (PySem.W.kxs_mw "ValueError.__init__" a)).get? h2.objs.size = some (PySem.W.kxs_mw "ValueError.__init__" a) := Heap.get?_push_at rfl rfl
    have kin3 := kin2.keeps kk3
    have ha3 := kk3 _ _ ha2
    generalize h2.push (PySem.W.kxs_mw "ValueError.__init__" a) = h3 at *
    refine PySem.W.kxs_callWith (i := "ValueError.__init__") (x := a) rfl (PySem.Calls.evalArgs_plain ?_)
    show wpAny _ _ (spliced ((false, eval (.Name "what" p3) (ksEnv qual scope s.heap.objs.size fI (.ref cda) cc)) :: backTo p4 (starEach [] (ksEnv qual scope s.heap.objs.size fI (.ref cda) cc)))) _ _ _
    refine Calls.spliced_cons (wpAny_Name (lwhat (fun b o e _ => kk3 _ _ (kk2 _ _ e)) ?_) (by decide))
    refine Calls.spliced_nil ⟨hu3, ?_⟩
    refine wpAny_call (codeAny_of_tree ?_)
    show wpAny _ _ (callAny (.ref h2.objs.size) ⟨[u], []⟩) _ _ _
    simp only [callAny]
    refine wpAny_bind (wpAny_load hu3 ?_)
    simp only [PySem.W.kxs_mw, show (Value.type "method-wrapper" == Value.type "method" || Value.type "method-wrapper" == Value.type "builtin_function_or_method" || Value.type "method-wrapper" == Value.type "method-wrapper") = true by decide, if_true]
    refine PySem.W.KFB.if_so (by decide) ?_
    refine wpAny_bind (PySem.W.check_bound_init F.excBase_ValueError.toExcCallFacts (kin3 _ _ hC) ha3 rfl ?_)
    refine wpAny_bind (wpAny_pure (wpAny_pure ?_))
    refine ⟨plainId_quiet F.excBase_ValueError.init.plain _, codeAny_builtin F.excBase_ValueError.initEntry ?_⟩
    refine PySem.W.exc_init_tree (cls := .ref C) (t0 := t0) (dv := none) (c2 := .none) (c3 := .none) (b4 := .bool false) ha3 (by show 1 ≤ sizeLine; rw [sizeLine_eq]; omega) fun h4 k4 e4 t4 => ?_
    -- self.what = what
    have ha4 : h4.get? a = some (PySem.HandSPX.excO C h3.objs.size) := e4
    have nKa : ∀ {b : Addr} {o : Obj}, K.lookup b = some o → b ≠ a := fun {b o} e z => by rw [z, na] at e; cases e
    have kin4 : K.In h4 := fun b o e => k4 b o (nKa e) (kin3 _ _ e)
    have up : ∀ b o, h1.get? b = some o → b ≠ a → h4.get? b = some o := fun b o e ne => k4 b o ne (kk3 _ _ (kk2 _ _ e))
    refine ks_wpAt_execs_cons (ks_wpAt_Assign_Attr (wpAt_of_wpAny ?_) rfl)
    refine wpAny_Name (lwhat up ?_) (by decide)
    refine wpAny_Name (lself up ?_) (by decide)
    refine PySem.W.set_plain kin4 (ox := PySem.HandSPX.excO C h3.objs.size) (od := none) ⟨ha4, rfl, rfl, trivial⟩ oex.sa ?_
    refine PySem.HandSPX.exc_osa kin4 ha4 hcl (show PySem.HandSPX.refsVE (.ref C :: bm) = true from hbm) rfl hw (fun h5 tk5 dx k5 dn dne hx hn => ?_)
    refine wpAt_of_wpAny (wpAny_execs_nil ?_)
    refine hR h5 tk5 dx h3.objs.size (fun b o ne e => k5 b o ne (up b o (k1 b o e) ne)) hx hn ?_ dne
    have sz : s.heap.objs.size ≤ h4.objs.size := by
      obtain ⟨oL, _, _, e1, _⟩ := hs
      exact Nat.le_of_lt (Heap.lt_size (up _ _ e1 (Nat.ne_of_gt (Heap.lt_size ha))))
    exact Nat.le_trans sz dn
end Mv
namespace Mv
open PySem PySem.Spec L2
open PyProof.Rows hiding St

section
variable {X : Cx} {fI D C : Addr} {x : Str} {e : Expr} {ta : TA} {p pos : Pos}
/-- C(e) -/
theorem pmk_mk {k : Nat} (M : MkF X.K X.mg X.prog fI D x C) (room : L2H.RoomH k X.A) (hg : Gl X x) (hdb : (x == ("__debug__" : Str)) = false) (hs : isStar e = false) (ha : PA X [e] ta) :
    L2N.PMk X (.Call (.Name x p) [e] [] pos) (fun σ H Q => ta σ H fun vs H1 => ∃ v, vs = [v] ∧ ∀ d, H1 d = none → Q (.ref C) (some d) (upd H1 d (.xd [("what", v)]))) := by
  intro pins s σ H Q I h
  have T := M.oex
  obtain ⟨nm, q, N, bs, bm, sn, sub, ab, col, dd, k0, k1, k2, k3, k5, hC, hbm⟩ := T.cls
  refine wpAny_Call_Name_kw (ld_glob I hg M.mx ?_ hdb)
  have st : starEach [e] X.env = (false, eval e X.env) :: starEach [] X.env := by cases e <;> first | rfl | exact nomatch hs
  refine PySem.W.callWith_K (h₀ := X.base) I.ok.mod.kin T.kC (thn (ha.run pos pins s σ H _ I h) fun us s1 ⟨vs, H1, I1, r1, v, ev, q1⟩ => ⟨I1.kIn, ?_⟩) st rfl
  show wpAny _ _ (call (.ref C) us) _ _ _
  subst ev
  cases r1 with
  | @cons _ u _ us' rv rn =>
  cases rn
  obtain ⟨hp, g, dr, tk, os⟩ := s1
  have kk : ∀ b o, hp.get? b = some o → ((hp.push (PySem.W.kdv_tup [u])).push (PySem.HandSPX.excO C hp.objs.size)).get? b = some o := fun b o z => Heap.get?_push_of_some _ (Heap.get?_push_of_some _ z)
  have hget : ((hp.push (PySem.W.kdv_tup [u])).push (PySem.HandSPX.excO C hp.objs.size)).get? (hp.objs.size + 1) = some (PySem.HandSPX.excO C hp.objs.size) := by heap_get
  have sz2 : ((hp.push (PySem.W.kdv_tup [u])).push (PySem.HandSPX.excO C hp.objs.size)).objs.size = hp.objs.size + 2 := by rw [Heap.size_push, Heap.size_push]
  have na : X.K.lookup (hp.objs.size + 1) = none := by
    cases z : X.K.lookup (hp.objs.size + 1) with
    | none => rfl
    | some o => exact absurd (Heap.lt_size (I1.kIn _ _ z)) (by show ¬ hp.objs.size + 1 < hp.objs.size; omega)
  obtain ⟨mb, B1, B2⟩ := I1.mod.blt
  have keepB : ∀ b o, X.base.get? b = some o → ((hp.push (PySem.W.kdv_tup [u])).push (PySem.HandSPX.excO C hp.objs.size)).get? b = some o := fun b o z => kk b o (I1.bk b o z)
  refine wpAny_call (PySem.HandSPX.call_own F.excBase_ValueError (fun Y => PySem.HandSPX.refsVE_contains Y bm hbm) (I1.kIn _ _ hC) (PySem.W.looks_findIn I1.kIn M.iC) (fun self => PySem.W.bind_fn I1.kIn self M.init.tI) (by show 1 ≤ sizeLine; rw [sizeLine_eq]; omega) ?_)
  refine init_ok (a := hp.objs.size + 1) (t0 := hp.objs.size) M ?_ (I1.kIn.keeps kk) na (I1.mod.glob.keeps keepB) ⟨mb, B1.keeps keepB, B2⟩ (I1.mod.nolimit.keeps keepB) hget fun h2 tk2 d t1 k2' ea en ed hda => ?_
  · rw [make_depth]
    have := room.dp
    omega
  rw [sz2] at ed
  have hd1 : H1 d = none := I1.hok.fresh (show hp.objs.size ≤ d by have : hp.objs.size + 2 ≤ d := ed; omega)
  have up : ∀ b o, hp.get? b = some o → h2.get? b = some o := fun b o z => k2' b o (fun y => by
    have := Heap.lt_size z
    rw [y] at this
    exact absurd this (by show ¬ hp.objs.size + 1 < hp.objs.size; omega)) (kk b o z)
  obtain ⟨G, g1, g2⟩ := restrict h2 fun b => decide (b ≠ hp.objs.size + 1)
  have gk : ∀ b, b ≠ hp.objs.size + 1 → G.get? b = h2.get? b := fun b hb => g1 b (decide_eq_true hb)
  have ge : G.get? (hp.objs.size + 1) = none := g2 _ (by simp)
  have upG : ∀ b o, hp.get? b = some o → G.get? b = some o := fun b o z => by
    rw [gk b (fun y => by
      have := Heap.lt_size z
      rw [y] at this
      exact absurd this (by show ¬ hp.objs.size + 1 < hp.objs.size; omega))]
    exact up b o z
  have J : Inv X pins σ (upd H1 d (.xd [("what", v)])) ⟨G, g, dr, tk2, os⟩ := by
    refine I1.laid (t' := tk2) (a := d) (h' := G) upG (show hp.objs.size ≤ d by have : hp.objs.size + 2 ≤ d := ed; omega) ⟨_, en.at fun o z => by rw [gk d hda]; exact z, fun f => ?_⟩
    exact relO_put (fs := []) (mA := fun _ => none) rv (fun g => True.intro) f
  refine ⟨rfl, ⟨hp.objs.size + 1, _, _, ⟨G, g, dr, tk2, os⟩, _, .ref C, some d, rfl, J, fun b o z => ?_, ge, ea, ⟨rfl, rfl, fun vs hv => ?_⟩, rfl, rfl, ?_, rfl, I1.bare, raises_own T.exC T.tyC, q1 d hd1⟩⟩
  · by_cases hb : b = hp.objs.size + 1
    · rw [hb, ge] at z; cases z
    · exact (gk b hb).symm.trans z
  · cases hv
    rfl
  · rw [upd_ne (Ne.symm hda)]
    exact I1.hok.fresh (show hp.objs.size ≤ hp.objs.size + 1 by omega)
end
section
variable [G : Glo]
variable {X : Cx} {cl : Cl} {W : WX} {P : List Nat} {fI D : Addr} {x : Str} {e : Expr} {p p2 pos : Pos} {Φ : Fn}
theorem xd_ext {Z : Zt} {H : Hp} {d : Addr} {o : HO} (n : H d = none) : Ext Z H (addZ Z d) (upd H d o) :=
  ⟨fun _ h => .inl h, fun a ob _ q => by rw [upd_ne (ne_of_none q n)]; exact q, fun a xs q => by rw [upd_ne (ne_of_none q n)]; exact q, fun a ob u q => by rw [upd_ne (ne_of_none q n)]; exact q, (fun t => t.grow fun a ob q => by rw [upd_ne (ne_of_none q n)]; exact q), fun a ob q => by rw [upd_ne (ne_of_none q n)]; exact q⟩
/-- raise C(e) -/
theorem ss_raise {k c : Nat} {ie : IE} (M : MkF X.K X.mg X.prog fI D x (cl c)) (calm : X.calm = true) (room : L2H.RoomH k X.A) (tkn : L2N.Takes X W) (hg : Gl X x) (hdb : (x == ("__debug__" : Str)) = false) (hs : isStar e = false) (ha : PE X e (TDE X.K cl W (dE Φ ie))) :
    PS X (.Raise (some (.Call (.Name x p) [e] [] pos)) none p2) (TDS X.K cl W P (dS Φ P (.raise_ c ie))) := by
  refine PS.weak (L2N.ps_raise calm tkn (pmk_mk M room hg hdb hs (pa_cons ha pa_nil (star_cons hs)))) fun D σ H ⟨ρ, Z, R, h⟩ => ?_
  simp only [dS] at h
  refine TDE.mono (tde_stm (Aft.refl R) Fx.refl h) fun v H1 ⟨o, ρ1, Z1, A1, _, hv, h1⟩ => ?_
  refine ⟨v, rfl, fun d hd => ?_⟩
  cases es : sealE ρ1 o with
  | none => simp only [es] at h1; exact h1.elim
  | some pr =>
    obtain ⟨q, ρ2⟩ := pr
    simp only [es] at h1
    obtain ⟨Z2, A2, sv, x2⟩ := seal_ok A1 hv es
    have g : ∀ a o, H1 a = some o → upd H1 d (.xd [("what", v)]) a = some o := fun a o z => by rw [upd_ne (ne_of_none z hd)]; exact z
    have A3 := A2.trans (Aft.grow A2.rel g)
    have nO : ¬ Own ρ2 σ d := fun z => by
      obtain ⟨_, o, eo, _⟩ := A2.rel.own z
      rw [hd] at eo; cases eo
    have A4 : Aft X.K ρ σ H Z ρ2 σ (upd H1 d (.xd [("what", v)])) (addZ Z2 d) := ⟨A3.rel.frzVal upd_same (fun _ z => nomatch z) nO, fun b z => .inl (A3.zz b z), A3.keep, A3.tk, fun b z => by
      rcases z with z | z
      · exact A3.zn b z
      · subst z
        exact .inr (A2.new hd), A3.on⟩
    exact h1 σ _ _ _ _ A4 Fx.refl ⟨rfl, d, v, rfl, .inr rfl, upd_same, sv.ext (xd_ext hd)⟩
end
end Mv
namespace Mv
open PySem PySem.Spec L2
open PyProof.Rows hiding St

abbrev Sut := Addr → Value → Option Addr → TS
/-- the end behind a suite that named its exception by slot i -/
def endsUn (D : Ends) (i : Nat) : Ends := { nx := fun σ H => D.nx (σ.set i none) H, rt := D.rt, bk := fun σ H => D.bk (σ.set i none) H, ct := fun σ H => D.ct (σ.set i none) H }
/-- what a row of handlers wishes of the exception -/
def wMix (K : PySem.W.Frag) (out : WX) (D : Ends) : List (Value × Option Nat × Sut) → WX
  | [] => out
  | (cv, none, ts) :: r => fun cls d σ H => ∃ b, PySem.W.exmOne K cls cv = some b ∧ (b = true → ∀ a, H a = none → ts a cls d D σ H) ∧ (b = false → wMix K out D r cls d σ H)
  | (cv, some i, ts) :: r => fun cls d σ H => ∃ b, PySem.W.exmOne K cls cv = some b ∧ (b = true → ∀ a, H a = none → ts a cls d (endsUn D i) (σ.set i (some (.ref a))) H) ∧ (b = false → wMix K out D r cls d σ H)
inductive MixOk (X : Cx) : List ExceptHandler → List (Value × Option Nat × Sut) → Prop
  | nil : MixOk X [] []
  | bare {x : Str} {cv : Value} {ts : Sut} {b₀ : Stmt} {su : List Stmt} {np ps : Pos} {hs : List ExceptHandler} {l : List (Value × Option Nat × Sut)} (nm : Names X x cv)
      (sut : ∀ (a : Addr) (oe : Obj) (cls : Value) (d : Option Addr) (pn : List (Addr × Obj)), L2N.Zn cls d oe → (∃ vs, oe.data = .fields vs) → PSs (X.suite a ((a, oe) :: pn)) (b₀ :: su) (ts a cls d)) (rest : MixOk X hs l) :
      MixOk X (.ExceptHandler (some (.Name x np)) none (b₀ :: su) ps :: hs) ((cv, none, ts) :: l)
  | named {x n : Str} {i : Nat} {cv : Value} {ts : Sut} {b₀ : Stmt} {su : List Stmt} {np ps : Pos} {hs : List ExceptHandler} {l : List (Value × Option Nat × Sut)} (nm : Names X x cv) (hi : X.N[i]? = some n) (hl : X.env.kindOf n = some .local)
      (sut : ∀ (a : Addr) (oe : Obj) (cls : Value) (d : Option Addr) (pn : List (Addr × Obj)), L2N.Zn cls d oe → (∃ vs, oe.data = .fields vs) → PSs (X.suite a ((a, oe) :: pn)) (b₀ :: su) (ts a cls d)) (rest : MixOk X hs l) :
      MixOk X (.ExceptHandler (some (.Name x np)) (some n) (b₀ :: su) ps :: hs) ((cv, some i, ts) :: l)
section
variable {X : Cx} {body : List Stmt} {h₀ : ExceptHandler} {hds : List ExceptHandler} {l : List (Value × Option Nat × Sut)} {pos : Pos} {tb : WX → TS} {out : WX}
theorem ps_try_mix (nd : X.N.Nodup) (hs : X.stack = X.env :: X.outer) (hf : X.env.frame = some X.env.locals) (tk : L2N.Takes X out)
    (hb : ∀ (W : WX) (pn : List (Addr × Obj)) (xe : Value → Shared → Prop), L2N.Takes (X.tr pn xe) W → PassesOwn (model X.prog X.w) X.A X.env xe → PSs (X.tr pn xe) body (tb W))
    (hh : MixOk X (h₀ :: hds) l) : PS X (.Try body (h₀ :: hds) [] [] pos) (fun D σ H => tb (wMix X.K out D l) D σ H) := by
  refine ⟨fun pins s σ H D I hyp => ?_⟩
  have okX := I.ok
  have frX : X.A.frames = some (X.env :: X.outer) := by rw [okX.frames, hs]
  refine wpAny_Try_except ?_
  refine wpAny_mono (Q := fun f s1 => SP (X.tr (X.pn ++ pins) _) [] D f s1) ((hb (wMix X.K out D l) (X.pn ++ pins) (fun e s₁ => wpAny (model X.prog X.w) X.A (noteFrame e X.env) (fun _ s₂ => wpAny (model X.prog X.w) X.A (setFlight e none) (fun _ s₃ =>
    wpAny (model X.prog X.w) X.A (handleBy e X.env (h₀ :: hds)) (SP X pins D) X.xe s₃) X.xe s₂) X.xe s₁) ?caught PassesOwn.looking).run [] s σ H D (I.toTry _) hyp) (fun f s1 sp => ?fin) fun e s1 he => he
  case caught =>
    rintro u s' ⟨a, B, sI, pins', σ', H', cls, d, rfl, J', nb, up, sky, na, os, ag, wish⟩
    have J : Inv X pins σ' H' sI := J'.ofTry okX
    have sky' : L2.Sky B (X.env :: X.outer) a (L2N.Zn cls d) X.env.locals s'.heap := hs ▸ sky
    show wpAny (model X.prog X.w) X.A (noteFrame (.ref a) X.env) _ _ _
    refine L2N.Sky.land L2N.Zn.steady frX hf sky' fun h3 fl3 up3 => ?_
    have J3 : Inv X pins σ' H' { s' with heap := h3 } := J.landed nb fl3.1 (up.trans up3) os ag
    obtain ⟨oe3, vs3, he3, hz3, hd3⟩ := fl3.there
    have nfr : a ∉ frs (X.env :: X.outer) := fun hm => by
      obtain ⟨_, o', e', hnf⟩ := fl3.2.2.1.mem hm
      rw [he3] at e'; cases e'
      exact hnf _ hd3
    have nL : a ≠ X.env.locals := fun z => nfr (List.mem_filterMap.mpr ⟨X.env, List.mem_cons_self, by rw [hf, z]⟩)
    have nF : a ∉ X.fs := fun hm => by
      obtain ⟨v, hv, q⟩ := List.mem_filterMap.mp hm
      exact nfr (List.mem_filterMap.mpr ⟨v, List.mem_cons_of_mem _ hv, q⟩)
    have S3 := J3.suite he3 hd3 na nL nF
    have clsLooks : PySem.W.Looks (model X.prog X.w) h3 (typeOf (.ref a)) cls := fun A Q E s k q => wpAny_typeOf_ref (k _ _ he3) (by rw [hz3.1]; exact q)
    have name : ∀ {x : Str} {cv : Value} {np : Pos}, Names X x cv → ∀ {Q : Value → Shared → Prop} {E : Value → Shared → Prop}, Q cv { s' with heap := h3 } → wpAny (model X.prog X.w) (X.A.mark (some (.ref a))) (eval (.Name x np) X.env) Q E { s' with heap := h3 } := fun {x cv np} nm {Q E} q => by
      obtain ⟨hg, hdbg, hm | ⟨hm, hv, hnn⟩⟩ := nm
      · exact ld_glob (X := X.suite a ((a, oe3) :: (X.pn ++ pins))) S3 hg hm q hdbg
      · exact ld_blt (X := X.suite a ((a, oe3) :: (X.pn ++ pins))) S3 hg hm hv q hnn hdbg
    have go : ∀ {hs' : List ExceptHandler} {l' : List (Value × Option Nat × Sut)}, MixOk X hs' l' → wMix X.K out D l' cls d σ' H' → wpAny (model X.prog X.w) X.A (handleBy (.ref a) X.env hs') (SP X pins D) X.xe { s' with heap := h3 } := by
      intro hs' l' mk
      induction mk with
      | nil =>
        intro wish
        refine wpAny_handleBy_nil ?_
        obtain ⟨k1, k2, k3, oe, vs, T, oT, ts', he, hz, hd, h1, hr⟩ := id fl3
        unfold PySem.passOn
        refine wpAny_bind (wpAny_field he hd h1 ?_)
        rw [if_neg (show ¬ ((Value.ref T == Value.none) = true) from by simp)]
        have fin : wpAny (model X.prog X.w) X.A (setFlight (.ref a) X.env.frame) (fun _ s4 => wpAny (model X.prog X.w) X.A (throw (.ref a) : Sem Flow) (SP X pins D) X.xe s4) X.xe { s' with heap := h3 } := by
          rw [hf]
          exact HandSPX.setFlight_upZ fl3 fun h4 hh4 up4 => wpAny_throw (tk _ _ ⟨a, B, sI, pins, σ', H', cls, d, rfl, J, nb, (up.trans up3).trans up4, .inr (.inr (by rw [hs]; exact hh4)), na, os, ag, wish⟩)
        first
          | exact wpAny_bind (wpAny_pure (wpAny_bind fin))
          | exact wpAny_bind fin
      | bare nm sut rest ih =>
        rintro ⟨b, e1, yes, no⟩
        refine wpAny_handleBy_cons (codeAny_handlers_test (name nm ((PySem.W.exm_one (M := model X.prog X.w) J3.kIn clsLooks e1).here ?_))) (fun q => nomatch q)
        cases b with
        | false => exact ih (no rfl)
        | true =>
          refine codeAny_handlers_suite (HandSPX.lands_againZ fl3 fun h4 fl4 up4 => ?_)
          obtain ⟨oe4, vs4, he4, hz4, hd4⟩ := fl4.there
          have J4 : Inv X pins σ' H' { s' with heap := h4 } := J.landed nb fl4.1 ((up.trans up3).trans up4) os ag
          refine wpAny_mono ((sut a oe4 cls d (X.pn ++ pins) hz4 ⟨_, hd4⟩).run [] _ _ H' _ (J4.suite he4 hd4 na nL nF) (yes rfl a na)) (fun f s6 sp => ?_) fun _ _ z => z.elim
          match f, sp with
          | .next, ⟨σ6, H6, S6, q6⟩ => exact ⟨_, _, S6.unsuite okX, q6⟩
          | .brk, ⟨σ6, H6, S6, q6⟩ => exact ⟨_, _, S6.unsuite okX, q6⟩
          | .cont, ⟨σ6, H6, S6, q6⟩ => exact ⟨_, _, S6.unsuite okX, q6⟩
          | .ret u, ⟨v6, σ6, H6, S6, r6, q6⟩ => exact ⟨_, _, _, S6.unsuite okX, r6, q6⟩
      | named nm hi hl sut rest ih =>
        rintro ⟨b, e1, yes, no⟩
        refine wpAny_handleBy_cons (codeAny_handlers_test (name nm ((PySem.W.exm_one (M := model X.prog X.w) J3.kIn clsLooks e1).here ?_))) (fun q => nomatch q)
        cases b with
        | false => exact ih (no rfl)
        | true =>
          refine codeAny_handlers_suite_as (HandSPX.lands_againZ fl3 fun h4 fl4 up4 => ?_)
          obtain ⟨oe4, vs4, he4, hz4, hd4⟩ := fl4.there
          have J4 : Inv X pins σ' H' { s' with heap := h4 } := J.landed nb fl4.1 ((up.trans up3).trans up4) os ag
          refine store_ok (X := X.suite a ((a, oe4) :: (X.pn ++ pins))) (v := .ref a) (J4.suite he4 hd4 na nL nF) nd hi (.inl hl) rfl (fun s5 S5 => ?_) (.inr hl)
          refine wpAny_mono ((sut a oe4 cls d (X.pn ++ pins) hz4 ⟨_, hd4⟩).run [] s5 _ H' _ S5 (yes rfl a na)) (fun f s6 sp => ?_) fun _ _ z => z.elim
          match f, sp with
          | .next, ⟨σ6, H6, S6, q6⟩ => exact gone_ok (S6.unsuite okX) nd hi hl fun s7 J7 => ⟨_, _, J7, q6⟩
          | .brk, ⟨σ6, H6, S6, q6⟩ => exact gone_ok (S6.unsuite okX) nd hi hl fun s7 J7 => ⟨_, _, J7, q6⟩
          | .cont, ⟨σ6, H6, S6, q6⟩ => exact gone_ok (S6.unsuite okX) nd hi hl fun s7 J7 => ⟨_, _, J7, q6⟩
          | .ret u, ⟨v6, σ6, H6, S6, r6, q6⟩ => exact gone_ok (S6.unsuite okX) nd hi hl fun s7 J7 => ⟨_, _, _, J7, r6, q6⟩
    exact go hh wish
  match f, sp with
  | .next, ⟨σ', H', J', q⟩ => exact wpAny_execs_nil ⟨σ', H', J'.ofTry okX, q⟩
  | .brk, ⟨σ', H', J', q⟩ => exact ⟨σ', H', J'.ofTry okX, q⟩
  | .cont, ⟨σ', H', J', q⟩ => exact ⟨σ', H', J'.ofTry okX, q⟩
  | .ret u, ⟨v, σ', H', J', r, q⟩ => exact ⟨v, σ', H', J'.ofTry okX, r, q⟩
end
end Mv
namespace Mv
open PySem PySem.Spec L2
open PyProof.Rows hiding St
open PySem.W (Frag)

section
open PySem.W PySem.Calls
variable {prog : Program} {w : World} {A : Around} {E : Value → Shared → Prop} {s : Shared} {K : Frag} {x D : Addr} {ox od : Obj}
/-- the class of a caught exception that has fields -/
theorem cls_of (c : ExcC K D) {Q : Option Value → Shared → Prop} (X : K.In s.heap) (I : InstAt s.heap x ox D (some od)) (h : Q (some (.ref D)) { s with toks := s.toks + 1 }) : wpAny (model prog w) A (getAttr? (.ref x) "__class__") Q E s := by
  obtain ⟨cdD, hcD, _⟩ := any_some c.hd
  have hf : findObj K D (some od) "__class__" = some (.bind (.builtin "getset_descriptor.__get__") (.builtin "object.__class__")) := findObj_data (by rw [hcD]; rfl) c.ha c.hn c.ht
  obtain ⟨hp, g, d, t, os⟩ := s
  have ty := I.type (M := model prog w)
  have sub : Looks (model prog w) hp (isInstance (.ref x) (.type "BaseException")) true := ty.andThen (looks_subIn X c.hs)
  have ne : (Value.builtin "BaseException.__getattribute__" == Value.builtin "object.__getattribute__") = false := by decide +kernel
  unfold getAttr? getAttrBy? getAttrBy
  refine wpAny_bind (wpAny_mkText (wpAny_bind (wpAny_attempt (wpAny_holding (wpAny_bind (ty.at (wpAny_bind ((looks_findIn (M := model prog w) X c.hg).at ?_))))))))
  show wpAny _ _ (if (onTheHeap (Value.ref D) && Value.builtin "BaseException.__getattribute__" == Value.builtin "object.__getattribute__") = true then _ else _) _ _ _
  rw [show (onTheHeap (Value.ref D) && Value.builtin "BaseException.__getattribute__" == Value.builtin "object.__getattribute__") = false by rw [ne]; rfl, if_neg Bool.false_ne_true]
  unfold getAttrByItsOwn hookBefore
  refine wpAny_bind ?_
  rw [if_pos (show onTheHeap (Value.ref D) = true from rfl)]
  refine (looks_findIn (M := model prog w) X c.hk).at (wpAny_bind (wpAny_attempt (wpAny_holding ?_)))
  unfold callGetattribute
  rw [show (false && onTheHeap (Value.builtin "BaseException.__getattribute__")) = false from rfl, if_neg Bool.false_ne_true]
  unfold boundAndCalled
  rw [PySem.F.excAttr_ValueError.ga.bind (.ref x)]
  refine wpAny_bind (wpAny_pure ?_)
  show wpAny _ _ (call (.builtin "BaseException.__getattribute__") [.ref x, .str "__class__" t]) _ _ _
  refine wpAny_call (codeAny_call_builtin PySem.F.excAttr_ValueError.ga.plain PySem.F.entry_bexc_ga ?_)
  refine @check_slot (model prog w) _ _ ⟨hp, g, d, t + 1, os⟩ "BaseException.__getattribute__" "BaseException" "__getattribute__" (.ref x) [.str "__class__" t] [] _ (by decide +kernel) (by decide +kernel) sub (PySem.F.args_bexc_ga (.ref x) (.str "__class__" t)) ?_
  unfold Builtin.«object.__getattribute__»
  refine wpAny_bind (wpAny_of_eq (a := ((Value.ref x : Value), [Value.str "__class__" t])) (by first | rfl | (simp only [slotArgs]; rfl)) ?_)
  refine wpAny_bind (wpAny_pure (wpAny_bind (ty.at (wpAny_bind ((looks_find (M := model prog w) X I hf).at ?_)))))
  show wpAny _ _ (holding [Value.builtin "object.__class__"] (call (.builtin "getset_descriptor.__get__") [.builtin "object.__class__", .ref x, .ref D]) >>= ret) _ _ _
  refine wpAny_bind (wpAny_holding (wpAny_call (class_get (s := ⟨hp, g, d, t + 1, os⟩) (ox := ox) (od := some od) X I c.hm (wpAny_pure ?_))))
  show wpAny _ _ (handedOut (.ref D)) _ _ _
  rw [handedOut_of (v := .ref D) rfl]
  first
    | exact wpAny_pure (wpAny_pure h)
    | exact wpAny_pure h
    | exact wpAny_pure (wpAny_bind (wpAny_pure (wpAny_pure h)))
theorem kit_exc (c : ExcC K D) : KitX K (.ref x) (.ref D) (fun h => InstAt h x ox D (some od)) where
  ty := fun _ _ _ I => I.type
  it := fun _ _ X _ => by
    obtain ⟨cdD, hcD, _⟩ := any_some c.hd
    unfold clsIn at hcD
    split at hcD
    · rename_i c' d' cd' sl' ho
      intro A' Q' E' s' k q
      unfold isType loadHead
      exact wpAny_bind (wpAny_loadPart (k _ _ (X _ _ ho)) (wpAny_pure q))
    · cases hcD
  ne := fun h tp dd its n sl X htp => by
    obtain ⟨cdD, hcD, _⟩ := any_some c.hd
    refine Bool.eq_false_iff.mpr fun q => ?_
    cases (Value.ref.inj (beq_iff_eq.mp q) : D = tp)
    unfold clsIn at hcD
    split at hcD
    · rename_i c' d' cd' sl' ho
      cases (X _ _ ho).symm.trans htp
    · cases hcD
  ca := fun X I k => cls_of c X I k
end
/-- what a suite asks of its exception's class -/
structure XcF (K : Frag) (C : Addr) : Prop where
  xf : XfC K C
  hw : PySem.W.findIn K (.ref C) "what" = some none
  ec : ExcC K C
/-- the exception that the suite holds, by slot i -/
def ErOk [G : Glo] (X : Cx) (cl : Cl) (Φ : Fn) (n : Str) : Prop :=
  ∃ (X0 : Cx) (i : Nat) (a : Addr) (oe : Obj) (pn : List (Addr × Obj)) (c : Nat) (p : D) (dd : Addr) (v : V), X = X0.suite a ((a, oe) :: pn) ∧ X.N[i]? = some n ∧ Vis X.env.scope n ∧ (n == ("__debug__" : Str)) = false ∧ (n == ("__classdict__" : Str)) = false ∧
    L2N.Zn (.ref (cl c)) (some dd) oe ∧ (∃ vs, oe.data = .fields vs) ∧ Φ 1000000 [] = .ok p false [] ∧ Φ 1000001 [] = .ok (.int c) false [] ∧ XcF X.K (cl c) ∧
    ∀ σ H Z, G.F σ H Z → σ[i]? = some (some (.ref a)) ∧ Z dd ∧ H dd = some (.xd [("what", v)]) ∧ Sh X.K Z H v p
section
variable [G : Glo]
variable {X : Cx} {cl : Cl} {W : WX} {n : Str} {np pos p pt : Pos} {Φ : Fn}
theorem se_exw (er : ErOk X cl Φ n) : PE X (.Attribute (.Name n np) "what" pos) (TDE X.K cl W (dE Φ .exw)) := by
  obtain ⟨X0, i, a, oe, pn, c, q, dd, v, rfl, hN, hv, p1, p2, hz, hf, f1, f2, xc, ff⟩ := er
  refine PE.weak (pe_xf (X := X0) xc.xf xc.hw (d := some dd) ⟨hz.1, hz.2.1⟩ hf (pe_var hN hv p1 p2) rfl) fun σ H Q h => ?_
  obtain ⟨ρ, Z, R, h⟩ := h
  simp only [dE, f1, exwR] at h
  obtain ⟨e1, z, e2, s⟩ := ff σ H Z R.ge.f
  exact ⟨.ref a, e1, rfl, rfl, dd, _, v, rfl, e2, rfl, h _ _ (Aft.refl R) _ (val_sh s)⟩
/-- what is known of a class's name t in isinstance(e, t) -/
structure XtF (K : Frag) (mg : Str → Option Value) (cl : Cl) (t : Str) (cv : Value) (yes no : List Nat) : Prop where
  at_ : mg t = some cv ∨ (mg t = none ∧ bootBuiltins t = some cv ∧ t ≠ "__name__")
  rel : ∃ vc : V, RelV vc cv ∧ ∀ u, RelV vc u → u = cv
  yes : ∀ c, yes.contains c = true → PySem.W.exmOne K (.ref (cl c)) cv = some true ∧ PySem.W.kitOne K (.ref (cl c)) cv = some true
  no : ∀ c, no.contains c = true → PySem.W.exmOne K (.ref (cl c)) cv = some false ∧ PySem.W.kitOne K (.ref (cl c)) cv = some false
theorem XtF.names {cv : Value} {t : Str} {yes no : List Nat} (x : XtF X.K X.mg cl t cv yes no) (hg : Gl X t) (hd : (t == ("__debug__" : Str)) = false) : Names X t cv := ⟨hg, hd, x.at_⟩
def rIsD (K : Frag) (D a : Addr) (od : Option Obj) : List V → Hp → VK → Prop := fun xs H Q => ∃ (c : V) (cv : Value) (b : Bool), xs = [.ref a, c] ∧ (∀ u, RelV c u → u = cv) ∧ PySem.W.kitOne K (.ref D) cv = some b ∧ Q (.bl b) H
theorem call_isD {X0 : Cx} {a D dd : Addr} {oe : Obj} {v : V} {pn : List (Addr × Obj)} (C : ExcC X0.K D) (hz : L2N.Zn (.ref D) (some dd) oe) (hf : ∃ vs, oe.data = .fields vs) :
    CallR (X0.suite a ((a, oe) :: pn)) (.builtin "isinstance") (fun xs H Q => ∃ (c : V) (cv : Value) (b : Bool), xs = [.ref a, c] ∧ (∀ u, RelV c u → u = cv) ∧ PySem.W.kitOne X0.K (.ref D) cv = some b ∧ H dd = some (.xd [("what", v)]) ∧ Q (.bl b) H) := by
  intro pins s σ H xs us Q I r h
  obtain ⟨c, cv, b, rfl, hcv, e, hd, q⟩ := h
  cases r with
  | @cons _ ua _ us' rx rr =>
    cases rr with
    | @cons _ uc _ us'' rt rr =>
      cases rr
      cases (show ua = Value.ref a from rx)
      cases hcv _ rt
      obtain ⟨hget, _⟩ := I.pin (a, oe) (List.mem_append.mpr (.inl List.mem_cons_self))
      obtain ⟨vs, hv⟩ := hf
      obtain ⟨mA, ⟨od, es, ep, ho, r1⟩, _⟩ := (I.hok dd _ hd : ObjOk _ _ _ _ _ (.xd _))
      have J : PySem.W.InstAt s.heap a oe D (some od) := ⟨hget, hz.1, by unfold PySem.W.notCls; rw [hv] <;> rfl, by rw [hz.2.1]; exact ho⟩
      exact PySem.W.kia_one (kit_exc C) I.kIn J e (fun z => nomatch z) fun tk => ⟨.bl b, H, I.kept (t' := tk) fun _ _ z => z, rfl, q⟩
theorem se_exi {t : Str} {cv : Value} {yes no : List Nat} (er : ErOk X cl Φ n) (x : XtF X.K X.mg cl t cv yes no) (hg : Gl X "isinstance") (hm : X.mg "isinstance" = none) (hgT : Gl X t) (hdT : (t == ("__debug__" : Str)) = false) :
    PE X (.Call (.Name "isinstance" p) [.Name n np, .Name t pt] [] pos) (TDE X.K cl W (dE Φ (.exi yes no))) := by
  obtain ⟨X0, i, a, oe, pn, c, q, dd, v, rfl, hN, hv, p1, p2, hz, hf, f1, f2, xc, ff⟩ := er
  obtain ⟨vc, rc, uc⟩ := x.rel
  have hT : PE (X0.suite a ((a, oe) :: pn)) (.Name t pt) (tC vc) := by
    rcases x.at_ with z | ⟨z1, z2, z3⟩
    · exact pe_glob hgT z rc hdT
    · exact pe_bltn hgT z1 z2 rc z3 hdT
  have hp := pa_cons (pe_var (pos := np) hN hv p1 p2) (pa_cons hT pa_nil rfl) rfl
  refine PE.weak (pe_callB (call_isD (X0 := X0) (v := v) xc.ec hz hf) hg hm (by decide +kernel) hp (by decide) (by decide) rfl rfl) fun σ H Q h => ?_
  obtain ⟨ρ, Z, R, h⟩ := h
  simp only [dE, f2, exiR] at h
  obtain ⟨e1, z, e2, s⟩ := ff σ H Z R.ge.f
  have hc : (Int.toNat (c : Int)) = c := by simp
  rw [hc] at h
  refine ⟨.ref a, e1, ?_⟩
  split at h
  · rename_i y
    exact ⟨vc, cv, true, rfl, uc, (x.yes c y).2, e2, h _ _ (Aft.refl R) _ (val_sh (.bl _))⟩
  · split at h
    · rename_i y
      exact ⟨vc, cv, false, rfl, uc, (x.no c y).2, e2, h _ _ (Aft.refl R) _ (val_sh (.bl _))⟩
    · exact h.elim
end
end Mv
namespace Mv
open PySem PySem.Spec L2
open PyProof.Rows hiding St
open PySem.W (Frag)

section
variable [G : Glo]
variable {K : Frag} {Z Z' Z0 Z1 Z2 : Zt} {H H' H0 H1 H2 : Hp} {ρ ρ' ρ0 ρ1 ρ2 : En} {σ σ' σ0 σ1 σ2 : L2.St} {v : V} {d : D} {own : Bool} {i : Nat} {x : Option V}
theorem AftF.new (A : AftF K ρ σ H Z ρ1 σ1 H1 Z1) {a : Addr} (h : H1 a = none) : Own ρ σ a ∨ H a = none := by
  cases e : H a with
  | none => exact .inr rfl
  | some o =>
    by_cases ht : ∃ ps, o = .tbl ps
    · obtain ⟨ps, rfl⟩ := ht
      obtain ⟨ps', z⟩ := A.tk a ps e
      rw [h] at z; cases z
    · refine .inl (Classical.byContradiction fun n => ?_)
      rw [A.keep a o e (fun ps z => ht ⟨ps, z⟩) n] at h
      cases h
theorem AftF.trans (A : AftF K ρ σ H Z ρ1 σ1 H1 Z1) (B : AftF K ρ1 σ1 H1 Z1 ρ2 σ2 H2 Z2) : AftF K ρ σ H Z ρ2 σ2 H2 Z2 where
  rel := B.rel
  zz := fun a h => B.zz a (A.zz a h)
  keep := fun a o h t n => B.keep a o (A.keep a o h t n) t fun q => (A.on a q).elim n fun q => by rw [h] at q; cases q
  tk := fun a ps h => let ⟨p1, e1⟩ := A.tk a ps h; B.tk a p1 e1
  zn := fun a h => by
    rcases B.zn a h with h | h | h
    · exact A.zn a h
    · exact .inr (A.on a h)
    · exact .inr (A.new h)
  on := fun a h => (B.on a h).elim (A.on a) A.new
theorem own_unslot {a : Addr} (h : Own (ρ.set i none) (σ.set i x) a) : Own ρ σ a := by
  obtain ⟨j, d, e1, e2⟩ := h
  rcases set_cases e1 with ⟨_, z, _⟩ | ⟨ne, f1⟩
  · cases z
  · rw [List.getElem?_set_ne ne] at e2
    exact ⟨j, d, f1, e2⟩
theorem RelF.unslot (R : RelF K ρ σ H Z) : RelF K (ρ.set i none) (σ.set i x) H Z where
  len := by rw [List.length_set, List.length_set]; exact R.len
  zt := R.zt
  has := fun j d own h => by
    rcases set_cases h with ⟨_, z, _⟩ | ⟨ne, f1⟩
    · cases z
    · obtain ⟨v, h1, h2⟩ := R.has j d own f1
      exact ⟨v, by rw [List.getElem?_set_ne ne]; exact h1, h2⟩
  sep := fun j k d e a e1 e2 s1 s2 => by
    rcases set_cases e1 with ⟨_, z, _⟩ | ⟨n1, f1⟩
    · cases z
    · rcases set_cases e2 with ⟨_, z, _⟩ | ⟨n2, f2⟩
      · cases z
      · rw [List.getElem?_set_ne n1] at s1
        rw [List.getElem?_set_ne n2] at s2
        exact R.sep j k d e a f1 f2 s1 s2
theorem AftF.unslot (A : AftF K ρ0 σ0 H0 Z0 ρ σ H Z) : AftF K ρ0 σ0 H0 Z0 (ρ.set i none) (σ.set i x) H Z :=
  ⟨A.rel.unslot, A.zz, A.keep, A.tk, A.zn, fun a h => A.on a (own_unslot h)⟩
theorem Val.unslot (A : AftF K ρ0 σ0 H0 Z0 ρ σ H Z) (h : Val K (ρ.set i none) (σ.set i x) H ρ' σ' H' Z' v (.val d own)) {y : Option V} : Val K ρ0 σ0 H0 (ρ'.set i none) (σ'.set i y) H' Z' v (.val d own) := by
  refine ⟨h.1, fun e a q => ⟨fun z => (h.2 e a q).1 (own_unslot z), ?_⟩⟩
  rcases (h.2 e a q).2 with z | z
  · exact A.on a (own_unslot z)
  · exact A.new z
end
/-- what a suite that names its exception knows -/
abbrev gloE (t : TabC) (K : Frag) (i : Nat) (a dd : Addr) (v : V) (p : D) : Glo :=
  { t with
    F := fun σ H Z => σ[i]? = some (some (.ref a)) ∧ Z dd ∧ H dd = some (.xd [("what", v)]) ∧ Sh K Z H v p
    fix := [i]
    up := fun ⟨h1, h2, h3, h4⟩ x => ⟨h1, x.zz _ h2, x.kz _ _ h2 h3, letI := t.bare; h4.ext x⟩
    sl := fun ⟨h1, h2, h3, h4⟩ x => ⟨by rw [x i (by simp)]; exact h1, h2, h3, h4⟩ }
section
variable [G : Glo]
variable {X : Cx} {K : Frag} {cl : Cl} {W : WX} {P : List Nat} {Φ : Fn} {Z Z' Z0 : Zt} {H H' H0 : Hp} {ρ ρ' ρ0 : En} {σ σ' σ0 : L2.St}
/-- a suite's tree -/
def sut (K : Frag) (cl : Cl) (Φ : Fn) (P yes : List Nat) (ib : IB) : Option Nat → Sut
  | none => fun a cls d D σ H => ∃ (c : Nat) (p : Mv.D), cls = .ref (cl c) ∧ yes.contains c = true ∧ TDS K cl WF P (dB (exF Φ c p) P ib) D σ H
  | some i => fun a cls d D σ H => ∃ (c : Nat) (p : Mv.D) (dd : Addr) (v : V), cls = .ref (cl c) ∧ yes.contains c = true ∧ d = some dd ∧ @TDS (gloE G.toTabC K i a dd v p) K cl WF (i :: P) (dB (exF Φ c p) (i :: P) ib) D σ H
inductive HdR (K : Frag) (cl : Cl) (Φ : Fn) (P : List Nat) : IH → List (Value × Option Nat × Sut) → Prop
  | nil : HdR K cl Φ P .nil []
  | cons {yes no : List Nat} {sl : Option Nat} {ib : IB} {hs : IH} {l : List (Value × Option Nat × Sut)} {cv : Value} (y : ∀ c, yes.contains c = true → PySem.W.exmOne K (.ref (cl c)) cv = some true)
      (n : ∀ c, no.contains c = true → PySem.W.exmOne K (.ref (cl c)) cv = some false) (r : HdR K cl Φ P hs l) : HdR K cl Φ P (.cons yes no sl ib hs) ((cv, sl, sut K cl Φ P yes ib sl) :: l)
theorem mix_ok (hP : ∀ i ∈ G.fix, i ∈ P) {D : Ends} {c : Nat} {p : Mv.D} {cls : Value} {dx : Option Addr} {hs : IH} {l : List (Value × Option Nat × Sut)} (hr : HdR K cl Φ P hs l) (A : Aft K ρ0 σ0 H0 Z0 ρ σ H Z) (F : Fx P σ0 σ) (xa : XAt K cl Z H c p cls dx)
    (h : PostS K cl W P ρ0 σ0 H0 Z0 (dH Φ P hs c p ρ) D) : wMix K W D l cls dx σ H := by
  induction hr with
  | nil =>
    simp only [dH] at h
    exact h σ H Z cls dx A F xa
  | @cons yes no sl ib hs l cv y n r ih =>
    obtain ⟨ec, dd, v, ed, hz, hd, sv⟩ := id xa
    subst ec
    simp only [dH] at h
    split at h
    · rename_i hy
      cases sl with
      | none =>
        refine ⟨true, y c hy, fun _ a na => ⟨c, p, rfl, hy, ρ, Z, A.rel, ?_⟩, fun q => nomatch q⟩
        simp only at h
        cases e : dB (exF Φ c p) P ib ρ with
        | bad => rw [e] at h; exact h
        | ex c2 p2 ρ2 => rw [e] at h; exact h.elim
        | nx ρ2 => rw [e] at h; exact PostS.later (r := .nx ρ2) A F h
        | bk ρ2 => rw [e] at h; exact PostS.later (r := .bk ρ2) A F h
        | ct ρ2 => rw [e] at h; exact PostS.later (r := .ct ρ2) A F h
        | rt d own ρ2 => rw [e] at h; exact PostS.later (r := .rt d own ρ2) A F h
      | some i =>
        refine ⟨true, y c hy, fun _ a na => ⟨c, p, dd, v, rfl, hy, ed, ?_⟩, fun q => nomatch q⟩
        simp only at h
        split at h
        · exact h.elim
        rename_i hi
        simp only [Bool.or_eq_true, decide_eq_true_eq, not_or, Nat.not_le] at hi
        obtain ⟨hi, hil⟩ := hi
        rw [A.rel.len] at hil
        have RF : RelF K (ρ.set i none) (σ.set i (some (.ref a))) H Z := A.rel.f.unslot
        have tb0 := A.rel.ge.tb
        have R1 : @Rel (gloE G.toTabC K i a dd v p) K (ρ.set i none) (σ.set i (some (.ref a))) H Z :=
          letI := gloE G.toTabC K i a dd v p
          ⟨⟨tb0, ⟨by rw [List.getElem?_set_self hil], hz, hd, sv⟩⟩, RF.len, RF.zt, RF.has, RF.sep⟩
        refine ⟨_, Z, R1, ?_⟩
        -- back from the suite
        have back : ∀ {ρs : En} {σs : L2.St} {Hs : Hp} {Zs : Zt}, @Aft (gloE G.toTabC K i a dd v p) K (ρ.set i none) (σ.set i (some (.ref a))) H Z ρs σs Hs Zs → Fx (i :: P) (σ.set i (some (.ref a))) σs → Aft K ρ0 σ0 H0 Z0 (ρs.set i none) (σs.set i none) Hs Zs ∧ Fx P σ0 (σs.set i none) := fun {ρs σs Hs Zs} B Fb => by
          have BF : AftF K (ρ.set i none) (σ.set i (some (.ref a))) H Z ρs σs Hs Zs := letI := gloE G.toTabC K i a dd v p; B.f
          have tb : TbOk Hs := (letI := gloE G.toTabC K i a dd v p; B.rel.ge.tb : @TbOk G.toTabC Hs)
          have T := (A.f.unslot.trans BF).unslot (i := i) (x := none)
          have x : Ext Z H Zs Hs := BF.ext RF tb
          refine ⟨⟨⟨⟨tb, G.sl (G.up A.rel.ge.f x) (fun j hj => by
            have nij : i ≠ j := fun z => hi (by rw [z]; simpa using hP j hj)
            rw [List.getElem?_set_ne nij, Fb j (List.mem_cons_of_mem _ (hP j hj)), List.getElem?_set_ne nij])⟩, T.rel.len, T.rel.zt, T.rel.has, T.rel.sep⟩, T.zz, T.keep, T.tk, T.zn, T.on⟩, fun j hj => ?_⟩
          have nij : i ≠ j := fun z => hi (by rw [z]; simpa using hj)
          rw [List.getElem?_set_ne nij, Fb j (List.mem_cons_of_mem _ hj), List.getElem?_set_ne nij]
          exact F j hj
        cases e : dB (exF Φ c p) (i :: P) ib (ρ.set i none) with
        | bad => rw [e] at h; exact h.elim
        | ex c2 p2 ρ2 => rw [e] at h; exact h.elim
        | nx ρ2 =>
          rw [e] at h
          intro σ2 H2 Z2 B Fb
          obtain ⟨B1, B2⟩ := back B Fb
          exact h _ H2 Z2 B1 B2
        | bk ρ2 =>
          rw [e] at h
          intro σ2 H2 Z2 B Fb
          obtain ⟨B1, B2⟩ := back B Fb
          exact h _ H2 Z2 B1 B2
        | ct ρ2 =>
          rw [e] at h
          intro σ2 H2 Z2 B Fb
          obtain ⟨B1, B2⟩ := back B Fb
          exact h _ H2 Z2 B1 B2
        | rt d own ρ2 =>
          rw [e] at h
          intro v2 σ2 H2 Z2 B Fb hv
          obtain ⟨B1, B2⟩ := back B Fb
          exact h v2 _ H2 Z2 B1 B2 (hv.unslot A.f)
    · split at h
      · rename_i hn
        cases sl <;> exact ⟨false, n c hn, (fun q => nomatch q), fun _ => ih h⟩
      · exact h.elim
end
end Mv
namespace Mv
open PySem PySem.Spec L2
open PyProof.Rows hiding St
section
variable [G : Glo]
variable {X : Cx} {cl : Cl} {W : WX} {P : List Nat} {Φ : Fn} {body : List Stmt} {h₀ : ExceptHandler} {hds : List ExceptHandler} {l : List (Value × Option Nat × Sut)} {pos : Pos} {ib : IB} {hs : IH}
theorem ss_try (hP : ∀ i ∈ G.fix, i ∈ P) (nd : X.N.Nodup) (st : X.stack = X.env :: X.outer) (fr : X.env.frame = some X.env.locals) (tk : L2N.Takes X W)
    (hb : ∀ (W' : WX) (pn : List (Addr × Obj)) (xe : Value → Shared → Prop), L2N.Takes (X.tr pn xe) W' → PassesOwn (model X.prog X.w) X.A X.env xe → PSs (X.tr pn xe) body (TDS X.K cl W' P (dB Φ P ib)))
    (hh : MixOk X (h₀ :: hds) l) (hr : HdR X.K cl Φ P hs l) : PS X (.Try body (h₀ :: hds) [] [] pos) (TDS X.K cl W P (dS Φ P (.try_ ib hs))) := by
  refine PS.weak (ps_try_mix (tb := fun W' => TDS X.K cl W' P (dB Φ P ib)) nd st fr tk hb hh) fun D σ H ⟨ρ, Z, R, h⟩ => ?_
  simp only [dS] at h
  refine ⟨ρ, Z, R, ?_⟩
  cases e : dB Φ P ib ρ with
  | bad => rw [e] at h; exact h
  | nx ρ2 => rw [e] at h; exact h
  | bk ρ2 => rw [e] at h; exact h
  | ct ρ2 => rw [e] at h; exact h
  | rt d own ρ2 => rw [e] at h; exact h
  | ex c p ρ2 =>
    rw [e] at h
    exact fun σ' H' Z' cls dx A F x => mix_ok hP hr A F x h
end
end Mv
namespace Mv
open PySem PySem.Spec L2
open PyProof.Rows hiding St

def slotN (N : List Str) (x : Str) : Option Nat := match N.findIdx? (fun y => decide (y = x)) with
  | some i => if N[i]? = some x then some i else none
  | none => none
theorem slotN_ok {N : List Str} {x : Str} {i : Nat} (h : slotN N x = some i) : N[i]? = some x := by
  unfold slotN at h
  split at h
  · split at h
    · cases h; assumption
    · cases h
  · cases h
def gvis (sc : Scope) (x : Str) : Bool := (match sc.names.lookup x with
  | some .local => true
  | some .free => true
  | _ => false) && !(x == (".0" : Str)) && !(x == ("__debug__" : Str)) && !(x == ("__classdict__" : Str))
def cRE (N : List Str) (sc : Scope) : Nat → Expr → Option RE
  | 0, _ => none
  | n + 1, e => match e with
    | .Name x _ => match gvis sc x, slotN N x with
      | true, some i => some (.var i)
      | _, _ => none
    | .Subscript _ (.Slice _ _ _ _) _ => none
    | .Subscript a b _ => match cRE N sc n a, cRE N sc n b with
      | some x, some y => some (.ix x y)
      | _, _ => none
    | .Compare a [op] [b] _ => match behindInMarks op b, cRE N sc n a, cRE N sc n b with
      | false, some x, some y => some (.cmp op x y)
      | _, _, _ => none
    | .BoolOp .Or [a, b] _ => match cRE N sc n a, cRE N sc n b with
      | some x, some y => some (.or x y)
      | _, _ => none
    | _ => none
section
variable [G : Glo]
variable {prog : Program} {w : World} {cenv : Env} {N : List Str} {ρ : En} {s : Shared}
/-- the slots' values at the element's state -/
structure Rdy (cenv : Env) (N : List Str) (ρ : En) (s : Shared) : Prop where
  kind : cenv.scope.kind = .function
  at_ : ∀ (i : Nat) (x : Str) (d : D) (own : Bool), N[i]? = some x → ρ[i]? = some (some (d, own)) → d.hasDict = false → gvis cenv.scope x = true →
    ∃ u as, Reads s.heap u d as ∧ ((cenv.kindOf x = some .local ∧ ∃ m, s.heap.Ns cenv.locals m ∧ m x = some u) ∨ (cenv.kindOf x = some .free ∧ ∃ c, cenv.cells.lookup x = some c ∧ s.heap.IsCell c (some u)))
theorem reads_get {h : Heap} : ∀ {us : List Value} {ds : List D} {as : List Addr} {i : Nat} {d : D}, ReadsAll h us ds as → ds[i]? = some d → ∃ u bs, us[i]? = some u ∧ Reads h u d bs
  | _, _, _, _, _, .nil, e => by simp at e
  | _, _, _, 0, _, .cons r _, e => by simp at e; subst e; exact ⟨_, _, rfl, r⟩
  | _, _, _, i + 1, _, .cons _ t, e => by
    obtain ⟨u, bs, h1, h2⟩ := reads_get (i := i) t (by simpa using e)
    exact ⟨u, bs, by simpa using h1, h2⟩
theorem reads_len {h : Heap} : ∀ {us : List Value} {ds : List D} {as : List Addr}, ReadsAll h us ds as → us.length = ds.length
  | _, _, _, .nil => rfl
  | _, _, _, .cons _ t => by rw [List.length_cons, List.length_cons, reads_len t]
theorem plainIx_of {b : Expr} (h : ∀ l u st p, b ≠ .Slice l u st p) : PlainIx b := by
  cases b <;> first | (intro _ _; rfl) | exact (h _ _ _ _ rfl).elim
theorem rd_ok (R : Rdy cenv N ρ s) : ∀ (n : Nat) {e : Expr} {re : RE} {d : D}, cRE N cenv.scope n e = some re → rdE ρ re = some d →
    ∃ u as, Reads s.heap u d as ∧ ∀ (A : Around) (E : Value → Shared → Prop) (Q : Value → Shared → Prop), A.units + 80 < cLine → Q u s → wpAny (model prog w) A (eval e cenv) Q E s
  | 0, _, _, _, h, _ => nomatch h
  | n + 1, e, re, d, h, hd => by
    simp only [cRE] at h
    split at h
    · -- a name
      rename_i x p
      split at h
      · rename_i i hg hs
        cases h
        simp only [rdE] at hd
        split at hd
        · rename_i d' own er
          split at hd
          · cases hd
          rename_i nd
          cases hd
          obtain ⟨u, as, r, lk⟩ := R.at_ i x _ own (slotN_ok hs) er (by simpa using nd) hg
          refine ⟨u, as, r, fun A E Q _ q => ?_⟩
          have hg' := hg
          unfold gvis at hg'
          simp only [Bool.and_eq_true, Bool.not_eq_true'] at hg'
          rcases lk with ⟨k, m, hn, hm⟩ | ⟨k, c, hc, hv⟩
          · exact wpAny_Name (wpAny_loadName_local R.kind k hn hm q) hg'.1.2
          · exact wpAny_Name (wpAny_loadName_free R.kind k hc hv q hg'.2) hg'.1.2
        · cases hd
      · cases h
    · cases h
    · rename_i a b p hsl
      split at h
      · rename_i ra rb e1 e2
        cases h
        simp only [rdE] at hd
        split at hd
        · rename_i x y f1 f2
          obtain ⟨ux, as, r1, w1⟩ := rd_ok R n e1 f1
          obtain ⟨uy, bs, r2, w2⟩ := rd_ok R n e2 f2
          unfold rdI at hd
          have plain : PlainIx b := plainIx_of fun l u st q e => by subst e; exact hsl l u st q rfl
          split at hd
          · rename_i xs i
            split at hd
            rotate_left
            · cases hd
            rename_i hsl
            cases r1 with
            | list h1 h2 h3 h4 =>
              cases r2
              obtain ⟨j, g1, g2, g3, g4, g5⟩ := atI_get hd
              obtain ⟨u, cs, g6, g7⟩ := reads_get h4 g2
              have hl := reads_len h4
              rename_i a' o vs m as' t
              have il : s.heap.IsList a' vs := ⟨_, h1, h2, _, h3⟩
              refine ⟨u, cs, g7, fun A E Q hu q => Subscript_ (w1 A _ _ hu (w2 A _ _ hu ?_))⟩
              have hn := line63
              by_cases h0 : 0 ≤ i
              · have hj : i.toNat = j := by
                  rw [seqIndex_of h0 g5] at g1
                  exact Option.some.inj g1
                exact item_listR il h0 (by omega) (by rw [hj]; simpa using g6) q (plain _ _)
              · have hj : (i + (vs.size : Int)).toNat = j := by
                  rw [seqIndex_neg (by omega) g4] at g1
                  have : vs.size = xs.length := by simpa using hl
                  rw [this]
                  exact Option.some.inj g1
                have hsz : vs.size = xs.length := by simpa using hl
                exact subscriptTail_builtinR (x := u) il.typeIs slot_list_getitem.lookup
                  (wpAny_getItem_list_neg (Q := fun r s' => r = u ∧ Q r s') il (by omega) (by rw [hsz]; omega) (by omega) (by rw [hj]; simpa using g6) ⟨rfl, q⟩) (plain _ _)
          · rename_i xs i
            split at hd
            rotate_left
            · cases hd
            rename_i hsl
            cases r1 with
            | tuple h1 h2 h3 h4 =>
              cases r2
              obtain ⟨j, g1, g2, g3, g4, g5⟩ := atI_get hd
              obtain ⟨u, cs, g6, g7⟩ := reads_get h4 g2
              have hl := reads_len h4
              rename_i a' o vs m t
              have it : IsTup s.heap a' vs := ⟨_, h1, h2, _, h3⟩
              refine ⟨u, cs, g7, fun A E Q hu q => Subscript_ (w1 A _ _ hu (w2 A _ _ hu ?_))⟩
              have hn := line63
              have hsz : vs.size = xs.length := by simpa using hl
              exact subscriptTail_builtinR (x := u) it.typeIs slot_tuple_getitem.lookup
                (getItem_tuple (j := j) (Q := fun r s' => r = u ∧ Q r s') it (by omega) (by omega) (by rw [hsz]; exact g1) (by simpa using g6) ⟨rfl, q⟩) (plain _ _)
          · cases hd
        · cases hd
      · cases h
    · rename_i a op b' p
      split at h
      · rename_i ra rb hm e1 e2
        cases h
        simp only [rdE] at hd
        split at hd
        · rename_i x y f1 f2
          obtain ⟨ux, as, r1, w1⟩ := rd_ok R n e1 f1
          obtain ⟨uy, bs, r2, w2⟩ := rd_ok R n e2 f2
          have fin : ∀ b : Bool, d = .bool b → (∀ (A : Around) (E : Value → Shared → Prop) (Q : Value → Shared → Prop), A.units + 80 < cLine → Q (.bool b) s → wpAny (model prog w) A (compareOp op ux uy) Q E s) →
              ∃ u as, Reads s.heap u d as ∧ ∀ (A : Around) (E : Value → Shared → Prop) (Q : Value → Shared → Prop), A.units + 80 < cLine → Q u s → wpAny (model prog w) A (eval (.Compare a [op] [b'] p) cenv) Q E s := fun b ed k => by
            subst ed
            exact ⟨_, _, Reads.bool b, fun A E Q hu q => wpAny_Compare1 (w1 A _ _ hu (w2 A _ _ hu (k A E Q hu q))) hm⟩
          unfold rdC at hd
          split at hd
          · split at hd
            · rename_i c
              exact fin _ (Option.some.inj hd).symm fun A E Q hu q => SeqAt.compareEq_shaped r1 r2 c.1 c.2 (by omega) q
            · cases hd
          · split at hd
            · rename_i c
              exact fin _ (Option.some.inj hd).symm fun A E Q hu q => SeqAt.compareNe_shaped r1 r2 c.1 c.2 (by omega) q
            · cases hd
          · split at hd
            · rename_i ds
              obtain ⟨z, z1, z2⟩ := Option.map_eq_some_iff.mp hd
              simp only [inF] at z1
              split at z1
              · rename_i c
                cases z1
                refine fin _ z2.symm fun A E Q hu q => SeqAt.in_list_reads r2 r1 (SeqAt.canLay_of_shaped c.2) (SeqAt.canLay_of_shaped c.1) (room_in_shaped c.1 (by omega)) ?_
                rw [xor_f] at q
                exact q
              · cases z1
            · rename_i ds
              obtain ⟨z, z1, z2⟩ := Option.map_eq_some_iff.mp hd
              simp only [inF] at z1
              split at z1
              · rename_i c
                cases z1
                refine fin _ z2.symm fun A E Q hu q => SeqAt.in_tuple_reads r2 r1 (SeqAt.canLay_of_shaped c.2) (SeqAt.canLay_of_shaped c.1) (room_in_shaped c.1 (by omega)) ?_
                rw [xor_f] at q
                exact q
              · cases z1
            · cases hd
          · cases hd
        · cases hd
      · cases h
    · rename_i a b p
      split at h
      · rename_i ra rb e1 e2
        cases h
        simp only [rdE] at hd
        split at hd
        · rename_i f1
          cases hd
          obtain ⟨ux, as, r1, w1⟩ := rd_ok R n e1 f1
          cases r1
          exact ⟨_, _, Reads.bool true, fun A E Q hu q => BoolOp_or (w1 A _ _ hu (wpAny_truthy_bool q))⟩
        · rename_i f1
          obtain ⟨ux, as, r1, w1⟩ := rd_ok R n e1 f1
          obtain ⟨uy, bs, r2, w2⟩ := rd_ok R n e2 hd
          cases r1
          exact ⟨uy, bs, r2, fun A E Q hu q => BoolOp_or (w1 A _ _ hu (wpAny_truthy_bool (BoolOp_one (w2 A _ _ hu q))))⟩
        · cases hd
      · cases h
    · cases h
end
end Mv
namespace Mv
open PySem PySem.Spec L2
open PyProof.Rows hiding St
open GxR (TabB TabG)

section
variable {prog : Program} {w : World} {A : Around} {E : Value → Shared → Prop} {s : Shared}
theorem ownedT {elts : List Expr} {x1 : Nat} {pos : Pos} {I l T : Addr} {i : Nat} {Q : Unit → Shared → Prop} (hit : s.heap.IsTupleIter I l i) (hQ : Q () s) :
    wpAny (model prog w) A (letOwnedTupleGo (.Tuple elts x1 pos) (.ref I) (.ref T)) Q E s := by
  obtain ⟨o, ho, hc, hd⟩ := hit
  unfold letOwnedTupleGo
  refine wpAny_bind (wpAny_load ho ?_)
  rw [hc, hd]
  show wpAny _ A (if (["enumerate", "zip", "dict_itemiterator", "dict_reverseitemiterator", "odict_iterator", "itertools.zip_longest", "itertools.pairwise"].contains "tuple_iterator" && (#[.ref l, .int i 0] : Array Value)[0]? == some (rawInt T)) = true then _ else _) Q E s
  rw [show (["enumerate", "zip", "dict_itemiterator", "dict_reverseitemiterator", "odict_iterator", "itertools.zip_longest", "itertools.pairwise"].contains "tuple_iterator") = false from by decide, Bool.false_and, if_neg Bool.false_ne_true]
  exact wpAny_pure hQ
end
/-- tuples (or a list) of tuples, walked -/
theorem walksTT {prog : Program} {w : World} {A : Around} (hh : A.handled = none) (I ax : Addr) (hne : ax ≠ I) (items : Array Value) (Ts : Nat → Addr) (vals : Nat → Array Value) (hit : ∀ j, j < items.size → items[j]? = some (.ref (Ts j))) (hTI : ∀ j, j < items.size → Ts j ≠ I) :
    WalksU prog w A I (I :: ax :: (List.range items.size).map Ts) [I] items.size (fun j v => v = vals j)
      (fun j h => h.IsTupleIter I ax j ∧ h.IsTuple ax items ∧ ∀ k, k < items.size → h.IsTuple (Ts k) (vals k))
      (fun j T h => (j < items.size ∧ T = Ts j) ∧ h.IsTupleIter I ax (j + 1) ∧ h.IsTuple ax items ∧ ∀ k, k < items.size → h.IsTuple (Ts k) (vals k)) where
  sub := fun b hb => by rw [List.mem_singleton.mp hb]; exact List.mem_cons_self
  frame := fun _ _ _ ⟨s1, s2, s3⟩ hk => ⟨s1.at fun o e => hk I List.mem_cons_self o e, s2.at fun o e => hk ax (.tail _ List.mem_cons_self) o e,
    fun k hk' => (s3 k hk').at fun o e => hk (Ts k) (.tail _ (.tail _ (List.mem_map.mpr ⟨k, List.mem_range.mpr hk', rfl⟩))) o e⟩
  item := fun i s Q E hi ⟨s1, s2, s3⟩ hQ => by
    refine wpAny_pyNext_tuple_item s1 s2 (x := .ref (Ts i)) (hit i hi) fun h' i1 sb => ?_
    have ts : ∀ k, k < items.size → h'.IsTuple (Ts k) (vals k) := fun k hk' => (s3 k hk').extBut sb.extBut (hTI k hk')
    exact hQ (Ts i) (vals i) h' s.toks rfl (ts i hi) ⟨⟨hi, rfl⟩, i1, s2.extBut sb.extBut hne, ts⟩ fun b o hb e => sb.extBut b o (fun z => hb (by rw [z]; exact List.mem_singleton.mpr rfl)) e
  go := fun _ _ _ _ _ s Q _ hm hQ => ownedT hm.2.1 (hQ s.heap hm.2 fun _ _ _ e => e)
  apart := fun j T _ hm z => hTI j hm.1.1 (by rw [← hm.1.2]; exact List.mem_singleton.mp z)
  done := fun s Q E ⟨s1, s2, _⟩ hQ => wpAny_pyNext_tuple_end hh s1 s2 (by simp) fun h' he' => hQ h' s.toks fun b o hb e => he' b o (fun z => hb (by rw [z]; exact List.mem_singleton.mpr rfl)) e
  self := fun _ _ _ _ ⟨s1, _⟩ hQ => wpAny_pyIter_tupleiter s1 hQ

section
variable {h h' : Heap} {P : Addr}
mutual
theorem readsBut (hP : ∀ o, h.get? P = some o → ∃ vs, o.data = .fields vs) (k : ∀ b o, b ≠ P → h.get? b = some o → h'.get? b = some o) : ∀ {v : Value} {d : PyData} {as : List Addr}, Reads h v d as → Reads h' v d as
  | _, _, _, .none => .none
  | _, _, _, .bool b => .bool b
  | _, _, _, .int i t => .int i t
  | _, _, _, .str x t => .str x t
  | _, _, _, .list (a := a) h1 h2 h3 h4 => .list (k _ _ (fun z => by subst z; obtain ⟨vs, e⟩ := hP _ h1; rw [e] at h3; cases h3) h1) h2 h3 (readsAllBut hP k h4)
  | _, _, _, .tuple h1 h2 h3 h4 => .tuple (k _ _ (fun z => by subst z; obtain ⟨vs, e⟩ := hP _ h1; rw [e] at h3; cases h3) h1) h2 h3 (readsAllBut hP k h4)
  | _, _, _, .dict h1 h2 h3 h4 h5 => .dict (k _ _ (fun z => by subst z; obtain ⟨vs, e⟩ := hP _ h1; rw [e] at h3; cases h3) h1) h2 h3 (readsAllBut hP k h4) (readsAllBut hP k h5)
theorem readsAllBut (hP : ∀ o, h.get? P = some o → ∃ vs, o.data = .fields vs) (k : ∀ b o, b ≠ P → h.get? b = some o → h'.get? b = some o) : ∀ {v : List Value} {d : List PyData} {as : List Addr}, ReadsAll h v d as → ReadsAll h' v d as
  | _, _, _, .nil => .nil
  | _, _, _, .cons h1 h2 => .cons (readsBut hP k h1) (readsAllBut hP k h2)
end
end
/-- the generator expression's scope, beside the maker's -/
def genSB (sc scope : Scope) (tgs : List Str) : Bool :=
  decide (scope.kind = .function) && !scope.isCoroutine && decide (scope.names.lookup (".0" : Str) = some .local) && (tgs.all fun x => decide (scope.names.lookup x = some .local)) &&
    (scope.names.all fun y => !decide (y.2 = .cell) && (!decide (y.2 = .local) || decide (y.1 = (".0" : Str)) || tgs.contains y.1) && (!decide (y.2 = .free) || decide (sc.names.lookup y.1 = some .cell) || decide (sc.names.lookup y.1 = some .free)))
structure GenSc (sc scope : Scope) (tgs : List Str) : Prop where
  kind : scope.kind = .function
  co : scope.isCoroutine = false
  dot : scope.names.lookup (".0" : Str) = some .local
  tg : ∀ x ∈ tgs, scope.names.lookup x = some .local
  cell : ∀ y ∈ scope.names, y.2 ≠ .cell
  loc : ∀ y ∈ scope.names, y.2 = .local → y.1 = (".0" : Str) ∨ y.1 ∈ tgs
  free : ∀ y ∈ scope.names, y.2 = .free → sc.names.lookup y.1 = some .cell ∨ sc.names.lookup y.1 = some .free
theorem genSB_ok {sc scope : Scope} {tgs : List Str} (h : genSB sc scope tgs = true) : GenSc sc scope tgs := by
  unfold genSB at h
  simp only [Bool.and_eq_true, Bool.or_eq_true, Bool.not_eq_true', decide_eq_true_eq, decide_eq_false_iff_not, List.all_eq_true, List.contains_iff_mem] at h
  obtain ⟨⟨⟨⟨h1, h2⟩, h3⟩, h4⟩, h5⟩ := h
  refine ⟨h1, h2, h3, h4, fun y hy => (h5 y hy).1.1, fun y hy e => ?_, fun y hy e => ?_⟩
  · rcases (h5 y hy).1.2 with (z | z) | z
    · exact absurd e z
    · exact .inl z
    · exact .inr z
  · rcases (h5 y hy).2 with (z | z) | z
    · exact absurd e z
    · exact .inl z
    · exact .inr z
section
variable {X : Cx} {pins : List (Addr × Obj)} {σ : L2.St} {H : Hp} {s : Shared}
theorem GenSc.has {sc scope : Scope} {tgs : List Str} (g : GenSc sc scope tgs) (ok : X.Ok) (e : X.env.scope = sc) : ∀ y ∈ scope.names, y.2 = .free → ∃ c, X.env.cells.lookup y.1 = some c := fun y hy z => by
  rcases g.free y hy z with k | k
  · exact ok.has _ (.inl (by show X.env.scope.names.lookup y.1 = _; rw [e]; exact k))
  · exact ok.has _ (.inr (by show X.env.scope.names.lookup y.1 = _; rw [e]; exact k))
/-- the walked thing, a tuple or a list, its iterator new -/
structure Src (prog : Program) (w : World) (u : Value) (ax : Addr) (items : Array Value) (hp : Heap) (o : Obj) : Prop where
  lt : ax < hp.objs.size
  iter : ∀ (A : Around) (E : Value → Shared → Prop) (Q : Value → Shared → Prop) (s : Shared), s.heap = hp → Q (.ref hp.objs.size) { s with heap := hp.push o } → wpAny (model prog w) A (pyIter u) Q E s
  /-- item by item -/
  one : ∃ St : Nat → Heap → Prop, St 0 (hp.push o) ∧ ∀ A' : Around, A'.handled = none → Walks prog w A' hp.objs.size [hp.objs.size, ax] [hp.objs.size] items.size (fun i v => items[i]? = some v) St
  /-- pair by pair -/
  two : ∀ (Ts : Nat → Addr) (vals : Nat → Array Value), (∀ j, j < items.size → items[j]? = some (.ref (Ts j))) → (∀ k, k < items.size → hp.IsTuple (Ts k) (vals k)) →
    ∃ (St : Nat → Heap → Prop) (Mid : Nat → Addr → Heap → Prop), St 0 (hp.push o) ∧ ∀ A' : Around, A'.handled = none → WalksU prog w A' hp.objs.size (hp.objs.size :: ax :: (List.range items.size).map Ts) [hp.objs.size] items.size (fun j v => v = vals j) St Mid
theorem src_tuple {prog : Program} {w : World} {ax : Addr} {items : Array Value} {hp : Heap} (t : hp.IsTuple ax items) : Src prog w (.ref ax) ax items hp { cls := .type "tuple_iterator", data := .fields #[.ref ax, .int 0 0] } := by
  have lt : ax < hp.objs.size := let ⟨_, e, _⟩ := t; Heap.lt_size e
  have ne : ax ≠ hp.objs.size := Nat.ne_of_lt lt
  have it : (hp.push { cls := .type "tuple_iterator", data := .fields #[.ref ax, .int 0 0] }).IsTupleIter hp.objs.size ax 0 := ⟨_, Heap.get?_push_size _ rfl, rfl, rfl⟩
  have up : ∀ {b o}, hp.get? b = some o → (hp.push { cls := .type "tuple_iterator", data := .fields #[.ref ax, .int 0 0] }).get? b = some o := fun e => Heap.get?_push_of_some _ e
  refine ⟨lt, fun A E Q s e q => ?_, ⟨_, ⟨it, t.at fun o e => up e⟩, fun A' hA => Walks.tuple hA _ _ ne _⟩, fun Ts vals h1 h2 => ⟨_, _, ⟨it, t.at fun o e => up e, fun k hk => (h2 k hk).at fun o e => up e⟩, fun A' hA => walksTT hA _ _ ne _ Ts vals h1 fun j hj => ?_⟩⟩
  · subst e
    exact wpAny_pyIter_tuple t q
  · obtain ⟨_, e, _⟩ := h2 j hj
    exact Nat.ne_of_lt (Heap.lt_size e)
theorem src_list {prog : Program} {w : World} {ax : Addr} {items : Array Value} {hp : Heap} (t : hp.IsList ax items) : Src prog w (.ref ax) ax items hp { cls := .type "list_iterator", data := .fields #[.ref ax, .int 0 0] } := by
  have lt : ax < hp.objs.size := let ⟨_, e, _⟩ := t; Heap.lt_size e
  have ne : ax ≠ hp.objs.size := Nat.ne_of_lt lt
  have it : (hp.push { cls := .type "list_iterator", data := .fields #[.ref ax, .int 0 0] }).IsListIter hp.objs.size ax 0 := ⟨_, Heap.get?_push_size _ rfl, rfl, rfl⟩
  have up : ∀ {b o}, hp.get? b = some o → (hp.push { cls := .type "list_iterator", data := .fields #[.ref ax, .int 0 0] }).get? b = some o := fun e => Heap.get?_push_of_some _ e
  refine ⟨lt, fun A E Q s e q => ?_, ⟨_, ⟨it, t.at fun o e => up e⟩, fun A' hA => Walks.list hA _ _ ne _⟩, fun Ts vals h1 h2 => ⟨_, _, ⟨it, t.at fun o e => up e, fun k hk => (h2 k hk).at fun o e => up e⟩, fun A' hA => WalksU.listOfTuples hA _ _ ne _ Ts vals h1 fun j hj => ?_⟩⟩
  · subst e
    exact wpAny_pyIter_list t q
  · obtain ⟨_, e, _⟩ := h2 j hj
    exact Nat.ne_of_lt (Heap.lt_size e)
end
end Mv
namespace Mv
open PySem PySem.Spec L2
open PyProof.Rows hiding St
open GxR (TabB TabG)

theorem clo_lookup {cells : List (Str × Addr)} {names : List (Str × NameKind)} {x : Str} {c : Addr} (h : names.lookup x = some .free) (hc : cells.lookup x = some c) : (cloFrom cells names []).lookup x = some c := by
  have hm := PySem.mem_of_lookup h
  obtain ⟨c', e⟩ := mem_lookup (cloFrom_has (cells := cells) (acc := []) hm)
  rcases cloFrom_mem (PySem.mem_of_lookup e) with z | ⟨_, z⟩
  · cases z
  · rw [e, z, hc]; rfl

section
variable [G : Glo]
section
variable {K : PySem.W.Frag} {Z : Zt} {H : Hp} {ρ : En} {σ : L2.St} {P : Addr} {ps more : Array Value}
theorem ext_tab (hP : H P = some (.tbl ps)) (ht : TriplesOk (ps ++ more).toList) (hu : ∀ q, G.T P q → q = none) (hz : ∀ a, Z a → ∃ o, H a = some o ∧ ∀ ps, o ≠ .tbl ps) : Ext Z H Z (upd H P (.tbl (ps ++ more))) := by
  have at_ : ∀ b o, H b = some o → (∀ q, o ≠ .tbl q) → upd H P (.tbl (ps ++ more)) b = some o := fun b o e n => by
    rw [upd_ne (fun z => ?_)]
    · exact e
    · rw [z, hP] at e
      exact n ps (Option.some.inj e).symm
  refine ⟨fun _ h => h, fun a o z e => ?_, fun a xs e => at_ _ _ e (fun _ q => nomatch q), fun a o u e => at_ _ _ e (fun _ q => nomatch q), fun tb P' q hq => ?_, fun a φ e => at_ _ _ e fun _ q => nomatch q⟩
  · obtain ⟨u, e1, n⟩ := hz a z
    rw [e] at e1; cases e1
    exact at_ _ _ e n
  · by_cases hb : P' = P
    · subst hb
      cases hu _ hq
      exact ⟨_, upd_same, ht⟩
    · have t := tb P' q hq
      cases q with
      | none =>
        obtain ⟨p2, h1, h2⟩ := t
        exact ⟨p2, by rw [upd_ne hb]; exact h1, h2⟩
      | some q =>
        obtain ⟨p2, h1, h2, h3⟩ := t
        refine ⟨p2, by rw [upd_ne hb]; exact h1, h2, fun pos cv hc => ?_⟩
        obtain ⟨c, e1, e2⟩ := h3 pos cv hc
        exact ⟨c, e1, at_ _ _ e2 fun _ q => nomatch q⟩
theorem aft_tab (R : Rel K ρ σ H Z) (hP : H P = some (.tbl ps)) (ht : TriplesOk (ps ++ more).toList) (hu : ∀ q, G.T P q → q = none) : Aft K ρ σ H Z ρ σ (upd H P (.tbl (ps ++ more))) Z := by
  have x := ext_tab (more := more) hP ht hu R.zt
  have at_ : ∀ b o, H b = some o → (∀ q, o ≠ .tbl q) → upd H P (.tbl (ps ++ more)) b = some o := fun b o e n => by
    rw [upd_ne (fun z => ?_)]
    · exact e
    · rw [z, hP] at e
      exact n ps (Option.some.inj e).symm
  refine ⟨⟨R.ge.ext x, R.len, fun a z => ?_, fun i d own h => ?_, R.sep⟩, fun _ h => h, fun a o h n _ => at_ a o h n, fun a p2 h => ?_, fun _ h => .inl h, fun _ h => .inl h⟩
  · obtain ⟨o, e, n⟩ := R.zt a z
    exact ⟨o, at_ _ _ e n, n⟩
  · obtain ⟨v, h1, h2⟩ := R.has i d own h
    refine ⟨v, h1, ?_⟩
    cases own with
    | false => exact Has.ext x h2
    | true =>
      have h2' : Ow K Z H v d := h2
      exact (Ow.stay x h2' (fun a o _ e n => at_ a o e n) (fun a e => by
        obtain ⟨b, _, e1, nz, _⟩ := h2'.ref
        rw [e] at e1; cases e1
        exact nz) : Ow K Z _ v d)
  · by_cases hb : a = P
    · subst hb
      exact ⟨_, upd_same⟩
    · exact ⟨p2, by rw [upd_ne hb]; exact h⟩
end
section
variable {X : Cx} {pins : List (Addr × Obj)} {σ : L2.St} {H H1 : Hp} {s s1 : Shared} {Z : Zt} {ρ : En} {P : Addr} {ps : Array Value}
theorem tab_fields (I : Inv X pins σ H s) (hP : H P = some (.tbl ps)) : ∀ o, s.heap.get? P = some o → ∃ vs, o.data = .fields vs := fun o e => by
  have := I.hok P _ hP
  rw [show s.heap.get? P = _ from this] at e
  cases e
  exact ⟨_, rfl⟩
/-- a captured slot, at the element's state -/
theorem rdy_free {scope : Scope} {tgs : List Str} {cenv : Env} {h2 : Heap} (I : Inv X pins σ H s) (R : Rel X.K ρ σ H Z) (g : GenSc X.env.scope scope tgs) (e1 : cenv.scope = scope) (e2 : cenv.cells = cloFrom X.env.cells scope.names [])
    (hP : H P = some (.tbl ps)) (k : ∀ b o, b ≠ P → s.heap.get? b = some o → h2.get? b = some o)
    {i : Nat} {x : Str} {d : D} {own : Bool} (hN : X.N[i]? = some x) (hr : ρ[i]? = some (some (d, own))) (nd : d.hasDict = false) (hv : gvis scope x = true) (nt : x ∉ tgs) :
    ∃ u as, Reads h2 u d as ∧ cenv.kindOf x = some .free ∧ ∃ c, cenv.cells.lookup x = some c ∧ h2.IsCell c (some u) := by
  obtain ⟨v, h1, hh⟩ := R.has i d own hr
  have hf : scope.names.lookup x = some .free := by
    unfold gvis at hv
    simp only [Bool.and_eq_true, Bool.not_eq_true'] at hv
    have hv1 := hv.1.1.1
    split at hv1
    · rename_i e
      rcases g.loc _ (PySem.mem_of_lookup e) rfl with z | z
      · have z : x = (".0" : Str) := z
        rw [z] at hv
        have := hv.1.1.2
        exact absurd this (by decide)
      · exact absurd z nt
    · assumption
    · cases hv1
  have hk : X.env.kindOf x = some .cell ∨ X.env.kindOf x = some .free := g.free _ (PySem.mem_of_lookup hf) rfl
  obtain ⟨m, hn, hl⟩ := I.loc
  obtain ⟨u, ru, lk⟩ := hl i x v hN h1 (hk.elim (fun z => .inr (.inl z)) fun z => .inr (.inr z))
  obtain ⟨as, rd⟩ := Dp.reads I d v u (Has.dp nd hh) ru
  rcases lk with ⟨z, _⟩ | ⟨_, c, hc, o, ho, hd⟩
  · rcases hk with q | q <;> rw [z] at q <;> cases q
  · refine ⟨u, as, readsBut (tab_fields I hP) k rd, by rw [Env.kindOf, e1]; exact hf, c, by rw [e2]; exact clo_lookup hf hc, o, k _ _ (fun z => ?_) ho, hd⟩
    subst z
    obtain ⟨vs, q⟩ := tab_fields I hP _ ho
    rw [hd] at q; cases q
/-- what is walked -/
theorem src_of {v : V} {u : Value} {d : D} {xs : List D} (I : Inv X pins σ H s) (r : RelV v u) (h : Sh X.K Z H v d) (hd : d = .list xs ∨ d = .tuple xs) :
    ∃ ax its vs o, u = .ref ax ∧ Src X.prog X.w u ax its s.heap o ∧ Vals vs its.toList ∧ ShL X.K Z H vs xs := by
  rcases hd with rfl | rfl
  · obtain ⟨a, vs, rfl, sq, n, l⟩ := has_listX (o := false) h
    obtain ⟨its, m, r2, e⟩ := sq.obj I
    cases r
    exact ⟨a, its.toArray, vs, _, rfl, src_list ⟨_, e, rfl, _, rfl⟩, by simpa using r2, l⟩
  · obtain ⟨a, vs, rfl, sq, n, l⟩ := has_tuple (o := false) h
    obtain ⟨its, r2, t, _⟩ := I.tuple sq
    cases r
    exact ⟨a, its.toArray, vs, _, rfl, src_tuple t, by simpa using r2, l⟩
/-- behind the making of the code object -/
theorem tab_step {c : Addr} {gpos : Pos} {scope : Scope} {qn : Str} {E : Value → Shared → Prop} {KK : Value → Addr → Shared → Prop} (TB : TabB X.base X.mg c P) (hcode : X.env.code = .ref c) (I1 : Inv X pins σ H1 s1) (hP : H1 P = some (.tbl ps)) (ht : TriplesOk ps.toList) (o : Obj)
    (q : ∀ code h3 tk more bi, Heap.ExtBut P (s1.heap.push o) h3 → (s1.heap.push o).objs.size ≤ h3.objs.size → h3.get? P = some { cls := .none, data := .fields (ps ++ more) } → TriplesOk (ps ++ more).toList → h3.NoLimit → KK code bi { s1 with heap := h3, toks := tk }) :
    (s1.heap.push o).NoLimit ∧ wpAny (model X.prog X.w) X.A (genexprCode X.env gpos qn scope) (fun code s₃ => wpAny (model X.prog X.w) X.A (builtinsFor X.env.globals X.env.builtins) (fun bi s₄ => KK code bi s₄) E s₃) E { s1 with heap := s1.heap.push o } := by
  have hPs : s1.heap.get? P = some { cls := .none, data := .fields ps } := I1.hok P _ hP
  have hP2 : (s1.heap.push o).get? P = some { cls := .none, data := .fields ps } := Heap.get?_push_of_some _ hPs
  have cd : PySem.W.CodeHd (s1.heap.push o) c P := TB.code.keeps fun b u e => Heap.get?_push_of_some _ (I1.bk b u e)
  have lim2 : (s1.heap.push o).NoLimit := I1.nolimit.push o
  have hcP : cStatics ≠ P := fun e => by
    obtain ⟨_, hns, _⟩ := I1.nolimit
    obtain ⟨o', es, ep, ho, hd, _⟩ := hns
    rw [e, hPs] at ho
    cases ho
    cases hd
  have cont : ∀ (code : Value) (h3 : Heap) (tk : Nat) (more : Array Value), Heap.ExtBut P (s1.heap.push o) h3 → (s1.heap.push o).objs.size ≤ h3.objs.size → h3.get? P = some { cls := .none, data := .fields (ps ++ more) } → TriplesOk (ps ++ more).toList →
      wpAny (model X.prog X.w) X.A (builtinsFor X.env.globals X.env.builtins) (fun bi s₄ => KK code bi s₄) E { s1 with heap := h3, toks := tk } := by
    intro code h3 tk more hx hsz hP3 ht3
    obtain ⟨bm, ob, e1, e2, e3, e4, e5, e6, e7, e8⟩ := TB.bm
    have keep3 : ∀ b u, b ≠ P → s1.heap.get? b = some u → h3.get? b = some u := fun b u hb e => hx b u hb (Heap.get?_push_of_some _ e)
    refine wpAny_builtinsFor (m := X.mg) (by rw [I1.ok.glob]; exact ((I1.mod.glob.keeps I1.bk).push o).extBut hx TB.gP) e1 e2 (keep3 _ _ e4 (I1.bk _ _ e5)) e6 e7 e8 ?_
    exact q _ _ _ _ _ hx hsz hP3 ht3 (lim2.extBut hx hcP)
  refine ⟨lim2, ?_⟩
  cases hf : codeAmong gpos ps.toList with
  | none =>
    refine wpAny_genexprCodeX hcode (cd.code hP2 ht) (cd.tab hP2) hf fun c' h' tk hx hge hlt hco' _ htab' _ => ?_
    obtain ⟨o1, vs, f1, tf, fl, tg, inF, tx, tt, op, _, _, _, _, _, _, _, _, _, htr, _⟩ := hco'
    exact cont _ h' tk _ hx (Nat.le_trans hge (Nat.le_of_lt hlt)) htab'.2 htr
  | some cv =>
    refine wpAny_genexprCode_hit hcode (cd.code hP2 ht) hf ?_
    exact cont cv (s1.heap.push o) s1.toks #[] (Heap.ExtBut.refl _ _) (Nat.le_refl _) (by simpa using hP2) (by simpa using ht)
/-- behind the walk -/
theorem tab_end {h3 h5 : Heap} {more : Array Value} {gs : GenState} {tk5 : Nat} {s' : Shared} {n : Nat} (I1 : Inv X pins σ H1 s1) (hP : H1 P = some (.tbl ps)) (keep3 : ∀ b u, b ≠ P → s1.heap.get? b = some u → h3.get? b = some u) (hP3 : h3.get? P = some { cls := .none, data := .fields (ps ++ more) })
    (hsz : s1.heap.objs.size < h3.objs.size) (hgb : gs.bare = true) (hk5 : ∀ b o, h3.get? b = some o → h5.get? b = some o)
    (hm : Moved (h3.objs.size :: [s1.heap.objs.size]) (GenOnlyQ n) { s1 with heap := h5, gens := s1.gens.push gs, toks := tk5 } s') : Inv X pins σ (upd H1 P (.tbl (ps ++ more))) s' := by
  have hPs : s1.heap.get? P = some { cls := .none, data := .fields ps } := I1.hok P _ hP
  have nwr : ∀ b u, s1.heap.get? b = some u → b ∉ h3.objs.size :: [s1.heap.objs.size] := fun b u e hb => by
    have hl := Heap.lt_size e
    rcases List.mem_cons.mp hb with z | z
    · rw [z] at hl
      have h9 : (h3.objs.size : Nat) < s1.heap.objs.size := hl
      omega
    · rcases List.mem_cons.mp z with z | z
      · rw [z] at hl
        exact Nat.lt_irrefl _ hl
      · cases z
  have J := GxR.inv_tab (more := more) (h' := s'.heap) (g' := s'.gens) (d' := s'.drawn) (t' := s'.toks) I1 hP (fun b u hb e => hm.heap b u (nwr b u e) (hk5 b u (keep3 b u hb e)))
    (hm.heap P _ (nwr P _ hPs) (hk5 P _ hP3)) (AllBare.movedS (I1.bare.push hgb) hm)
  rw [GxR.sh_eta s1 s' hm.os] at J
  exact J
/-- the generator a, ready to be walked -/
def Ready2 (X : Cx) (pins : List (Addr × Obj)) (σ : L2.St) (H1 : Hp) (P : Addr) (ps : Array Value) (bs : List Bool) (a : Addr) (s5 : Shared) : Prop :=
  ∃ (fp wr : List Addr) (GG : Array GenState → Array GenState → Prop) (F : Nat → Value → Prop) (St : Nat → Shared → Prop),
    WalksS X.prog X.w X.A.in1 a fp wr GG bs.length F St ∧ St 0 s5 ∧ TruthOf X.prog X.w X.A.in1 F (fun j => bs.getD j false) ∧
    ∀ s', Moved wr GG s5 s' → ∃ more, TriplesOk (ps ++ more).toList ∧ Inv X pins σ (upd H1 P (.tbl (ps ++ more))) s'
/-- the truths, one by one -/
theorem genF_at {tg : Tg} {re : RE} {ρ : En} : ∀ {xs : List D} {bs : List Bool}, genF tg re ρ xs = some bs → bs.length = xs.length ∧ ∀ (i : Nat) (x : D), xs[i]? = some x → ∃ ρ1 b, setTg [] tg x false ρ = some ρ1 ∧ rdE ρ1 re = some (.bool b) ∧ bs[i]? = some b
  | [], bs, h => by
    simp only [genF] at h
    cases h
    exact ⟨rfl, fun i x e => by simp at e⟩
  | x :: xs, bs, h => by
    simp only [genF] at h
    split at h
    · cases h
    · rename_i ρ1 e1
      split at h
      · rename_i b bs' e2 e3
        cases h
        obtain ⟨hl, hi⟩ := genF_at e3
        refine ⟨by rw [List.length_cons, List.length_cons, hl], fun i y e => ?_⟩
        cases i with
        | zero =>
          simp only [List.getElem?_cons_zero, Option.some.injEq] at e
          subst e
          exact ⟨ρ1, b, e1, e2, rfl⟩
        | succ i =>
          simp only [List.getElem?_cons_succ] at e ⊢
          exact hi i y e
      · cases h
theorem vals_gen {bs : List Bool} {n : Nat} (h : n = bs.length) : (passing (fun _ => true) n 0).length = bs.length := by rw [GxR.passing_true, List.length_range, h]
end
end
end Mv
namespace Mv
open PySem PySem.Spec L2
open PyProof.Rows hiding St
open GxR (TabB TabG)

section
variable [G : Glo]
variable {X : Cx} {pins : List (Addr × Obj)} {σ : L2.St} {H H1 : Hp} {s s1 : Shared} {Z : Zt} {ρ : En} {P : Addr} {ps : Array Value}
theorem gvals_get {vs : List V} {us : List Value} {i : Nat} {u : Value} (r : Vals vs us) (h : us[i]? = some u) : ∃ v, vs[i]? = some v ∧ RelV v u := by
  have hl := r.length
  obtain ⟨hi, _⟩ := List.getElem?_eq_some_iff.mp h
  obtain ⟨u', h1, h2⟩ := r.get (List.getElem?_eq_getElem (l := vs) (i := i) (by omega))
  rw [h] at h1; cases h1
  exact ⟨_, List.getElem?_eq_getElem (by omega), h2⟩
/-- what the iterable gave -/
structure Got (X : Cx) (pins : List (Addr × Obj)) (σ : L2.St) (P : Addr) (tg : Tg) (re : RE) (Q' : Value → Shared → Prop) (u : Value) (s1 : Shared) (v : V) (H1 : Hp) (ρ2 : En) (Z2 : Zt) (d : D) (xs : List D) (ps : Array Value) (bs : List Bool) : Prop where
  inv : Inv X pins σ H1 s1
  rv : RelV v u
  rel : Rel X.K ρ2 σ H1 Z2
  sh : Sh X.K Z2 H1 v d
  dx : d = .list xs ∨ d = .tuple xs
  tP : H1 P = some (.tbl ps)
  tr : TriplesOk ps.toList
  gf : genF tg re ρ2 xs = some bs
  q : ∀ a s5, Ready2 X pins σ H1 P ps bs a s5 → Q' (.ref a) s5
theorem truth_of {bs : List Bool} {n : Nat} (hn : n = bs.length) {F : Nat → Value → Prop} (hF : ∀ i y, F i y → ∃ b, bs[i]? = some b ∧ y = .bool b) {prog : Program} {w : World} {A : Around} :
    TruthOf prog w A (fun j y => ∃ i, (passing (fun _ => true) n 0)[j]? = some i ∧ F i y) (fun j => bs.getD j false) := by
  intro j y sj Qj Ej ⟨i, hij, hf⟩ hQj
  obtain ⟨b, hb, rfl⟩ := hF i y hf
  rw [GxR.passing_true] at hij
  obtain ⟨hj, ej⟩ := List.getElem?_eq_some_iff.mp hij
  rw [List.getElem_range] at ej
  subst ej
  have hQ2 : Qj (bs.getD j false) sj := hQj
  rw [List.getD_eq_getElem?_getD, hb] at hQ2
  exact wpAny_truthy_bool hQ2
theorem gen_name {c : Addr} {elt iter : Expr} {x : Str} {px gpos : Pos} {scope : Scope} {j n k : Nat} {re : RE} {Q' : Value → Shared → Prop}
    (hr : L2H.RoomH k X.A) (hd : X.A.handled = none) (nd : X.N.Nodup) (g : GenSc X.env.scope scope [x]) (hN : X.N[j]? = some x) (he : cRE X.N scope n elt = some re) (hs : ∀ v, genFold iter X.env v = pure v) (TB : TabB X.base X.mg c P) (hcode : X.env.code = .ref c) (ok : X.Ok)
    (h : wpAny (model X.prog X.w) X.A (eval iter X.env) (fun u s1 => ∃ v H1 ρ2 Z2 d xs ps bs, Got X pins σ P (.name j) re Q' u s1 v H1 ρ2 Z2 d xs ps bs) X.xe s) :
    wpAny (model X.prog X.w) X.A (eval (.GeneratorExp elt [⟨.Name x px, iter, [], 0⟩] scope gpos) X.env) Q' X.xe s := by
  refine wpAny_GeneratorExp_walksQD hd g.co (closure_ok (g.has ok rfl)) g.cell g.dot (g.tg x (by simp)) g.kind (by have := hr.dp; omega) ?_ hs
  refine wpAny_mono h (fun u s1 ⟨v, H1, ρ2, Z2, d, xs, ps, bs, T⟩ => ?_) fun _ _ e => e
  have I1 := T.inv
  obtain ⟨ax, its, vs, o, rfl, S, r2, l⟩ := src_of I1 T.rv T.sh T.dx
  obtain ⟨hbl, hbi⟩ := genF_at T.gf
  have hlen : its.size = bs.length := by
    have := r2.length
    simp only [Array.length_toList] at this
    rw [hbl, ← l.length]; exact this.symm
  refine S.iter _ _ _ s1 rfl ?_
  refine tab_step TB hcode I1 T.tP T.tr o fun code h3 tk more bi hx hsz hP3 ht3 lim3 => ?_
  have hPs : s1.heap.get? P = some { cls := .none, data := .fields ps } := I1.hok P _ T.tP
  have hPlt : P < s1.heap.objs.size := Heap.lt_size hPs
  have sz2 : (s1.heap.push o).objs.size = s1.heap.objs.size + 1 := Heap.size_push ..
  have keep3 : ∀ b u, b ≠ P → s1.heap.get? b = some u → h3.get? b = some u := fun b u hb e => hx b u hb (Heap.get?_push_of_some _ e)
  obtain ⟨St, hst, W⟩ := S.one
  have axne : ax ≠ P := fun z => by
    rcases T.dx with e | e
    · subst e
      obtain ⟨a, _, rfl, sq, _, _⟩ := has_listX (o := false) T.sh
      have rv := T.rv
      cases rv
      obtain ⟨_, _, _, e⟩ := sq.obj I1
      rw [z, hPs] at e; cases e
    · subst e
      obtain ⟨a, _, rfl, sq, _, _⟩ := has_tuple (o := false) T.sh
      have rv := T.rv
      cases rv
      obtain ⟨_, _, ⟨_, e, e2, _⟩, _⟩ := I1.tuple sq
      rw [z, hPs] at e; cases e; cases e2
  have hst3 : St 0 h3 := (W X.A hd).frame _ _ _ hst fun b hb u e => hx b u (fun z => by
    rcases List.mem_cons.mp hb with z2 | z2
    · exact Nat.ne_of_lt hPlt (z.symm.trans z2)
    · rcases List.mem_cons.mp z2 with z2 | z2
      · exact axne (z2.symm.trans z)
      · cases z2) e
  have hcl : cStatics < s1.heap.objs.size := let ⟨_, hns, _⟩ := I1.nolimit; hns.lt
  have hszlt : s1.heap.objs.size < h3.objs.size := by omega
  refine ⟨s1.heap.objs.size, _, [s1.heap.objs.size], its.size, _, St, (fun _ => true), (fun i y => ∃ b, bs[i]? = some b ∧ y = .bool b), rfl, W, hst3, ?_, lim3, ?_, ?_, ?_⟩
  · intro b hb
    rcases List.mem_cons.mp hb with z | z
    · rw [z]; exact hszlt
    · rcases List.mem_cons.mp z with z | z
      · rw [z]; exact Nat.lt_trans S.lt hszlt
      · cases z
  · intro z
    rcases List.mem_cons.mp z with z | z
    · exact Nat.ne_of_lt hcl z
    · cases z
  · intro href hhref
    refine ⟨fun A' E' i v s₂ m₂ hA _ _ hPv hn hm hk => ?_, fun A' E' i y s₂ m₂ hA _ hAu hPv hp hn hm hk => ?_⟩
    · simp only [List.forIn_nil]
      exact wpAny_pure ⟨rfl, GxR.keeps_refl _⟩
    · have hPv : its[i]? = some y := hPv
      obtain ⟨v', hv', rv'⟩ := gvals_get r2 (show its.toList[i]? = some y by rw [Array.getElem?_toList]; exact hPv)
      obtain ⟨xd, hxd, shd⟩ := l.getV hv'
      obtain ⟨ρ1, b, e1, e2, e3⟩ := hbi i xd hxd
      have kk : ∀ b o, b ≠ P → s1.heap.get? b = some o → s₂.heap.get? b = some o := fun b o hb e => by
        have hlt := Heap.lt_size e
        exact hk b (List.mem_range.mpr (Nat.lt_trans hlt hszlt)) (fun z => by
          rcases List.mem_cons.mp z with z | z
          · rw [z] at hlt; exact Nat.lt_irrefl _ hlt
          · cases z) o (hhref b o (keep3 b o hb e))
      have hρ : ρ1 = ρ2.set j (some (xd, false)) := by
        simp only [setTg, List.contains_nil, Bool.false_eq_true, if_false, Option.some.injEq] at e1
        exact e1.symm
      have R : Rdy (genEnv scope (cloFrom X.env.cells scope.names []) h3.objs.size code bi X.env) X.N ρ1 s₂ := by
        refine ⟨g.kind, fun i' y' d' own hN' hr' nd' hv => ?_⟩
        rw [hρ] at hr'
        by_cases hj : i' = j
        · subst hj
          rw [hN] at hN'
          cases hN'
          have hd' : d' = xd := by
            by_cases hi : i' < ρ2.length
            · rw [List.getElem?_set_self hi] at hr'
              cases hr'; rfl
            · rw [List.getElem?_eq_none (by rw [List.length_set]; omega)] at hr'; cases hr'
          subst hd'
          obtain ⟨as, rd⟩ := Dp.reads I1 d' v' y (Sh.dp nd' shd) rv'
          exact ⟨y, as, readsBut (tab_fields I1 T.tP) kk rd, .inl ⟨g.tg x (by simp), m₂, hn, hm⟩⟩
        · rw [List.getElem?_set_ne (fun z => hj z.symm)] at hr'
          have hne : y' ≠ x := fun z => by
            subst z
            exact hj (nodup_ix nd hN' hN)
          obtain ⟨u, as, h1, h2, h3⟩ := rdy_free (cenv := genEnv scope (cloFrom X.env.cells scope.names []) h3.objs.size code bi X.env) I1 T.rel g rfl rfl T.tP kk hN' hr' nd' hv (by simpa using hne)
          exact ⟨u, as, h1, .inr ⟨h2, h3⟩⟩
      obtain ⟨u, as, rd, run⟩ := rd_ok (prog := X.prog) (w := X.w) R n he e2
      cases rd
      exact run A' E' _ (by have := hr.un; omega) ⟨⟨b, e3, rfl⟩, GxR.keeps_refl _⟩
  · intro a h5 tk5 gs hgb hag hsz5 hk5 W5 hat
    rw [vals_gen hlen] at W5
    refine T.q a _ ⟨_, _, _, _, _, W5.in4_1, hat, truth_of hlen (fun i y hf => hf), fun s' hm => ⟨more, ht3, tab_end I1 T.tP keep3 hP3 hszlt hgb hk5 hm⟩⟩
theorem walks_pt {prog : Program} {w : World} {A : Around} {I : Addr} {fp wr : List Addr} {n : Nat} {Pt Pt' : Nat → Array Value → Prop} {St : Nat → Heap → Prop} {Mid : Nat → Addr → Heap → Prop} (f : ∀ i v, i < n → Pt i v → Pt' i v)
    (W : WalksU prog w A I fp wr n Pt St Mid) : WalksU prog w A I fp wr n Pt' St Mid where
  sub := W.sub
  frame := W.frame
  item := fun i s Q E hi st hQ => W.item i s Q E hi st fun T vals h' tk hP => hQ T vals h' tk (f i vals hi hP)
  go := W.go
  apart := W.apart
  done := W.done
  self := W.self
theorem shL_pair {K : PySem.W.Frag} {vs : List V} {d1 d2 : D} (h : ShL K Z H vs [d1, d2]) : ∃ v1 v2, vs = [v1, v2] ∧ Sh K Z H v1 d1 ∧ Sh K Z H v2 d2 := by
  cases h with
  | cons a t =>
    cases t with
    | cons b t =>
      cases t
      exact ⟨_, _, rfl, a, b⟩
theorem vals_pair {v1 v2 : V} {us : List Value} (h : Vals [v1, v2] us) : ∃ u1 u2, us = [u1, u2] ∧ RelV v1 u1 ∧ RelV v2 u2 := by
  cases h with
  | cons a t =>
    cases t with
    | cons b t =>
      cases t
      exact ⟨_, _, rfl, a, b⟩
theorem setTg_pair {x : D} {ja jb : Nat} {ρ1 : En} (h : setTg [] (.tup [ja, jb]) x false ρ = some ρ1) : ∃ d1 d2, x = .tuple [d1, d2] ∧ ρ1 = (ρ.set ja (some (d1, false))).set jb (some (d2, false)) := by
  cases x with
  | tuple ds =>
    simp only [setTg] at h
    split at h
    · rename_i hl
      match ds, hl.1 with
      | [d1, d2], _ => exact ⟨d1, d2, rfl, (Option.some.inj h).symm⟩
    · cases h
  | _ => simp [setTg] at h
theorem gen_tup {c : Addr} {elt iter : Expr} {xa xb : Str} {pa pb pt gpos : Pos} {kt : Nat} {scope : Scope} {ja jb n k : Nat} {re : RE} {Q' : Value → Shared → Prop}
    (hr : L2H.RoomH k X.A) (hd : X.A.handled = none) (nd : X.N.Nodup) (g : GenSc X.env.scope scope [xa, xb]) (hab : xa ≠ xb) (hNa : X.N[ja]? = some xa) (hNb : X.N[jb]? = some xb) (he : cRE X.N scope n elt = some re) (hs : ∀ v, genFold iter X.env v = pure v) (TB : TabB X.base X.mg c P) (hcode : X.env.code = .ref c) (ok : X.Ok)
    (h : wpAny (model X.prog X.w) X.A (eval iter X.env) (fun u s1 => ∃ v H1 ρ2 Z2 d xs ps bs, Got X pins σ P (.tup [ja, jb]) re Q' u s1 v H1 ρ2 Z2 d xs ps bs) X.xe s) :
    wpAny (model X.prog X.w) X.A (eval (.GeneratorExp elt [⟨.Tuple [.Name xa pa, .Name xb pb] kt pt, iter, [], 0⟩] scope gpos) X.env) Q' X.xe s := by
  refine wpAny_GeneratorExp_walksQTD hd g.co (closure_ok (g.has ok rfl)) g.cell g.dot (g.tg xa (by simp)) (g.tg xb (by simp)) hab g.kind (by have := hr.dp; omega) ?_ hs
  refine wpAny_mono h (fun u s1 ⟨v, H1, ρ2, Z2, d, xs, ps, bs, T⟩ => ?_) fun _ _ e => e
  have I1 := T.inv
  obtain ⟨ax, its, vs, o, rfl, S, r2, l⟩ := src_of I1 T.rv T.sh T.dx
  obtain ⟨hbl, hbi⟩ := genF_at T.gf
  have hlen : its.size = bs.length := by
    have := r2.length
    simp only [Array.length_toList] at this
    rw [hbl, ← l.length]; exact this.symm
  have hPs : s1.heap.get? P = some { cls := .none, data := .fields ps } := I1.hok P _ T.tP
  have pair : ∀ i : Nat, ∃ p : Addr × Value × Value, i < its.size → its[i]? = some (.ref p.1) ∧ s1.heap.IsTuple p.1 #[p.2.1, p.2.2] ∧ p.1 ≠ P ∧
      ∃ d1 d2 v1 v2 b, RelV v1 p.2.1 ∧ RelV v2 p.2.2 ∧ Sh X.K Z2 H1 v1 d1 ∧ Sh X.K Z2 H1 v2 d2 ∧ rdE ((ρ2.set ja (some (d1, false))).set jb (some (d2, false))) re = some (.bool b) ∧ bs[i]? = some b := by
    intro i
    by_cases hi : i < its.size
    · obtain ⟨v', hv', rv'⟩ := gvals_get r2 (show its.toList[i]? = some its[i] by rw [Array.getElem?_toList]; exact Array.getElem?_eq_getElem hi)
      obtain ⟨xd, hxd, shd⟩ := l.getV hv'
      obtain ⟨ρ1, b, e1, e2, e3⟩ := hbi i xd hxd
      obtain ⟨d1, d2, rfl, rfl⟩ := setTg_pair e1
      obtain ⟨a, ws, ev, sq, _, lw⟩ := has_tuple (o := false) shd
      subst ev
      obtain ⟨v1, v2, rfl, s1', s2'⟩ := shL_pair lw
      obtain ⟨us, ru, tt, _⟩ := I1.tuple sq
      obtain ⟨u1, u2, rfl, ru1, ru2⟩ := vals_pair ru
      generalize hrv : its[i] = w at rv'
      cases rv'
      refine ⟨(a, u1, u2), fun _ => ⟨by rw [Array.getElem?_eq_getElem hi, hrv], tt, fun z => ?_, d1, d2, v1, v2, b, ru1, ru2, s1', s2', e2, e3⟩⟩
      obtain ⟨_, e, e2, _⟩ := tt
      rw [show a = P from z, hPs] at e; cases e; cases e2
    · exact ⟨(0, .none, .none), fun z => absurd z hi⟩
  obtain ⟨f, hf⟩ := Classical.axiomOfChoice pair
  refine S.iter _ _ _ s1 rfl ?_
  refine tab_step TB hcode I1 T.tP T.tr o fun code h3 tk more bi hx hsz hP3 ht3 lim3 => ?_
  have hPlt : P < s1.heap.objs.size := Heap.lt_size hPs
  have sz2 : (s1.heap.push o).objs.size = s1.heap.objs.size + 1 := Heap.size_push ..
  have keep3 : ∀ b u, b ≠ P → s1.heap.get? b = some u → h3.get? b = some u := fun b u hb e => hx b u hb (Heap.get?_push_of_some _ e)
  obtain ⟨St, Mid, hst, W⟩ := S.two (fun i => (f i).1) (fun i => #[(f i).2.1, (f i).2.2]) (fun i hi => (hf i hi).1) (fun i hi => (hf i hi).2.1)
  have axne : ax ≠ P := fun z => by
    rcases T.dx with e | e
    · subst e
      obtain ⟨a, _, rfl, sq, _, _⟩ := has_listX (o := false) T.sh
      have rv := T.rv
      cases rv
      obtain ⟨_, _, _, e⟩ := sq.obj I1
      rw [z, hPs] at e; cases e
    · subst e
      obtain ⟨a, _, rfl, sq, _, _⟩ := has_tuple (o := false) T.sh
      have rv := T.rv
      cases rv
      obtain ⟨_, _, ⟨_, e, e2, _⟩, _⟩ := I1.tuple sq
      rw [z, hPs] at e; cases e; cases e2
  have hst3 : St 0 h3 := (W X.A hd).frame _ _ _ hst fun b hb u e => hx b u (fun z => by
    rcases List.mem_cons.mp hb with z2 | z2
    · exact Nat.ne_of_lt hPlt (z.symm.trans z2)
    · rcases List.mem_cons.mp z2 with z2 | z2
      · exact axne (z2.symm.trans z)
      · obtain ⟨i, hi, e2⟩ := List.mem_map.mp z2
        exact (hf i (List.mem_range.mp hi)).2.2.1 (e2.trans z)) e
  have hcl : cStatics < s1.heap.objs.size := let ⟨_, hns, _⟩ := I1.nolimit; hns.lt
  have hszlt : s1.heap.objs.size < h3.objs.size := by omega
  refine ⟨s1.heap.objs.size, _, [s1.heap.objs.size], its.size, (fun i v => v = #[(f i).2.1, (f i).2.2] ∧ i < its.size), St, Mid, (fun _ => true), (fun i y => ∃ b, bs[i]? = some b ∧ y = .bool b), rfl, fun A' hA => walks_pt (fun i v hi e => ⟨e, hi⟩) (W A' hA), fun i vals e => ⟨_, _, e.1⟩, hst3, ?_, lim3, ?_, ?_, ?_⟩
  · intro b hb
    rcases List.mem_cons.mp hb with z | z
    · rw [z]; exact hszlt
    · rcases List.mem_cons.mp z with z | z
      · rw [z]; exact Nat.lt_trans S.lt hszlt
      · obtain ⟨i, hi, e2⟩ := List.mem_map.mp z
        obtain ⟨_, ⟨_, e, _⟩, _⟩ := hf i (List.mem_range.mp hi)
        rw [← e2]
        exact Nat.lt_trans (Heap.lt_size e) hszlt
  · intro z
    rcases List.mem_cons.mp z with z | z
    · exact Nat.ne_of_lt hcl z
    · cases z
  · intro href hhref
    refine ⟨fun A' E' i va vb s₂ m₂ hA _ _ hPv hn hma hmb hk => ?_, fun A' E' i va vb s₂ m₂ hA _ hAu hPv hp hn hma hmb hk => ?_⟩
    · simp only [List.forIn_nil]
      exact wpAny_pure ⟨rfl, GxR.keeps_refl _⟩
    · obtain ⟨hv2, hi⟩ := hPv
      obtain ⟨_, _, _, d1, d2, v1, v2, b, rv1, rv2, sh1, sh2, e2, e3⟩ := hf i hi
      have ev : va = (f i).2.1 ∧ vb = (f i).2.2 := by
        have := congrArg Array.toList hv2
        simp only [List.cons.injEq, and_true] at this
        exact this
      obtain ⟨rfl, rfl⟩ := ev
      have kk : ∀ b o, b ≠ P → s1.heap.get? b = some o → s₂.heap.get? b = some o := fun b o hb e => by
        have hlt := Heap.lt_size e
        exact hk b (List.mem_range.mpr (Nat.lt_trans hlt hszlt)) (fun z => by
          rcases List.mem_cons.mp z with z | z
          · rw [z] at hlt; exact Nat.lt_irrefl _ hlt
          · cases z) o (hhref b o (keep3 b o hb e))
      have R : Rdy (genEnv scope (cloFrom X.env.cells scope.names []) h3.objs.size code bi X.env) X.N ((ρ2.set ja (some (d1, false))).set jb (some (d2, false))) s₂ := by
        refine ⟨g.kind, fun i' y' d' own hN' hr' nd' hv => ?_⟩
        by_cases hj : i' = jb
        · subst hj
          rw [hNb] at hN'
          cases hN'
          have hd' : d' = d2 := by
            by_cases hi : i' < (ρ2.set ja (some (d1, false))).length
            · rw [List.getElem?_set_self hi] at hr'
              cases hr'; rfl
            · rw [List.getElem?_eq_none (by rw [List.length_set]; omega)] at hr'; cases hr'
          subst hd'
          obtain ⟨as, rd⟩ := Dp.reads I1 d' v2 _ (Sh.dp nd' sh2) rv2
          exact ⟨_, as, readsBut (tab_fields I1 T.tP) kk rd, .inl ⟨g.tg xb (by simp), m₂, hn, hmb⟩⟩
        · rw [List.getElem?_set_ne (fun z => hj z.symm)] at hr'
          by_cases hj1 : i' = ja
          · subst hj1
            rw [hNa] at hN'
            cases hN'
            have hd' : d' = d1 := by
              by_cases hi : i' < ρ2.length
              · rw [List.getElem?_set_self hi] at hr'
                cases hr'; rfl
              · rw [List.getElem?_eq_none (by rw [List.length_set]; omega)] at hr'; cases hr'
            subst hd'
            obtain ⟨as, rd⟩ := Dp.reads I1 d' v1 _ (Sh.dp nd' sh1) rv1
            exact ⟨_, as, readsBut (tab_fields I1 T.tP) kk rd, .inl ⟨g.tg xa (by simp), m₂, hn, hma⟩⟩
          · rw [List.getElem?_set_ne (fun z => hj1 z.symm)] at hr'
            have hnea : y' ≠ xa := fun z => by
              subst z
              exact hj1 (nodup_ix nd hN' hNa)
            have hneb : y' ≠ xb := fun z => by
              subst z
              exact hj (nodup_ix nd hN' hNb)
            obtain ⟨u, as, h1, h2, h3⟩ := rdy_free (cenv := genEnv scope (cloFrom X.env.cells scope.names []) h3.objs.size code bi X.env) I1 T.rel g rfl rfl T.tP kk hN' hr' nd' hv (by simp [hnea, hneb])
            exact ⟨u, as, h1, .inr ⟨h2, h3⟩⟩
      obtain ⟨u, as, rd, run⟩ := rd_ok (prog := X.prog) (w := X.w) R n he e2
      cases rd
      exact run A' E' _ (by have := hr.un; omega) ⟨⟨b, e3, rfl⟩, GxR.keeps_refl _⟩
  · intro a h5 tk5 gs hgb hag hsz5 hk5 W5 hat
    rw [vals_gen hlen] at W5
    refine T.q a _ ⟨_, _, _, _, _, W5.in4_1, hat, truth_of hlen (fun i y hf => hf), fun s' hm => ⟨more, ht3, tab_end I1 T.tP keep3 hP3 hszlt hgb hk5 hm⟩⟩
theorem range_getD (bs : List Bool) : (List.range bs.length).map (fun j => bs.getD j false) = bs := by
  apply List.ext_getElem
  · simp
  · intro i h1 h2
    simp [List.getD_eq_getElem?_getD, h2]
theorem all_getD (bs : List Bool) : (List.range bs.length).all (fun j => bs.getD j false) = bs.all id := by
  have e := congrArg (fun l => List.all l id) (range_getD bs)
  simp only [List.all_map] at e
  exact e
theorem any_getD (bs : List Bool) : (List.range bs.length).any (fun j => bs.getD j false) = bs.any id := by
  have e := congrArg (fun l => List.any l id) (range_getD bs)
  simp only [List.any_map] at e
  exact e
/-- the generator, made and handed on -/
def GenE (X : Cx) (P : Addr) (tg : Tg) (re : RE) (iter e : Expr) : Prop := ∀ (pins : List (Addr × Obj)) (σ : L2.St) (s : Shared) (Q' : Value → Shared → Prop), X.Ok →
  wpAny (model X.prog X.w) X.A (eval iter X.env) (fun u s1 => ∃ v H1 ρ2 Z2 d xs ps bs, Got X pins σ P tg re Q' u s1 v H1 ρ2 Z2 d xs ps bs) X.xe s → wpAny (model X.prog X.w) X.A (eval e X.env) Q' X.xe s
theorem pe_allg {cl : Cl} {W : WX} {Φ : Fn} {al : Bool} {b : Str} {p pos gpos : Pos} {elt iter tgt : Expr} {scope : Scope} {tg : Tg} {re : RE} {it : IE}
    (hg : Gl X b) (hm : X.mg b = none) (hb : b = if al = true then "all" else "any") (hu : ∀ q, G.T P q → q = none) (hT : G.T P none) (hi : PE X iter (TDE X.K cl W (dE Φ it))) (gen : GenE X P tg re iter (.GeneratorExp elt [⟨tgt, iter, [], 0⟩] scope gpos))
    (he : starEach [.GeneratorExp elt [⟨tgt, iter, [], 0⟩] scope gpos] X.env = (false, eval (.GeneratorExp elt [⟨tgt, iter, [], 0⟩] scope gpos) X.env) :: starEach [] X.env := by rfl) :
    PE X (.Call (.Name b p) [.GeneratorExp elt [⟨tgt, iter, [], 0⟩] scope gpos] [] pos) (TDE X.K cl W (dE Φ (.allg al tg it re))) := by
  refine ⟨fun pins s σ H Q I h => ?_⟩
  refine wpAny_Call_Name_kw ((show ∀ {Q : Value → Shared → Prop} {E : Value → Shared → Prop}, Q (.builtin (if al = true then "all" else "any")) s → wpAny (model X.prog X.w) X.A (eval (.Name b p) X.env) Q E s from fun q => by
    subst hb
    cases al
    · exact ld_blt (u := .builtin "any") I hg hm boot_any q
    · exact ld_blt (u := .builtin "all") I hg hm (by rfl) q) ?_)
  refine PyProof.Rows.callWith_builtin1 ?_ he (by rfl)
  rw [he]
  show wpAny _ _ (spliced ((false, eval (.GeneratorExp elt [⟨tgt, iter, [], 0⟩] scope gpos) X.env) :: backTo pos (starEach [] X.env))) _ _ s
  refine Calls.spliced_cons (gen pins σ s _ I.ok ?_)
  obtain ⟨ρ, Z, R, h⟩ := h
  simp only [dE] at h
  refine thn (hi.run pins s σ H _ I (tde_bind (Aft.refl R) h)) fun u s1 ⟨v, H1, I1, rv, o, ρ1, Z1, A1, _, hv, h1⟩ => ?_
  have fin : ∀ (d : D) (xs : List D) (ρ2 : En), (d = .list xs ∨ d = .tuple xs) → sealE ρ1 o = some (d, ρ2) → Post X.K cl W ρ σ H Z (match genF tg re ρ2 xs with
      | some bs => .ok (.val (.bool (if al = true then bs.all id else bs.any id)) false) ρ2
      | none => .bad) (kE X.K ρ σ H Q) → ∃ v H1 ρ2 Z2 d xs ps bs, Got X pins σ P tg re (fun g s5 => wpAny (model X.prog X.w) X.A (spliced (backTo pos (starEach [] X.env))) (fun vs s6 => wpAny (model X.prog X.w) X.A (call (.builtin (if al = true then "all" else "any")) (g :: vs)) (fun v' s' => ∃ x H', Inv X pins σ H' s' ∧ RelV x v' ∧ Q x H') X.xe s6) X.xe s5) u s1 v H1 ρ2 Z2 d xs ps bs := by
    intro d xs ρ2 hd hs hp
    obtain ⟨Z2, A2, sh, x2⟩ := seal_ok A1 hv hs
    obtain ⟨ps, e1, e2⟩ := A2.rel.ge.tb P none hT
    cases hgf : genF tg re ρ2 xs with
    | none => rw [hgf] at hp; exact hp.elim
    | some bs =>
      rw [hgf] at hp
      refine ⟨v, H1, ρ2, Z2, d, xs, ps, bs, I1, rv, A2.rel, sh, hd, e1, e2, hgf, fun a s5 ⟨fp, wr, GG, F, St, Wk, hst, htr, hI⟩ => ?_⟩
      refine Calls.spliced_nil ?_
      have last : ∀ s' : Shared, Moved wr GG s5 s' → ∃ x H', Inv X pins σ H' s' ∧ RelV x (Value.bool (if al = true then bs.all id else bs.any id)) ∧ Q x H' := fun s' hmv => by
        obtain ⟨more, ht, J⟩ := hI s' hmv
        exact ⟨.bl _, _, J, rfl, hp _ _ (A2.trans (aft_tab A2.rel e1 ht hu)) _ ⟨Sh.bl _, fun z => nomatch z⟩⟩
      cases al with
      | true =>
        refine call_all_walkS (Wk.self 0 _ _ _ hst ⟨a, fp, wr, GG, _, F, St, _, rfl, Wk, hst, htr, fun s' hmv => ?_⟩)
        rw [all_getD bs]
        exact last s' hmv
      | false =>
        refine call_any_walkS (Wk.self 0 _ _ _ hst ⟨a, fp, wr, GG, _, F, St, _, rfl, Wk, hst, htr, fun s' hmv => ?_⟩)
        rw [any_getD bs]
        exact last s' hmv
  cases e : sealE ρ1 o with
  | none => rw [e] at h1; exact h1.elim
  | some q =>
    obtain ⟨d, ρ2⟩ := q
    rw [e] at h1
    cases d with
    | list xs => exact fin _ xs ρ2 (.inl rfl) e h1
    | tuple xs => exact fin _ xs ρ2 (.inr rfl) e h1
    | _ => exact h1.elim
end
end Mv
namespace Mv
open PySem PySem.Spec L2
open PyProof.Rows hiding St
open GxR (TabB TabG)
open LamX (CodeO TabS LamS)
section
variable {X : Cx} {pins : List (Addr × Obj)} {σ : L2.St} {H : Hp} {s : Shared}
/-- behind the making: nothing new, or the table has grown and one code object is known -/
def Made (H : Hp) (P c' : Addr) (q : Str) (H1 : Hp) : Prop := H1 = H ∨ ∃ ps more, H P = some (.tbl ps) ∧ H c' = none ∧ H1 = upd (upd H P (.tbl (ps ++ more))) c' (CodeO c' q)
theorem lam_mk {c P : Addr} {params : Arguments} {body : Expr} {scope : Scope} {pos : Pos} {q : Str} {E : Value → Shared → Prop} {Q : Value → Shared → Prop} (I : Inv X pins σ H s) (B : TabB X.base X.mg c P) (hc : X.env.code = .ref c) (hq : X.env.qual ++ "<lambda>" = q)
    (t : TabS H P q) (hdef : defaultsOf params X.env = ([], [])) (hfree : ∀ y ∈ scope.names, y.2 = .free → ∃ c, X.env.cells.lookup y.1 = some c)
    (k : ∀ (f c' : Addr) (pm ctv : Value) (H1 : Hp) (s' : Shared), Inv X pins σ H1 s' → Made H P c' q H1 → TabS H1 P q → s'.heap.get? f = some (PySem.W.kla_obj "<lambda>" q params body scope (cloFrom X.env.cells scope.names []) pm c' ctv) →
      H1 f = none → f ∉ frs X.stack → H1 c' = some (CodeO c' q) → Q (.ref f) s') :
    wpAny (model X.prog X.w) X.A (eval (.Lambda params body scope pos) X.env) Q E s := by
  subst hq
  obtain ⟨ps, atP, tri, known⟩ := t
  have objP : s.heap.get? P = some { cls := .none, data := .fields ps } := I.hok P _ atP
  have far : ∀ a : Addr, s.heap.objs.size ≤ a → a ∉ frs X.stack := fun a ha hm => by
    rcases List.mem_cons.mp (I.stkSub a hm) with z | z
    · have small := I.lt
      rw [← z] at small
      exact absurd (Nat.lt_of_lt_of_le small ha) (Nat.lt_irrefl _)
    · exact I.nofs ha z
  have bA : s.heap.BuiltinsAt X.mg P := B.bm.keeps I.bk
  have codeHd : PySem.W.CodeHd s.heap c P := B.code.keeps I.bk
  refine PySem.W.kla_eval hdef ?_
  cases among : codeAmong pos ps.toList with
  | some cv =>
    obtain ⟨c', rfl, isC⟩ := known pos cv among
    refine PySem.W.kla_makeFunctionHit (c := c) (ps := ps) (closure_ok hfree) I.ok.glob (I.mod.glob.keeps I.bk) hc codeHd objP tri among bA fun ctv h' tk kept big => ?_
    have J := I.kept (h' := h'.push (PySem.W.kla_obj "<lambda>" (X.env.qual ++ "<lambda>") params body scope (cloFrom X.env.cells scope.names []) ((X.mg "__name__").getD .none) c' ctv)) (t' := tk) fun b o z => Heap.get?_push_of_some _ (kept b o z)
    exact k _ c' _ ctv H _ J (.inl rfl) ⟨ps, atP, tri, known⟩ (Heap.get?_push_size _ rfl) (I.hok.fresh big) (far _ big) isC
  | none =>
    refine PySem.W.kla_makeFunction (c := c) (ps := ps) (closure_ok hfree) I.ok.glob (I.mod.glob.keeps I.bk) hc codeHd objP tri among B.gP bA fun c' ctv h' tk but lo hi rc tbl => ?_
    obtain ⟨c2, oc, vs, tk2, same, at_c, dat, name⟩ := rc
    cases same
    have newC : H c' = none := I.hok.fresh lo
    have ne : P ≠ c' := ne_of_none atP newC
    have grown : (ps ++ #[rawInt pos.line, rawInt pos.col, Value.ref c']).toList = ps.toList ++ [rawInt pos.line, rawInt pos.col, .ref c'] := by simp
    have J := LamX.inv_table (t' := tk) (more := #[rawInt pos.line, rawInt pos.col, .ref c']) (h' := h'.push (PySem.W.kla_obj "<lambda>" (X.env.qual ++ "<lambda>") params body scope (cloFrom X.env.cells scope.names []) ((X.mg "__name__").getD .none) c' ctv)) I atP
      (fun b o hb z => Heap.get?_push_of_some _ (but b o hb z)) (Heap.get?_push_of_some _ tbl) lo ⟨oc, vs, tk2, Heap.get?_push_of_some _ at_c, dat, name⟩
    have big : s.heap.objs.size ≤ h'.objs.size := Nat.le_trans lo (Nat.le_of_lt hi)
    refine k _ c' _ ctv _ _ J (.inr ⟨ps, _, atP, newC, rfl⟩) ⟨_, by rw [upd_ne ne, upd_same], by rw [grown]; exact PySem.TriplesOk_snoc _ _ _ _ tri, fun p' cv hcv => ?_⟩ (Heap.get?_push_size _ rfl) ?_ (far _ big) upd_same
    · rw [grown] at hcv
      rcases LamX.among_app _ tri hcv with z | z
      · obtain ⟨c0, e1, e2⟩ := known p' cv z
        refine ⟨c0, e1, ?_⟩
        rw [upd_ne (ne_of_none e2 newC), upd_ne (fun z2 => by
          rw [z2, atP] at e2
          exact LamX.codeO_ne _ (Option.some.inj e2).symm)]
        exact e2
      · exact ⟨c', z, upd_same⟩
    · rw [upd_ne (Nat.ne_of_gt hi), upd_ne (Nat.ne_of_gt (Nat.lt_of_lt_of_le (Heap.lt_size objP) big))]
      exact I.hok.fresh big
end
section
variable [G : Glo]
variable {K : PySem.W.Frag} {Z Z' : Zt} {H H1 : Hp} {ρ : En} {σ : L2.St} {P c' : Addr} {q : Str}
theorem made_keep (m : Made H P c' q H1) {b : Addr} {o : HO} (e : H b = some o) (n : ∀ ps, o ≠ .tbl ps) : H1 b = some o := by
  rcases m with rfl | ⟨ps, more, hP, nc, rfl⟩
  · exact e
  · rw [upd_ne (ne_of_none e nc), upd_ne (fun z => by
      rw [z, hP] at e
      exact n ps (Option.some.inj e).symm)]
    exact e
theorem made_tbl (m : Made H P c' q H1) {b : Addr} {ps : Array Value} (e : H b = some (.tbl ps)) : ∃ ps', H1 b = some (.tbl ps') ∧ (b ≠ P → ps' = ps) := by
  rcases m with rfl | ⟨p0, more, hP, nc, rfl⟩
  · exact ⟨ps, e, fun _ => rfl⟩
  · by_cases hb : b = P
    · subst hb
      exact ⟨_, by rw [upd_ne (ne_of_none e nc), upd_same], fun n => absurd rfl n⟩
    · exact ⟨ps, by rw [upd_ne (ne_of_none e nc), upd_ne hb]; exact e, fun _ => rfl⟩
theorem made_tb (m : Made H P c' q H1) (t : TabS H1 P q) (hu : ∀ q', G.T P q' → q' = some q) (tb : TbOk H) : TbOk H1 := fun P' q' hq => by
  by_cases hb : P' = P
  · subst hb
    rw [hu q' hq]
    exact t
  · have w := tb P' q' hq
    cases q' with
    | none =>
      obtain ⟨ps, h1, h2⟩ := w
      obtain ⟨ps', e1, e2⟩ := made_tbl m h1
      rw [e2 hb] at e1
      exact ⟨ps, e1, h2⟩
    | some q' =>
      obtain ⟨ps, h1, h2, h3⟩ := w
      obtain ⟨ps', e1, e2⟩ := made_tbl m h1
      rw [e2 hb] at e1
      refine ⟨ps, e1, h2, fun p cv hc => ?_⟩
      obtain ⟨c0, z1, z2⟩ := h3 p cv hc
      exact ⟨c0, z1, made_keep m z2 LamX.codeO_ne⟩
/-- all but the tables is kept, the new marks are fresh -/
theorem rel_frame (R : Rel K ρ σ H Z) (tb : TbOk H1) (kp : ∀ b o, H b = some o → (∀ ps, o ≠ .tbl ps) → H1 b = some o) (zz : ∀ a, Z a → Z' a) (zn : ∀ a, Z' a → Z a ∨ H a = none) (zt : ∀ a, Z' a → ∃ o, H1 a = some o ∧ ∀ ps, o ≠ .tbl ps) : Rel K ρ σ H1 Z' := by
  have x : Ext Z H Z' H1 := ⟨zz, fun a o z e => by
    obtain ⟨u, e1, n⟩ := R.zt a z
    rw [e] at e1; cases e1
    exact kp _ _ e n, fun a xs e => kp _ _ e (fun _ z => nomatch z), fun a o u e => kp _ _ e (fun _ z => nomatch z), fun _ => tb, fun a φ e => kp _ _ e (fun _ z => nomatch z)⟩
  refine ⟨R.ge.ext x, R.len, zt, fun i d own h => ?_, R.sep⟩
  obtain ⟨v, h1, h2⟩ := R.has i d own h
  refine ⟨v, h1, ?_⟩
  cases own with
  | false => exact Has.ext x h2
  | true =>
    have h2' : Ow K Z H v d := h2
    obtain ⟨a, o, ea, nz, ha⟩ := h2'.ref
    exact (Ow.stay x h2' (fun b o _ e n => kp b o e n) (fun b e => by
      rw [ea] at e; cases e
      intro z
      rcases zn _ z with z | z
      · exact nz z
      · rw [ha] at z; cases z) : Ow K Z' H1 v d)
theorem aft_frame (R : Rel K ρ σ H Z) (tb : TbOk H1) (kp : ∀ b o, H b = some o → (∀ ps, o ≠ .tbl ps) → H1 b = some o) (tk : ∀ b ps, H b = some (.tbl ps) → ∃ ps', H1 b = some (.tbl ps')) (zz : ∀ a, Z a → Z' a) (zn : ∀ a, Z' a → Z a ∨ H a = none) (zt : ∀ a, Z' a → ∃ o, H1 a = some o ∧ ∀ ps, o ≠ .tbl ps) : Aft K ρ σ H Z ρ σ H1 Z' :=
  ⟨rel_frame R tb kp zz zn zt, zz, fun a o e n _ => kp a o e n, tk, fun a z => (zn a z).imp id .inr, fun _ h => .inl h⟩
theorem aft_made (R : Rel K ρ σ H Z) (m : Made H P c' q H1) (t : TabS H1 P q) (hu : ∀ q', G.T P q' → q' = some q) : Aft K ρ σ H Z ρ σ H1 Z :=
  aft_frame R (made_tb m t hu R.ge.tb) (fun b o e n => made_keep m e n) (fun b ps e => let ⟨ps', z, _⟩ := made_tbl m e; ⟨ps', z⟩) (fun _ h => h) (fun _ h => .inl h) fun a z => by
    obtain ⟨o, e, n⟩ := R.zt a z
    exact ⟨o, made_keep m e n, n⟩
end
end Mv
namespace Mv
open PySem PySem.Spec L2
open PyProof.Rows hiding St
open LamX (CodeO TabS LamS lamEnv)
section
variable {X : Cx} {pins : List (Addr × Obj)} {σ : L2.St} {H HZ : Hp} {s s1 : Shared}
/-- the lambda's body running -/
def lamN (X : Cx) (A : Around) (outer : List Env) (s : Shared) (H : Hp) (E : XK) (scope : Scope) (f c' : Addr) : Cx :=
  (LamX.lamCx X A outer s H E scope f c').tr [] fun e s' => wpAny (model X.prog X.w) (A.deeper (lamEnv X scope s.heap.objs.size f c')) (leaving (lamEnv X scope s.heap.objs.size f c') e)
    (fun _ s2 => L2N.CX X.prog X.w outer H s E e s2) (fun e2 s2 => L2N.CX X.prog X.w outer H s E e2 s2) s'
/-- the context of a def's body that holds the lambda -/
abbrev gCx (X : Cx) (Ng : List Str) (qg : Str) (sg : Scope) (g : Addr) (cdg : Value) (s : Shared) (H : Hp) (Eg : XK) : Cx := cxOf (L2N.CX X.prog X.w) X.prog X.w X.K X.mg X.base Ng qg sg g cdg X.A X.stack s H Eg
theorem pe_thk {Eg : XK} {Ng : List Str} {qg q : Str} {sg : Scope} {g f c' : Addr} {cdg pm ctv : Value} {params : Arguments} {body : Expr} {scope : Scope} {j i : Nat} {a : Str} {pn : List (Addr × Obj)} {xe : Value → Shared → Prop} {W : WX} {tb : XK → TE} {p1 p2 : Pos}
    (I : Inv X pins σ H s) (L : LamS X.env.scope scope) (hq : X.env.qual ++ "<lambda>" = q) (hf : s.heap.get? f = some (PySem.W.kla_obj "<lambda>" q params body scope (cloFrom X.env.cells scope.names []) pm c' ctv)) (hfn : H f = none) (hfr : f ∉ frs X.stack)
    (bind : bindArgs (PySem.W.kla_fn "<lambda>" q params body scope (cloFrom X.env.cells scope.names []) pm (.ref c') ctv) ⟨[], []⟩ = pure [])
    (tk : L2N.Takes ((gCx X Ng qg sg g cdg s H Eg).tr pn xe) W) (room : L2H.RoomH (j + 1) (X.A.deeper (envOfC qg sg s.heap.objs.size g cdg))) (hd : X.A.handled = none) (gd : X.A.guards = some [])
    (hbody : ∀ (A : Around) (outer : List Env) (s : Shared) (H : Hp) (E : XK), L2H.RoomH j (A.deeper (lamEnv X scope s.heap.objs.size f c')) → A.handled = none → A.guards = some [] → PE (lamN X A outer s H E scope f c') body (tb E))
    (hN : Ng[i]? = some a) (hv : Vis sg a) (pl : (a == ("__debug__" : Str)) = false ∧ (a == ("__classdict__" : Str)) = false) :
    PE ((gCx X Ng qg sg g cdg s H Eg).tr pn xe) (.Call (.Name a p1) [] [] p2)
      (fun σZ HZ Q => σZ[i]? = some (some (.ref f)) ∧ HZ c' = some (CodeO c' q) ∧ tb (WE W σZ) σ HZ Q) := by
  subst hq
  refine ⟨fun pinsZ sZ σZ HZ Q IZ want => ?_⟩
  obtain ⟨slot, code, body_ok⟩ := want
  have reads := (pe_var (pos := p1) (i := i) hN hv pl.1 pl.2).run pinsZ sZ σZ HZ (fun v H1 => v = .ref f ∧ H1 = HZ) IZ ⟨.ref f, slot, rfl, rfl⟩
  refine wpAny_Call_Name_kw (thn reads fun u s1 ⟨v, H1, I1, rv, ev, eH⟩ => ?_)
  subst ev
  subst eH
  cases (show u = Value.ref f from rv)
  have there := I1.base.keep f _ hf hfn hfr (fun z => nomatch (show f ∈ ([] : List Addr) from z))
  refine PySem.W.callWith_F0 ⟨_, _, _, _, there⟩ ?_
  obtain ⟨⟨oc, vs, t, at_c, dat, nam⟩, _, _⟩ := I1.hok c' _ code
  have dp : (X.A.deeper (envOfC qg sg s.heap.objs.size g cdg)).depth < recursionLimit := room.depth
  have go : codeAny (model X.prog X.w) (X.A.deeper (envOfC qg sg s.heap.objs.size g cdg)) (.call (.ref f) ⟨[], []⟩) (L2.CR (L2N.CX X.prog X.w) (envOfC qg sg s.heap.objs.size g cdg :: X.stack) X.prog X.w H1 s1 Q (WE W σZ)) s1 := by
    refine PySem.W.kla_callFunE dp there rfl L.co L.gen rfl ⟨c', oc, vs, t, rfl, at_c, dat, nam⟩ ?_
    rw [bind]
    refine wpAny_pure (wpAny_newFunctionEnv (fun y hy => (L.own y hy).2) (fun y hy => absurd hy (by simp)) (fun h₁ ns but => ⟨I1.nolimit.fresh _ but, ?_⟩) L.kind)
    show codeAny _ _ (.expr body (lamEnv X scope s1.heap.objs.size f c')) _ _
    have J0 := LamX.lam_start2 (E := WE W σZ) (f := f) (c' := c') (tk := s1.toks + ([] : List (Str × Value)).length) I L I1.env0 hd I1.base ns fun b o z => but.extBut b o (Nat.ne_of_lt (Heap.lt_size z)) (Heap.get?_push_of_some _ z)
    have J : Inv (lamN X (X.A.deeper (envOfC qg sg s.heap.objs.size g cdg)) (envOfC qg sg s.heap.objs.size g cdg :: X.stack) s1 H1 (WE W σZ) scope f c') [] σ H1 { s1 with heap := h₁, toks := s1.toks + ([] : List (Str × Value)).length } := J0.toTry _
    have run := (hbody _ _ s1 H1 (WE W σZ) (room.deeper _) hd gd).run [] _ _ H1 Q J body_ok
    refine PySem.W.kla_codeExpr (wpAny_mono run (fun v s2 ⟨w2, H2, J2, rv2, q2⟩ => ?_) fun e s2 q2 => q2)
    exact ⟨w2, H2, J2.os, J2.bare, J2.base, J2.hok, rv2, q2⟩
  refine wpAny_call (codeAny_mono go fun r s2 z => ?_)
  match r, z with
  | .error e, z => exact L2N.passAt tk σZ pinsZ H1 s1 e s2 I1 z
  | .ok (.ret u), z => exact I1.after z
end
end Mv
namespace Mv
open PySem PySem.Spec L2
open PyProof.Rows hiding St
open LamX (CodeO TabS LamS lamEnv)
open GxR (TabB)
/-- what the lambda gives, wherever the def that got it calls it -/
def ThE [G : Glo] (Y : Cx) (cl : Cl) (a : Str) (r : CL) : Prop := ∀ (pn : List (Addr × Obj)) (xe : Value → Shared → Prop) (W : WX) (p1 p2 : Pos), L2N.Takes (Y.tr pn xe) W → PE (Y.tr pn xe) (.Call (.Name a p1) [] [] p2) (TDE Y.K cl W fun ρ => thR ρ r)
def PostL (t : TabC) (K : PySem.W.Frag) (cl : Cl) (ρ : En) (σ : L2.St) (H : Hp) (Z : Zt) (r : CL) (Q : VK) (E : XK) : Prop := match r with
  | .ok d own _ => ∀ v ρ' σ' H' Z', AftF K ρ σ H Z ρ' σ' H' Z' → @TbOk t H' → Val K ρ σ H ρ' σ' H' Z' v (.val d own) → Q v H'
  | .ex c p _ => ∀ ρ' σ' H' Z' cls dx, AftF K ρ σ H Z ρ' σ' H' Z' → @TbOk t H' → XAt K cl Z' H' c p cls dx → E cls dx H'
  | .bad => False
/-- a def's promise, its one argument a lambda -/
structure FnL (t : TabC) (P : Program) (w : World) (K : PySem.W.Frag) (mg : Str → Option Value) (base : Heap) (cl : Cl) (k : Nat) (g : Addr) (fd : FuncData) (x : Str) (st : Stmt) (N : List Str) (a : Str) (m : CL → CL) : Prop where
  at0 : N[0]? = some a
  vis : Vis (defScope st) a
  run : ∀ (A : Around) (outer : List Env) (s : Shared) (H : Hp) (fl : Addr) (Q : VK) (E : XK) (r : CL) (Z : Zt) (G : Glo), G.toTabC = t → G.fix = [0] → L2H.RoomH (k + 1) A → A.guards = some [] → A.handled = none → Env0 P w K mg base A outer s H →
    BindsTo s fd ⟨[.ref fl], []⟩ [(a, .ref fl)] → @Rel G K (List.replicate N.length none) (L2.start N [.ref fl]) H Z →
    (L2H.RoomH k (A.deeper (envOfC x (defScope st) s.heap.objs.size g fd.code)) → @ThE G (cxOf (L2N.CX P w) P w K mg base N x (defScope st) g fd.code A outer s H E) cl a r) →
    PostL t K cl (List.replicate N.length none) (L2.start N [.ref fl]) H Z (m r) Q E →
    codeAny (model P w) A (.call (.ref g) ⟨[.ref fl], []⟩) (L2.CR (L2N.CX P w) outer P w H s Q E) s
/-- a def called, what its body asks told of the very state -/
theorem run_ofN {P : Program} {w : World} {K : PySem.W.Frag} {mg : Str → Option Value} {base : Heap} {k : Nat} {f : Addr} {x qual : Str} {st : Stmt} {fd : FuncData} {N ps : List Str} (F : Fun K x qual st f fd) (S : FnScope N ps (defScope st))
    {A : Around} {outer : List Env} {s : Shared} {H : Hp} {args : Args} {us : List Value} {vs : List V} {Q : VK} {E : XK} (room : L2H.RoomH (k + 1) A) (hd : A.handled = none) (env0 : Env0 P w K mg base A outer s H) (bd : BindsTo s fd args (ps.zip us)) (r : Vals vs us) (n : vs.length = ps.length)
    (hbody : L2H.RoomH k (A.deeper (envOfC qual (defScope st) s.heap.objs.size f fd.code)) → ∃ t, PSs (cxOf (L2N.CX P w) P w K mg base N qual (defScope st) f fd.code A outer s H E) (defBody st) t ∧ t { nx := fun _ H' => Q .non H', rt := Q } (start N vs) H) :
    codeAny (model P w) A (.call (.ref f) args) (L2.CR (L2N.CX P w) outer P w H s Q E) s := by
  obtain ⟨oc, od, kV, doc, pm, an, cdv, ct, osl, rfl, look, code⟩ := F.ex
  have inK : K.In s.heap := env0.mod.kin.keeps fun b o z => (env0.bs b o z).1
  have noLim : s.heap.NoLimit := env0.mod.nolimit.keeps fun b o z => (env0.bs b o z).1
  have kinds : ∀ y ∈ ps.zip us, (defScope st).names.lookup y.1 = some .local ∨ ((defScope st).names.lookup y.1 = some .cell ∧ ((cellsFrom (s.heap.objs.size + 1) (defScope st).names []).lookup y.1).isSome = true) := by
    intro y hy
    rcases S.par y.1 (List.of_mem_zip (a := y.1) (b := y.2) hy).1 with q | q
    · exact .inl q
    · exact .inr ⟨q, PySem.W.cellsFrom_some _ _ _ (.inl q)⟩
  refine codeAny_call_function room.depth (inK _ _ look) rfl S.co S.gen rfl (PySem.W.codeRec_of inK code) (bd _ _ _ _ ?_)
  refine wpAny_newFunctionEnv_cells S.kind kinds fun env he s1 inC => ?_
  subst he
  refine ⟨noLim.keeps inC.toInCall.keep, codeAny_func ?_⟩
  obtain ⟨t, ht, hq⟩ := hbody (room.deeper _)
  have I0 := inv_start (CX := L2N.CX P w) (mg := mg) (base := base) (outer := outer) (E := E) S hd env0 n r inC
  refine wpAny_mono (ht.run [] s1 (start N vs) H _ I0 hq) (fun fl s' hs => ?_) fun e s' hs => hs
  have back : ∀ {σ' : L2.St} {H' : Hp} {v : V} {u : Value}, Inv (cxOf (L2N.CX P w) P w K mg base N qual (defScope st) f cdv A outer s H E) [] σ' H' s' → RelV v u → Q v H' → L2.CE outer P w H s Q u s' :=
    fun {σ' H' v u} J rv q => ⟨v, H', J.os, J.bare, J.base, J.hok, rv, q⟩
  match fl, hs with
  | .next, ⟨σ', H', J, q⟩ => exact back (v := V.non) (u := Value.none) J rfl q
  | .ret u, ⟨v, σ', H', J, rv, q⟩ => exact back J rv q
  | .brk, ⟨_, _, _, q⟩ => exact q.elim
  | .cont, ⟨_, _, _, q⟩ => exact q.elim
/-- what the body of the def that got the lambda knows -/
abbrev gloL (t : TabC) (K : PySem.W.Frag) (fl c' : Addr) (q : Str) (σc : L2.St) (ρm : En) : Glo :=
  { t with
    F := fun σ H Z => σ[0]? = some (some (.ref fl)) ∧ H c' = some (CodeO c' q) ∧ ∀ (i : Nat) (d : D), ρm[i]? = some (some (d, false)) → ∃ v, σc[i]? = some (some v) ∧ Sh K Z H v d
    fix := [0]
    up := fun ⟨h1, h2, h3⟩ x => ⟨h1, x.ke _ _ h2, fun i d e => let ⟨v, a, b⟩ := h3 i d e; ⟨v, a, letI := t.bare; b.ext x⟩⟩
    sl := fun ⟨h1, h2, h3⟩ x => ⟨by rw [x 0 (by simp)]; exact h1, h2, h3⟩ }
theorem mask_own {ρ : En} {i : Nat} {d : D} {own : Bool} (h : (maskE ρ)[i]? = some (some (d, own))) : own = false ∧ ρ[i]? = some (some (d, false)) := by
  unfold maskE at h
  rw [List.getElem?_map] at h
  cases e : ρ[i]? with
  | none => rw [e] at h; cases h
  | some s =>
    rw [e] at h
    cases s with
    | none => cases h
    | some p =>
      obtain ⟨d', b⟩ := p
      cases b with
      | true => cases h
      | false =>
        cases h
        exact ⟨rfl, rfl⟩
theorem mask_none {ρ : En} {σ : L2.St} {a : Addr} : ¬ Own (maskE ρ) σ a := fun ⟨i, d, h, _⟩ => by
  have := (mask_own h).1
  cases this
theorem rep_none {n : Nat} {σ : L2.St} {a : Addr} : ¬ Own (List.replicate n none) σ a := fun ⟨i, d, h, _⟩ => by
  rw [List.getElem?_replicate] at h
  split at h <;> cases h
section
variable [G : Glo]
variable {X : Cx} {cl : Cl} {W : WX} {Φ : Fn}
theorem pe_lamc {k f : Nat} {m : CL → CL} {x xg a q : Str} {ga c P : Addr} {fd : FuncData} {st : Stmt} {N : List Str} {params : Arguments} {body : Expr} {scope : Scope} {ie : IE} {p lpos pos : Pos}
    (hg : Gl X x) (hm : X.mg x = some (.ref ga)) (hk : PySem.W.keepIn X.K (.ref ga) = true) (hdb : (x == ("__debug__" : Str)) = false) (bdg : Binds X.K fd [a] []) (FL : FnL G.toTabC X.prog X.w X.K X.mg X.base cl (k + 1) ga fd xg st N a m) (hΦ : ∀ d, Φ (2000000 + f) [(d, false)] = m (decD d))
    (B : TabB X.base X.mg c P) (hc : X.env.code = .ref c) (hT : G.T P (some q)) (hu : ∀ q', G.T P q' → q' = some q) (hq : X.env.qual ++ "<lambda>" = q) (L : LamS X.env.scope scope) (hdef : defaultsOf params X.env = ([], []))
    (bind : ∀ (cl : List (Str × Addr)) (pm cv ctv : Value), bindArgs (PySem.W.kla_fn "<lambda>" q params body scope cl pm cv ctv) ⟨[], []⟩ = pure [])
    (hd : X.A.handled = none) (gd : X.A.guards = some []) (room : L2H.RoomH (k + 2) X.A) (tkn : L2N.Takes X W) (pl : (a == ("__debug__" : Str)) = false ∧ (a == ("__classdict__" : Str)) = false)
    (hbody : ∀ (A : Around) (outer : List Env) (s : Shared) (H : Hp) (E : XK) (f c' : Addr), L2H.RoomH k (A.deeper (lamEnv X scope s.heap.objs.size f c')) → A.handled = none → A.guards = some [] →
      PE (lamN X A outer s H E scope f c') body (@TDE G.bare X.K cl (fun cls d _ H => E cls d H) (dE Φ ie))) :
    PE X (.Call (.Name x p) [.Lambda params body scope lpos] [] pos) (TDE X.K cl W (dE Φ (.lamc f ie))) := by
  refine ⟨fun pins s σ H Q I h => ?_⟩
  obtain ⟨ρ, Z, R, h⟩ := h
  simp only [dE] at h
  cases er : encR (dE Φ ie (maskE ρ)) with
  | none => rw [er] at h; exact h.elim
  | some d =>
    rw [er] at h
    simp only [lamR, hΦ] at h
    refine wpAny_Call_Name_kw (ld_glob I hg hm ?_ hdb)
    refine PySem.W.callWith_K (h₀ := X.base) I.ok.mod.kin hk ?_ (by rfl) (by rfl)
    show wpAny _ _ (spliced ((false, eval (.Lambda params body scope lpos) X.env) :: backTo pos (starEach [] X.env))) _ _ s
    have t0 : TabS H P q := R.ge.tb P (some q) hT
    refine Calls.spliced_cons (lam_mk I B hc hq t0 hdef (L.has I.ok) fun fl c' pm ctv H1 s1 I1 mk t1 hfl hfn hfr hco => ?_)
    refine Calls.spliced_nil ⟨I1.kIn, ?_⟩
    have A1 := aft_made R mk t1 hu
    have R1 := A1.rel
    have tb1 : TbOk H1 := R1.ge.tb
    have bd : BindsTo s1 fd ⟨[.ref fl], []⟩ [(a, .ref fl)] := by
      have := bdg s1 [.ref fl] I1.kIn rfl
      simpa using this
    have st0 : (L2.start N [V.ref fl])[0]? = some (some (.ref fl)) := rfl
    have fst : (gloL G.toTabC X.K fl c' q σ (maskE ρ)).F (L2.start N [V.ref fl]) H1 Z := ⟨st0, hco, fun i d e => by
      obtain ⟨v, e1, e2⟩ := R1.has i d false (mask_own e).2
      exact ⟨v, e1, e2⟩⟩
    have zt1 := R1.zt
    have nor : ∀ {n i : Nat} {p : Mv.D × Bool}, (List.replicate n (none : Sl))[i]? ≠ some (some p) := fun {n i p} e => by
      rw [List.getElem?_replicate] at e
      split at e <;> cases e
    have lenS : (List.replicate N.length (none : Sl)).length = (L2.start N [V.ref fl]).length := by
      have hN : 0 < N.length := (List.getElem?_eq_some_iff.mp FL.at0).1
      simp [L2.start]
      omega
    have RL : @Rel (gloL G.toTabC X.K fl c' q σ (maskE ρ)) X.K (List.replicate N.length none) (L2.start N [.ref fl]) H1 Z :=
      letI := gloL G.toTabC X.K fl c' q σ (maskE ρ)
      { ge := ⟨tb1, fst⟩, len := lenS, zt := zt1, has := fun i d own e => absurd e nor, sep := fun i j d e a h1 _ _ _ => absurd h1 nor }
    have go := FL.run X.A X.stack s1 H1 fl Q (WE W σ) (decD d) Z (gloL G.toTabC X.K fl c' q σ (maskE ρ)) rfl rfl room gd hd I1.env0 bd RL (fun rm => ?_) ?_
    · refine wpAny_call (codeAny_mono go fun r s2 z => ?_)
      match r, z with
      | .error e, z => exact L2N.passAt tkn σ pins H1 s1 e s2 I1 z
      | .ok (.ret u), z => exact I1.after z
    · -- the lambda, called there
      intro pn xe W' p1 p2 tk'
      refine PE.weak (pe_thk (tb := fun E => @TDE G.bare X.K cl (fun cls d _ H => E cls d H) (dE Φ ie)) (j := k) (i := 0) I1 L hq hfl hfn hfr (bind _ _ _ _) tk' rm hd gd (fun A outer s H E r hd gd => hbody A outer s H E fl c' r hd gd) FL.at0 FL.vis pl) fun σZ HZ QZ ⟨ρZ, Zz, RZ, hz⟩ => ?_
      have fz : (gloL G.toTabC X.K fl c' q σ (maskE ρ)).F σZ HZ Zz := letI := gloL G.toTabC X.K fl c' q σ (maskE ρ); RZ.ge.f
      have tbz : @TbOk G.toTabC HZ := letI := gloL G.toTabC X.K fl c' q σ (maskE ρ); RZ.ge.tb
      have ztz : ∀ a, Zz a → ∃ o, HZ a = some o ∧ ∀ ps, o ≠ .tbl ps := letI := gloL G.toTabC X.K fl c' q σ (maskE ρ); RZ.zt
      obtain ⟨f1, f2, f3⟩ := fz
      refine ⟨f1, f2, maskE ρ, Zz, ?_, ?_⟩
      · refine rel_bare G.toTabC ⟨by unfold maskE; rw [List.length_map]; exact R.len, ztz, fun i d own e => ?_, fun i j d e a h1 _ _ _ => ?_⟩ tbz
        · obtain ⟨eo, _⟩ := mask_own e
          subst eo
          obtain ⟨v, g1, g2⟩ := f3 i d e
          exact ⟨v, g1, g2⟩
        · have := (mask_own h1).1
          cases this
      · -- what the lambda's body leaves is ours
        have bring : ∀ {ρ1 : En} {H' : Hp} {Z' : Zt}, AftF X.K (maskE ρ) σ HZ Zz ρ1 σ H' Z' → @TbOk G.toTabC H' → @Aft (gloL G.toTabC X.K fl c' q σ (maskE ρ)) X.K ρZ σZ HZ Zz ρZ σZ H' Z' := fun {ρ1 H' Z'} B tb => by
          letI := gloL G.toTabC X.K fl c' q σ (maskE ρ)
          exact aft_frame RZ tb (fun b o e n => B.keep b o e n mask_none) B.tk B.zz (fun a z => (B.zn a z).imp id fun z => z.elim (fun z => absurd z mask_none) id) B.rel.zt
        cases e : dE Φ ie (maskE ρ) with
        | bad => rw [e] at er; cases er
        | ex c p ρ1 =>
          rw [e] at er
          simp only [encR, Option.some.injEq] at er
          subst er
          intro H' Z' cls dx B x
          obtain ⟨B1, B2⟩ := aft_bare G.toTabC B
          have hz : ∀ H' Z' cls dx, @Aft (gloL G.toTabC X.K fl c' q σ (maskE ρ)) X.K ρZ σZ HZ Zz ρZ σZ H' Z' → XAt X.K cl Z' H' c p cls dx → W' cls dx σZ H' := by
            have e2 : thR ρZ (decD (.tuple [.int c, p])) = .ex c p ρZ := by simp [decD, thR]
            dsimp only at hz
            rw [e2] at hz
            exact hz
          exact hz H' Z' cls dx (bring B1 B2) x
        | ok o ρ1 =>
          rw [e] at er
          simp only [encR] at er
          cases es : sealE ρ1 o with
          | none => rw [es] at er; cases er
          | some dv =>
            obtain ⟨dv, ρ2⟩ := dv
            rw [es] at er
            cases er
            intro H' Z' B v hv
            have sl : ∃ Z2, @Aft G.bare X.K (maskE ρ) σ HZ Zz ρ2 σ H' Z2 ∧ Sh X.K Z2 H' v dv := by
              letI := G.bare
              obtain ⟨Z2, s1, s2, _⟩ := seal_ok B hv es
              exact ⟨Z2, s1, s2⟩
            obtain ⟨Z2, B', sh⟩ := sl
            obtain ⟨B1, B2⟩ := aft_bare G.toTabC B'
            have hz : ∀ H' Z', @Aft (gloL G.toTabC X.K fl c' q σ (maskE ρ)) X.K ρZ σZ HZ Zz ρZ σZ H' Z' → ∀ v, Val X.K ρZ σZ HZ ρZ σZ H' Z' v (.val dv false) → QZ v H' := hz
            exact hz H' Z2 (bring B1 B2) v ⟨sh, fun z => nomatch z⟩
    · -- behind the call
      have bring : ∀ {ρ1 : En} {σ1 : L2.St} {H' : Hp} {Z' : Zt}, AftF X.K (List.replicate N.length none) (L2.start N [.ref fl]) H1 Z ρ1 σ1 H' Z' → TbOk H' → Aft X.K ρ σ H Z ρ σ H' Z' := fun {ρ1 σ1 H' Z'} B tb =>
        A1.trans (aft_frame R1 tb (fun b o e n => B.keep b o e n rep_none) B.tk B.zz (fun a z => (B.zn a z).imp id fun z => z.elim (fun z => absurd z rep_none) id) B.rel.zt)
      cases er2 : m (decD d) with
      | bad => rw [er2] at h; exact h.elim
      | ex c p out =>
        rw [er2] at h
        intro ρ' σ' H' Z' cls dx B tb x
        exact h H' Z' cls dx (bring B tb) x
      | ok dv own out =>
        rw [er2] at h
        intro v ρ' σ' H' Z' B tb hv
        refine h H' Z' (bring B tb) v ⟨hv.1, fun eo b eb => ?_⟩
        have nb : H1 b = none := (hv.2 eo b eb).2.elim (fun z => absurd z rep_none) id
        refine ⟨fun z => ?_, A1.new nb⟩
        obtain ⟨_, o, e1, _⟩ := R1.own z
        rw [nb] at e1
        cases e1
end
end Mv
namespace Mv
open PySem PySem.Spec L2
open PyProof.Rows hiding St

structure Ct where
  N : List Str
  sc : Scope
  fnb : Str → Bool
  P : List Nat
  fi : List (Str × Nat × Nat)
  ki : List (Str × List Str × List Nat)
  bn : List Str
  /-- within an except suite, or a def that is called there -/
  hot : Bool
  /-- the name of the exception that the suite holds -/
  er : Option Str
  /-- a def's own body, no block -/
  body : Bool
  /-- own exceptions that are raised; names of classes in except and isinstance: which own ones are theirs, which not -/
  xc : List (Str × Nat)
  xt : List (Str × List Nat × List Nat)
  /-- numbers of the module -/
  gi : List (Str × Int)
  /-- defs that may be called while an exception is handled -/
  fh : List Nat
  /-- the def's code object has a table: of lambdas of one name, or of generator expressions -/
  tab : Option (Option Str)
  /-- the parameter that is a lambda -/
  th : Option Str := none
  /-- defs that get a lambda -/
  lm : List (Str × Nat) := []
structure Cs where
  E : Ct → Expr → Option IE
  T : Ct → Expr → Option IT
  B : Ct → List Stmt → Option IB

def slot (ct : Ct) (x : Str) : Option Nat := match ct.N.findIdx? (fun y => decide (y = x)) with
  | some i => if ct.N[i]? = some x then some i else none
  | none => none
def plainN (x : Str) : Bool := !(x == ("__debug__" : Str)) && !(x == ("__classdict__" : Str))
def visB (sc : Scope) (x : Str) : Bool := (match sc.names.lookup x with
  | some .local => true
  | some .cell => true
  | some .free => true
  | _ => false) && plainN x
def locB (ct : Ct) (x : Str) : Bool := match ct.sc.names.lookup x with
  | some .local => true
  | some .cell => ct.fnb x
  | _ => false
def glbB (ct : Ct) (x : Str) : Bool := (match ct.sc.names.lookup x with
  | some .globalImplicit => true
  | _ => false) && plainN x
def noMut (ct : Ct) (x : Str) : Bool := glbB ct x && ct.bn.contains x
def allUn (es : List Expr) : Bool := es.all fun e => !isStar e
def isSetE : Expr → Bool
  | .Set _ _ _ => true
  | _ => false
def isLitE : Expr → Bool
  | .Set _ _ _ => true
  | .List _ _ => true
  | _ => false
def isSlice : Expr → Bool
  | .Slice _ _ _ _ => true
  | _ => false
def isComp : Expr → Bool
  | .ListComp _ _ _ _ => true
  | .SetComp _ _ _ _ => true
  | .DictComp _ _ _ _ _ => true
  | _ => false
def isTupL : Expr → Bool
  | .Tuple _ _ _ => true
  | .List _ _ => true
  | _ => false
def smallB (n : Nat) : Bool := decide (n ≤ 1000)

section
variable (C : Cs) (ct : Ct)
def cL : List Expr → Option IL
  | [] => some .nil
  | e :: r => match isStar e, C.E ct e, cL r with
    | false, some i, some l => some (.cons i l)
    | _, _, _ => none
def cO : Option Expr → Option IO
  | none => some .none
  | some e => (C.E ct e).map .some
def cNames : List Expr → Option (List Nat)
  | [] => some []
  | .Name x _ :: r => match locB ct x, slot ct x, cNames r with
    | true, some i, some is => some (i :: is)
    | _, _, _ => none
  | _ => none
def cG : Expr → Option Tg
  | .Name x _ => match locB ct x, slot ct x with
    | true, some i => some (.name i)
    | _, _ => none
  | .Tuple es _ _ => if ct.hot = false then (cNames ct es).map .tup else none
  | _ => none
def cSeq (iter : Expr) : Option II := match isSetE iter, C.E ct iter with
  | false, some e => some (.seq e)
  | _, _ => none
def cI (tg iter : Expr) : Option II := match iter with
  | .Call (.Name x _) [a] [] _ =>
    if x = "range" ∧ noMut ct x = true ∧ isStar a = false then (C.E ct a).map .range1
    else if x = "enumerate" ∧ noMut ct x = true ∧ isStar a = false then match tg with
      | .Tuple _ _ _ => (C.E ct a).map .enum
      | _ => none
    else cSeq C ct iter
  | .Call (.Name x _) [a, b] [] _ =>
    if x = "range" ∧ noMut ct x = true ∧ isStar a = false ∧ isStar b = false then match C.E ct a, C.E ct b with
      | some ia, some ib => some (.range2 ia ib)
      | _, _ => none
    else cSeq C ct iter
  | _ => cSeq C ct iter
def cTs : List Expr → Option IT
  | [] => some .yes
  | [c] => C.T ct c
  | _ => none
def ownOf (N : List Str) (scope : Scope) : List (Str × Nat) := scope.names.filterMap fun y => match y.2 with
  | .local => (N.findIdx? (fun z => decide (z = y.1))).map fun i => (y.1, i)
  | .cell => (N.findIdx? (fun z => decide (z = y.1))).map fun i => (y.1, i)
  | _ => none
def ctIn (scope : Scope) : Ct := { ct with sc := relS scope ct.sc, fnb := fun x => scope.names.lookup x == some .cell, er := none, body := false, th := none, lm := [] }
def cLc (elt tg iter : Expr) (ifs : List Expr) (scope : Scope) : Option (Tg × II × IT × IE) :=
  if blkC ct.N ct.sc scope (ownOf ct.N scope) = true ∧ isSetE iter = false ∧ ct.hot = false ∧ ct.th = none then
    match cI C ct tg iter, cG (ctIn ct scope) tg, cTs C (ctIn ct scope) ifs, C.E (ctIn ct scope) elt with
    | some it, some g, some c, some e => if ((tgIx g).all fun j => ((ownOf ct.N scope).map (·.2)).contains j) = true then some (g, it, c, e) else none
    | _, _, _, _ => none
  else none
def biFind (x : Str) : Option Bi := [Bi.len, .int, .tuple, .list, .max2, .min2, .repr, .sorted, .abs, .sum, .dict, .all, .any].find? fun b => decide (biNm b = x)
def cFn (x : Str) (args : List Expr) : Option IE := match ct.fi.lookup x with
  | some (f, _) => if glbB ct x = true ∧ (ct.hot = false ∨ ct.fh.contains f = true) then (cL C ct args).map (.call f) else none
  | none => none
def cKw (x : Str) (kws : List Keyword) : Option IE :=
  match ct.fi.lookup x, ct.ki.find? (fun q => decide (q.1 = x ∧ q.2.1 = kws.filterMap (·.arg))) with
  | some (f, n), some q => if kws.length = n ∧ (kws.all fun k => k.arg.isSome) = true ∧ glbB ct x = true ∧ (x, kws.filterMap (·.arg), q.2.2) ∈ ct.ki ∧ (ct.hot = false ∨ ct.fh.contains f = true) then
      match cL C ct (kws.map (·.value)) with
      | some il => if ilLen il = kws.length then some (.callp f q.2.2 il) else none
      | none => none
    else none
  | _, _ => none
def cKm (x : Str) (a : Expr) (kws : List Keyword) : Option IE :=
  match ct.fi.lookup x, ct.ki.find? (fun q => decide (q.1 = x ∧ q.2.1 = kws.filterMap (·.arg))) with
  | some (f, n), some q => if (1 + kws.length = n ∧ isStar a = false) ∧ (kws.all fun k => k.arg.isSome) = true ∧ glbB ct x = true ∧ (x, kws.filterMap (·.arg), q.2.2) ∈ ct.ki ∧ (ct.hot = false ∨ ct.fh.contains f = true) then
      match C.E ct a, cL C ct (kws.map (·.value)) with
      | some ia, some il => if ilLen il = kws.length then some (.callp f q.2.2 (.cons ia il)) else none
      | _, _ => none
    else none
  | _, _ => none
def tyFind (t : Str) : Option Ty := [Ty.tuple, .int, .bool, .str, .list, .dict].find? fun T => decide (tyN T = t)
def cIse (args : List Expr) (kws : List Keyword) : Option IE := match kws, args with
  | [], [.Name n _, .Name t _] => match ct.xt.lookup t with
    | some (yes, no) => if ct.er = some n ∧ noMut ct "isinstance" = true ∧ glbB ct t = true then some (.exi yes no) else none
    | none => none
  | _, _ => none
def cIsi (args : List Expr) (kws : List Keyword) : Option IE := match cIse ct args kws with
  | some ie => some ie
  | none => match kws, args with
    | [], [a, .Name t _] => match tyFind t, C.E ct a with
      | some T, some ia => if tyN T = t ∧ noMut ct "isinstance" = true ∧ noMut ct t = true ∧ isStar a = false then some (.isi T ia) else none
      | _, _ => none
    | _, _ => none
def cGen (x : Str) (args : List Expr) (kws : List Keyword) : Option IE := match args, kws with
  | [.GeneratorExp elt [⟨.Name y _, iter, [], 0⟩] scope _], [] => if (x = "all" ∨ x = "any") ∧ noMut ct x = true ∧ ct.hot = false ∧ ct.tab = some none ∧ genSB ct.sc scope [y] = true ∧ isLitE iter = false then
      match slotN ct.N y, C.E ct iter, cRE ct.N scope 30 elt with
      | some j, some it, some re => some (.allg (decide (x = "all")) (.name j) it re)
      | _, _, _ => none
    else none
  | [.GeneratorExp elt [⟨.Tuple [.Name y _, .Name z _] _ _, iter, [], 0⟩] scope _], [] => if (x = "all" ∨ x = "any") ∧ noMut ct x = true ∧ ct.hot = false ∧ ct.tab = some none ∧ genSB ct.sc scope [y, z] = true ∧ isLitE iter = false ∧ y ≠ z then
      match slotN ct.N y, slotN ct.N z, C.E ct iter, cRE ct.N scope 30 elt with
      | some j, some l, some it, some re => some (.allg (decide (x = "all")) (.tup [j, l]) it re)
      | _, _, _, _ => none
    else none
  | _, _ => none
def cCall0 (x : Str) (args : List Expr) (kws : List Keyword) : Option IE := if x = "isinstance" then cIsi C ct args kws else match kws with
  | [] => match biFind x with
    | some b => match args with
      | a :: es => if biNm b = x ∧ noMut ct x = true ∧ allUn (a :: es) = true ∧ (ct.hot = false ∨ hotB b = true) then (cL C ct (a :: es)).map (.bi b) else cFn C ct x (a :: es)
      | [] => none
    | none => cFn C ct x args
  | _ :: _ => match args with
    | [] => cKw C ct x kws
    | [a] => cKm C ct x a kws
    | _ => none
def cThk (x : Str) (args : List Expr) (kws : List Keyword) : Option IE := match args, kws with
  | [], [] => if ct.th = some x then some .thk else none
  | _, _ => none
def ctLam (scope : Scope) : Ct := { ct with sc := scope, fnb := fun _ => false, er := none, body := false, tab := none, th := none, lm := [] }
def cLam (x : Str) (args : List Expr) (kws : List Keyword) : Option IE := match args, kws with
  | [.Lambda ⟨[], [], none, [], [], none, []⟩ body scope _], [] => match ct.lm.lookup x, ct.tab with
    | some f, some (some _) => if ct.hot = false ∧ glbB ct x = true ∧ LamX.lamSB ct.sc scope = true then (C.E (ctLam ct scope) body).map (.lamc f) else none
    | _, _ => none
  | _, _ => none
def cCall (x : Str) (args : List Expr) (kws : List Keyword) : Option IE := match cThk ct x args kws with
  | some ie => some ie
  | none => match cLam C ct x args kws with
    | some ie => some ie
    | none => match cGen C ct x args kws with
      | some ie => some ie
      | none => cCall0 C ct x args kws
def cMut (x m : Str) (args : List Expr) : Option IE := match slot ct x, visB ct.sc x with
  | some i, true => match args with
    | [] => if m = "pop" then some (.mut .pop i .nil) else none
    | a :: es => if allUn (a :: es) = true ∧ (a :: es).length < 30 then
        if m = "append" then (cL C ct (a :: es)).map (.mut .append i)
        else if m = "extend" then (cL C ct (a :: es)).map (.mut .extend i)
        else if m = "pop" then (cL C ct (a :: es)).map (.mut .popAt i) else none
      else none
  | _, _ => none
def cGet (x : Str) (p apos pos : Pos) (b c : Expr) : Option IE :=
  if (apos.endLine == pos.line) = true ∧ isStar b = false ∧ isStar c = false then match C.E ct (.Name x p), C.E ct b, C.E ct c with
    | some ia, some ib, some ic => some (.get ia ib ic)
    | _, _, _ => none
  else none
def cCmp (a : Expr) (ops : List CmpOp) (bs : List Expr) : Option IE := match ops, bs with
  | [op], [b] => match behindInMarks op b, C.E ct a, C.E ct b with
    | false, some ia, some ib => some (.cmp op ia ib)
    | _, _, _ => none
  | [op, op'], [b, c] => match lastMarks [op, op'] [b, c], C.E ct a, C.E ct b, C.E ct c with
    | false, some ia, some ib, some ic => some (.chain op op' ia ib ic)
    | _, _, _, _ => none
  | _, _ => none
def cV (op : BoolOp) : List Expr → Option IE
  | [] => none
  | [a] => C.E ct a
  | a :: b :: r => match C.E ct a, cV op (b :: r) with
    | some ia, some ib => some (match op with
      | .And => .and ia ib
      | .Or => .or ia ib)
    | _, _ => none
def cW (op : BoolOp) : List Expr → Option IT
  | [] => none
  | [a] => C.T ct a
  | a :: b :: r => match C.T ct a, cW op (b :: r) with
    | some ia, some ib => some (match op with
      | .And => .and ia ib
      | .Or => .or ia ib)
    | _, _ => none
def litOf : Const → Option D
  | .none => some .none
  | .bool b => some (.bool b)
  | .int i => some (.int i)
  | .str x => some (.str x)
  | _ => none
def stepE (e : Expr) : Option IE := match e with
  | .Name x _ => match visB ct.sc x, slot ct x with
    | true, some i => some (.var i)
    | _, _ => if glbB ct x = true then (ct.gi.lookup x).map fun n => .lit (.int n) else none
  | .Attribute (.Name n _) f _ => if ct.er = some n ∧ f = "what" then some .exw else none
  | .Constant c _ _ => (litOf c).map .lit
  | .BinOp a op b _ => match C.E ct a, C.E ct b with
    | some ia, some ib => some (.bin op ia ib)
    | _, _ => none
  | .UnaryOp .Not a _ => (C.E ct a).map .not
  | .UnaryOp op a _ => (C.E ct a).map (.un op)
  | .Compare a ops bs _ => cCmp C ct a ops bs
  | .BoolOp op es _ => cV C ct op es
  | .IfExp c a b _ => match C.T ct c, C.E ct a, C.E ct b with
    | some ic, some ia, some ib => some (.ite ic ia ib)
    | _, _, _ => none
  | .Tuple es _ _ => match cL C ct es with
    | some il => if smallB (ilLen il) = true then some (.tup il) else none
    | none => none
  | .List es _ => match cL C ct es with
    | some il => if smallB (ilLen il) = true then some (.lst il) else none
    | none => none
  | .Subscript a (.Slice lo hi none _) _ => match C.E ct a, cO C ct lo, cO C ct hi with
    | some ia, some il, some ih => some (.sl ia il ih)
    | _, _, _ => none
  | .Subscript a b _ => match isSlice b, C.E ct a, C.E ct b with
    | false, some ia, some ib => some (.ix ia ib)
    | _, _, _ => none
  | .ListComp elt [⟨tg, iter, ifs, k⟩] scope _ => if k = 0 then (cLc C ct elt tg iter ifs scope).map fun q => .lc ((ownOf ct.N scope).map (·.2)) q.1 q.2.1 q.2.2.1 q.2.2.2 else none
  | .Dict [] [] _ => some .dnew
  | .Call (.Name x _) args kws _ => cCall C ct x args kws
  | .Call (.Attribute (.Name x p) m apos) args [] pos => if m = "get" then (match args with
      | [b, c] => cGet C ct x p apos pos b c
      | _ => none) else if (apos.endLine == pos.line) = true then cMut C ct x m args else none
  | _ => none
def plainT : Expr → Bool
  | .Name _ _ => true
  | .Call _ _ _ _ => true
  | .Subscript _ _ _ => true
  | .BinOp _ _ _ _ => true
  | _ => false
def stepT (e : Expr) : Option IT := match e with
  | .UnaryOp .Not a _ => (C.T ct a).map .not
  | .BoolOp op es _ => cW C ct op es
  | .Compare a ops bs _ => (cCmp C ct a ops bs).map .tb
  | e => match plainT e with
    | true => (C.E ct e).map .tr
    | false => none
/-- a list's comprehension that is stored into a local name on its own line -/
def usedB (e : Expr) (t : Str) (tp : Pos) : Bool := match e with
  | .ListComp _ _ s _ | .SetComp _ _ s _ | .DictComp _ _ _ s _ => (ct.sc.names.lookup t == some .local) && (tp.line == e.pos.line) && !(s.names.any fun q => q.1 == t && (q.2 == .local || q.2 == .cell))
  | _ => false
def foldB (vs : List Expr) : Bool := vs.all (foldedForSure 8) || vs.all (constantsAlone 8)
def lcl (x : Str) : Bool := decide (ct.sc.names.lookup x = some .local)
def cPar (ts vs : List Expr) : Option IS := if ct.hot = true ∨ ct.th.isSome = true then none else match ts, vs with
  | [.Name x px, .Name y py], [a, b] => match slot ct x, slot ct y, cL C ct [a, b] with
    | some i, some j, some il => if (lcl ct x && lcl ct y && (px.line == py.line)) = true ∧ x ≠ y ∧ i ≠ j ∧ foldB [a, b] = false then some (.par [i, j] il) else none
    | _, _, _ => none
  | [.Name x px, .Name y py, .Name z pz], [a, b, c] => match slot ct x, slot ct y, slot ct z, cL C ct [a, b, c] with
    | some i, some j, some l, some il => if (lcl ct x && lcl ct y && lcl ct z && (px.line == py.line) && (px.line == pz.line)) = true ∧ (x ≠ y ∧ x ≠ z ∧ y ≠ z) ∧ (i ≠ j ∧ i ≠ l ∧ j ≠ l) ∧ foldB [a, b, c] = false then some (.par [i, j, l] il) else none
    | _, _, _, _ => none
  | _, _ => none
def cAsg (tg e : Expr) : Option IS := match tg with
  | .Name x px => if usedB ct e x px = true then (match e with
      | .ListComp elt [⟨t, iter, ifs, k⟩] scope _ => if k = 0 ∧ lcl ct x = true then match slot ct x, cLc C ct elt t iter ifs scope with
          | some i, some q => some (.asg (.name i) (.lc ((ownOf ct.N scope).map (·.2)) q.1 q.2.1 q.2.2.1 q.2.2.2))
          | _, _ => none
        else none
      | _ => none)
    else match cG ct tg, C.E ct e with
      | some g, some ie => some (.asg g ie)
      | _, _ => none
  | .Tuple ts _ _ => match e with
    | .Tuple vs _ _ => if (ts.any fun t => match t with
          | .Name x _ => !lcl ct x
          | _ => false) = true then match cG ct tg, C.E ct e with
        | some g, some ie => some (.asg g ie)
        | _, _ => none
      else cPar C ct ts vs
    | _ => if isTupL e = false then match cG ct tg, C.E ct e with
        | some g, some ie => some (.asg g ie)
        | _, _ => none
      else none
  | .Subscript (.Name x _) k _ => match visB ct.sc x, isSlice k, slot ct x, C.E ct k, C.E ct e with
    | true, false, some i, some ik, some iv => some (.setix i ik iv)
    | _, _, _, _, _ => none
  | _ => none
/-- the context of an except suite -/
def ctSu (nm : Option Nat) (n : Option Str) : Ct := { ct with hot := true, er := n, body := false, tab := none, th := none, lm := [], P := match nm with
  | some i => i :: ct.P
  | none => ct.P }
def cH : List ExceptHandler → Option IH
  | [] => some .nil
  | .ExceptHandler (some (.Name x _)) none (b :: su) _ :: r => match ct.xt.lookup x, C.B (ctSu ct none none) (b :: su), cH r with
    | some (yes, no), some ib, some ih => if glbB ct x = true then some (.cons yes no none ib ih) else none
    | _, _, _ => none
  | .ExceptHandler (some (.Name x _)) (some n) (b :: su) _ :: r => match slot ct n with
    | some i => match ct.xt.lookup x, C.B (ctSu ct (some i) (some n)) (b :: su), cH r with
      | some (yes, no), some ib, some ih => if glbB ct x = true ∧ lcl ct n = true ∧ plainN n = true then some (.cons yes no (some i) ib ih) else none
      | _, _, _ => none
    | none => none
  | _ => none
/-- what a for walks in an except suite -/
def cIH (iter : Expr) : Option II := match iter with
  | .Call (.Name x _) [a] [] _ => if x = "range" ∧ noMut ct x = true ∧ isStar a = false then (C.E ct a).map .range1 else none
  | _ => none
def cS (s : Stmt) : Option IS := match s with
  | .Raise (some (.Call (.Name x _) [e] [] _)) none _ => match ct.xc.lookup x, C.E ct e with
    | some c, some ie => if ct.hot = false ∧ glbB ct x = true ∧ isStar e = false then some (.raise_ c ie) else none
    | _, _ => none
  | .Try body (h :: hs) [] [] _ => match C.B ct body, cH C ct (h :: hs) with
    | some ib, some ih => if ct.hot = false ∧ ct.body = true ∧ ct.er = none then some (.try_ ib ih) else none
    | _, _ => none
  | .Expr e _ => if isComp e = false then (C.E ct e).map .expr else none
  | .Assign [tg] e _ => cAsg C ct tg e
  | .AugAssign (.Name x _) op e _ => match locB ct x, slot ct x, C.E ct e with
    | true, some i, some ie => some (.aug i op ie)
    | _, _, _ => none
  | .If c a b _ => match C.T ct c, C.B ct a, C.B ct b with
    | some ic, some ia, some ib => some (.iff ic ia ib)
    | _, _, _ => none
  | .For tg iter b [] _ => match isSetE iter, (if ct.hot = true then cIH C ct iter else cI C ct tg iter), cG ct tg, C.B ct b with
    | false, some it, some g, some ib => some (.for_ g it ib)
    | _, _, _, _ => none
  | .While c b [] _ => match C.T ct c, C.B ct b with
    | some ic, some ib => some (.while_ ic ib)
    | _, _ => none
  | .Return (some e) _ => (C.E ct e).map .ret
  | .Return none _ => some .retN
  | .Pass _ => some .pass
  | .Break _ => some .brk
  | .Continue _ => some .cont
  | _ => none
def stepB : List Stmt → Option IB
  | [] => some .nil
  | s :: r => match cS C ct s, stepB r with
    | some a, some b => some (.cons a b)
    | _, _ => none
end
def comp : Nat → Cs
  | 0 => ⟨fun _ _ => none, fun _ _ => none, fun _ _ => none⟩
  | n + 1 => ⟨stepE (comp n), stepT (comp n), stepB (comp n)⟩

structure Ok [G : Glo] (cl : Cl) (Φ : Fn) (k : Nat) (X : Cx) (ct : Ct) (W : WX) : Prop where
  N : X.N = ct.N
  nd : X.N.Nodup
  sc : X.env.scope = ct.sc
  kind : ct.sc.kind = .function
  cool : ct.hot = false → X.calm = true ∧ X.A.handled = none ∧ (ct.th = none → G.fix = [])
  heat : ct.hot = true → L2H.HotC X
  gd : X.A.guards = some []
  room : L2H.RoomH k X.A
  fixP : ∀ i ∈ G.fix, i ∈ ct.P
  tkn : L2N.Takes X W
  fnb : ∀ x, ct.fnb x = true → X.fn x = true
  own : PassesOwn (model X.prog X.w) X.A X.env X.xe
  bn : ∀ x, x ∈ ct.bn → X.mg x = none
  gi : ∀ x n, ct.gi.lookup x = some n → ∃ t, X.mg x = some (.int n t)
  fi : ∀ x f n, ct.fi.lookup x = some (f, n) → f < 1000000 ∧ ∃ fa fd ps, X.mg x = some (.ref fa) ∧ PySem.W.keepIn X.K (.ref fa) = true ∧ Binds X.K fd ps [] ∧ FnG X.prog X.w X.K X.mg X.base k fa fd ps (ct.fh.contains f) (@spD G.bare X.K cl (Φ f) n) ∧ (∀ xs, Φ f xs ≠ .bad → xs.length = n) ∧ ∀ ks perm, (x, ks, perm) ∈ ct.ki → KwB X.K fd ps ks perm
  er : ∀ n, ct.er = some n → ErOk X cl Φ n
  xc : ∀ x c, ct.xc.lookup x = some c → ∃ fI D, MkF X.K X.mg X.prog fI D x (cl c)
  xt : ∀ x yes no, ct.xt.lookup x = some (yes, no) → ∃ cv, XtF X.K X.mg cl x cv yes no ∧ ∀ c, yes.contains c = true → XcF X.K (cl c)
  stk : ct.body = true → X.stack = X.env :: X.outer ∧ X.env.frame = some X.env.locals
  tab : ∀ q, ct.tab = some q → ∃ c P, GxR.TabB X.base X.mg c P ∧ X.env.code = .ref c ∧ G.T P q ∧ (∀ q', G.T P q' → q' = q) ∧ ∀ n, q = some n → X.env.qual ++ "<lambda>" = n
  th : ∀ a, ct.th = some a → ∀ (pn : List (Addr × Obj)) (xe : Value → Shared → Prop) (W' : WX) (p1 p2 : Pos), L2N.Takes (X.tr pn xe) W' → PE (X.tr pn xe) (.Call (.Name a p1) [] [] p2) (TDE X.K cl W' (dE Φ .thk))
  lm : ∀ x f, ct.lm.lookup x = some f → L2H.RoomH (k + 2) X.A ∧ ∃ ga fd xg st N a m, X.mg x = some (.ref ga) ∧ PySem.W.keepIn X.K (.ref ga) = true ∧ Binds X.K fd [a] [] ∧ FnL G.toTabC X.prog X.w X.K X.mg X.base cl (k + 1) ga fd xg st N a m ∧ (∀ d, Φ (2000000 + f) [(d, false)] = m (decD d)) ∧ plainN a = true
structure Snd (cl : Cl) (k : Nat) (C : Cs) : Prop where
  E : ∀ {G : Glo} {Φ : Fn} {X : Cx} {ct : Ct} {W : WX} {e : Expr} {ie : IE}, Ok cl Φ k X ct W → C.E ct e = some ie → PE X e (TDE X.K cl W (dE Φ ie))
  T : ∀ {G : Glo} {Φ : Fn} {X : Cx} {ct : Ct} {W : WX} {e : Expr} {ie : IT}, Ok cl Φ k X ct W → C.T ct e = some ie → PT X e (TDT X.K cl W (dT Φ ie))
  B : ∀ {G : Glo} {Φ : Fn} {X : Cx} {ct : Ct} {W : WX} {e : List Stmt} {ie : IB}, Ok cl Φ k X ct W → C.B ct e = some ie → PSs X e (TDS X.K cl W ct.P (dB Φ ct.P ie))
end Mv
namespace Mv
open PySem PySem.Spec L2
open PyProof.Rows hiding St

section
variable {G : Glo}
variable {cl : Cl} {Φ : Fn} {k : Nat} {X : Cx} {ct : Ct} {W : WX} {C : Cs}
theorem slot_ok {i : Nat} {x : Str} (h : slot ct x = some i) : ct.N[i]? = some x := by
  unfold slot at h
  split at h
  · split at h
    · cases h; assumption
    · cases h
  · cases h
theorem Ok.slot (o : Ok cl Φ k X ct W) {i : Nat} {x : Str} (h : slot ct x = some i) : X.N[i]? = some x := by
  rw [o.N]; exact slot_ok h
theorem plain_ok {x : Str} (h : plainN x = true) : (x == ("__debug__" : Str)) = false ∧ (x == ("__classdict__" : Str)) = false := by
  unfold plainN at h
  simpa only [Bool.and_eq_true, Bool.not_eq_true'] using h
theorem vis_ok {sc : Scope} {x : Str} (h : visB sc x = true) : Vis sc x ∧ plainN x = true := by
  unfold visB at h
  rw [Bool.and_eq_true] at h
  refine ⟨?_, h.2⟩
  have h := h.1
  unfold Vis
  split at h <;> first | (rename_i e; exact .inl e) | skip
  · rename_i e; exact .inr (.inl e)
  · rename_i e; exact .inr (.inr e)
  · cases h
theorem Ok.loc (o : Ok cl Φ k X ct W) {x : Str} (h : locB ct x = true) : Loc X.env.scope x ∧ (X.fn x = true ∨ X.env.scope.names.lookup x = some .local) := by
  rw [o.sc]
  unfold locB at h
  split at h
  · rename_i e; exact ⟨.inl e, .inr e⟩
  · rename_i e; exact ⟨.inr e, .inl (o.fnb x h)⟩
  · cases h
theorem Ok.glb (o : Ok cl Φ k X ct W) {x : Str} (h : glbB ct x = true) : Gl X x ∧ plainN x = true := by
  unfold glbB at h
  rw [Bool.and_eq_true] at h
  refine ⟨?_, h.2⟩
  have h := h.1
  show X.env.scope.names.lookup x = _
  rw [o.sc]
  split at h
  · assumption
  · cases h
theorem Ok.noMut (o : Ok cl Φ k X ct W) {x : Str} (h : noMut ct x = true) : Gl X x ∧ X.mg x = none := by
  unfold Mv.noMut at h
  rw [Bool.and_eq_true] at h
  exact ⟨(o.glb h.1).1, o.bn x (by simpa using h.2)⟩
theorem Ok.hu (o : Ok cl Φ k X ct W) : X.A.units + 70 < cLine := by have := o.room.un; omega
theorem Ok.hu64 (o : Ok cl Φ k X ct W) : X.A.units + 70 < cLine := by have := o.room.un; omega
theorem folded_ok {iter : Expr} {env : Env} (h : isSetE iter = false) (x : Value) : foldedSetIterable iter env x = pure x := by
  cases iter <;> first | rfl | exact nomatch h
theorem cL_un : ∀ {es : List Expr} {il : IL}, cL C ct es = some il → allUn es = true
  | [], _, _ => rfl
  | e :: r, il, h => by
    simp only [cL] at h
    split at h
    · rename_i i l e1 e2 e3
      show ((!isStar e) && allUn r) = true
      rw [e1, cL_un e3]
      rfl
    · cases h
theorem cL_sl (s : Snd cl k C) (o : Ok cl Φ k X ct W) : ∀ {es : List Expr} {il : IL}, cL C ct es = some il → PA X es (TDL X.K cl W (dL Φ il))
  | [], _, h => by
    simp only [cL] at h
    cases h
    exact sl_nil
  | e :: r, il, h => by
    simp only [cL] at h
    split at h
    · rename_i i l e1 e2 e3
      cases h
      exact sl_cons (s.E o e2) (cL_sl s o e3) (star_cons e1)
    · cases h
theorem cL_sd (s : Snd cl k C) (o : Ok cl Φ k X ct W) : ∀ {es : List Expr} {il : IL}, cL C ct es = some il → PA X es (TDD X.K cl W (dD Φ il))
  | [], _, h => by
    simp only [cL] at h
    cases h
    exact sd_nil
  | e :: r, il, h => by
    simp only [cL] at h
    split at h
    · rename_i i l e1 e2 e3
      cases h
      exact sd_cons (s.E o e2) (cL_sd s o e3) (star_cons e1)
    · cases h
theorem cL_sk (s : Snd cl k C) (o : Ok cl Φ k X ct W) : ∀ {kws : List Keyword} {il : IL}, cL C ct (kws.map (·.value)) = some il → PK X kws (TDL X.K cl W (dL Φ il))
  | [], _, h => by
    simp only [List.map_nil, cL] at h
    cases h
    exact sk_nil
  | ⟨nm, e, kp⟩ :: r, il, h => by
    simp only [List.map_cons, cL] at h
    split at h
    · rename_i i l e1 e2 e3
      cases h
      exact sk_cons (s.E o e2) (cL_sk s o e3)
    · cases h
theorem cO_ok (s : Snd cl k C) (o : Ok cl Φ k X ct W) : ∀ {e : Option Expr} {il : IO}, cO C ct e = some il → PO X e (TDO X.K cl W (dO Φ il))
  | none, _, h => by
    simp only [cO] at h
    cases h
    exact so_none
  | some e, _, h => by
    simp only [cO, Option.map_eq_some_iff] at h
    obtain ⟨i, h1, h2⟩ := h
    cases h2
    exact so_some (s.E o h1)
theorem cNames_ok (o : Ok cl Φ k X ct W) : ∀ {es : List Expr} {is : List Nat}, cNames ct es = some is → PGs X es (gL is) ∧ (assignEach es X.env).length = is.length ∧ (assignEach es X.env).findIdx? (·.1) = none
  | [], _, h => by
    simp only [cNames] at h
    cases h
    exact ⟨pgs_nil, rfl, rfl⟩
  | .Name x p :: r, is, h => by
    simp only [cNames] at h
    split at h
    · rename_i i l e1 e2 e3
      cases h
      obtain ⟨h1, h2, h3⟩ := cNames_ok o e3
      obtain ⟨l1, l2⟩ := o.loc e1
      refine ⟨pgs_cons (pg_name o.nd (o.slot e2) l1 l2) h1, congrArg (· + 1) h2, ?_⟩
      show ((false, assign (.Name x p) X.env) :: assignEach r X.env).findIdx? (·.1) = none
      rw [List.findIdx?_cons]
      simp [h3]
    · cases h
  | .BoolOp .. :: _, _, h | .NamedExpr .. :: _, _, h | .BinOp .. :: _, _, h | .UnaryOp .. :: _, _, h | .Lambda .. :: _, _, h | .IfExp .. :: _, _, h | .Dict .. :: _, _, h | .Set .. :: _, _, h | .ListComp .. :: _, _, h | .SetComp .. :: _, _, h
  | .DictComp .. :: _, _, h | .GeneratorExp .. :: _, _, h | .Await .. :: _, _, h | .Yield .. :: _, _, h | .YieldFrom .. :: _, _, h | .Compare .. :: _, _, h | .Call .. :: _, _, h | .FormattedValue .. :: _, _, h | .JoinedStr .. :: _, _, h | .Constant .. :: _, _, h
  | .Attribute .. :: _, _, h | .Subscript .. :: _, _, h | .Starred .. :: _, _, h | .List .. :: _, _, h | .Tuple .. :: _, _, h | .Slice .. :: _, _, h => by simp [cNames] at h
theorem cG_ok (o : Ok cl Φ k X ct W) {tg : Expr} {g : Tg} (h : cG ct tg = some g) : PG X tg (tgR X.K g) ∧ (assignEach [tg] X.env).map (·.2) = [assign tg X.env] := by
  unfold cG at h
  split at h
  · split at h
    · rename_i e1 e2
      cases h
      obtain ⟨l1, l2⟩ := o.loc e1
      exact ⟨pg_name o.nd (o.slot e2) l1 l2, rfl⟩
    · cases h
  · split at h
    · rename_i hh
      rw [Option.map_eq_some_iff] at h
      obtain ⟨is, h1, h2⟩ := h
      cases h2
      obtain ⟨a1, a2, a3⟩ := cNames_ok o h1
      exact ⟨sg_tup (o.cool hh).1 a1 a2 a3, rfl⟩
    · cases h
  · cases h
theorem cSeq_ok (s : Snd cl k C) (o : Ok cl Φ k X ct W) {tg iter : Expr} {it : II} (h : cSeq C ct iter = some it) : PI X tg iter (TDI X.K cl W (dI Φ it)) := by
  unfold cSeq at h
  split at h
  · cases h
    exact si_seq (s.E o (by assumption))
  · cases h
theorem cI_ok (s : Snd cl k C) (o : Ok cl Φ k X ct W) {tg iter : Expr} {it : II} (h : cI C ct tg iter = some it) : PI X tg iter (TDI X.K cl W (dI Φ it)) := by
  unfold cI at h
  split at h
  · split at h
    · rename_i c
      obtain ⟨rfl, c2, c3⟩ := c
      rw [Option.map_eq_some_iff] at h
      obtain ⟨ie, h1, h2⟩ := h
      cases h2
      exact si_range1 (o.noMut c2).1 (o.noMut c2).2 c3 (s.E o h1)
    · split at h
      · rename_i c
        obtain ⟨rfl, c2, c3⟩ := c
        split at h
        · rw [Option.map_eq_some_iff] at h
          obtain ⟨ie, h1, h2⟩ := h
          cases h2
          exact si_enum (o.noMut c2).1 (o.noMut c2).2 c3 (s.E o h1)
        · cases h
      · exact cSeq_ok s o h
  · split at h
    · rename_i c
      obtain ⟨rfl, c2, c3, c4⟩ := c
      split at h
      · cases h
        exact si_range2 (o.noMut c2).1 (o.noMut c2).2 c3 c4 (s.E o (by assumption)) (s.E o (by assumption))
      · cases h
    · exact cSeq_ok s o h
  · exact cSeq_ok s o h
theorem cTs_ok (s : Snd cl k C) (o : Ok cl Φ k X ct W) {es : List Expr} {t : IT} (h : cTs C ct es = some t) : PTs X es (TDT X.K cl W (dT Φ t)) := by
  unfold cTs at h
  split at h
  · cases h
    exact sts_nil
  · exact pts_one (s.T o h)
  · cases h
theorem Ok.blk (o : Ok cl Φ k X ct W) (hh : ct.hot = false) (ht : ct.th = none) {scope : Scope} (hk : scope.kind = .function) (s : Shared) (H : Hp) (D : Addr) (cs : List (Str × Addr)) (fp : List Addr) : Ok cl Φ k (X.blk s H scope (compEnvC scope cs D X.env) fp) (ctIn ct scope) WF where
  N := o.N
  nd := o.nd
  sc := by
    show relabel scope X.env = relS scope ct.sc
    rw [← o.sc]
    rfl
  kind := hk
  cool := fun z => ⟨(o.cool z).1, (o.cool z).2.1, fun _ => (o.cool z).2.2 ht⟩
  heat := fun z => by
    have z : ct.hot = true := z
    rw [hh] at z
    cases z
  gd := o.gd
  room := o.room
  fixP := o.fixP
  tkn := fun u s' ⟨_, _, _, _, _, _, _, _, _, _, _, _, _, _, _, _, w⟩ => w.elim
  fnb := fun x h => h
  own := PassesOwn.never
  bn := o.bn
  gi := o.gi
  fi := o.fi
  er := fun n z => nomatch z
  xc := o.xc
  xt := o.xt
  stk := fun z => nomatch z
  tab := o.tab
  th := fun a z => nomatch z
  lm := fun x f z => nomatch z
structure LcOk [G : Glo] (cl : Cl) (Φ : Fn) (X : Cx) (W : WX) (ct : Ct) (elt tg iter : Expr) (ifs : List Expr) (scope : Scope) (q : Tg × II × IT × IE) : Prop where
  hot : ct.hot = false
  nth : ct.th = none
  ok : BlkOk X.N X.env.scope scope (ownOf ct.N scope)
  ht : ∀ j ∈ tgIx q.1, j ∈ (ownOf ct.N scope).map (·.2)
  hs : ∀ x, foldedSetIterable iter X.env x = pure x
  hi : PI X tg iter (TDI X.K cl W (dI Φ q.2.1))
  hg : ∀ (s : Shared) (H : Hp) (C : Addr) (cs : List (Str × Addr)) (fp : List Addr), PG (X.blk s H scope (compEnvC scope cs C X.env) fp) tg (tgR X.K q.1)
  hts : ∀ (s : Shared) (H : Hp) (C : Addr) (cs : List (Str × Addr)) (fp : List Addr), PTs (X.blk s H scope (compEnvC scope cs C X.env) fp) ifs (TDT X.K cl WF (dT Φ q.2.2.1))
  he : ∀ (s : Shared) (H : Hp) (C : Addr) (cs : List (Str × Addr)) (fp : List Addr), PE (X.blk s H scope (compEnvC scope cs C X.env) fp) elt (TDE X.K cl WF (dE Φ q.2.2.2))
theorem cLc_ok (s : Snd cl k C) (o : Ok cl Φ k X ct W) {elt tg iter : Expr} {ifs : List Expr} {scope : Scope} {q : Tg × II × IT × IE} (h : cLc C ct elt tg iter ifs scope = some q) : LcOk cl Φ X W ct elt tg iter ifs scope q := by
  unfold cLc at h
  split at h
  · rename_i c
    obtain ⟨c1, c2, hh, hth⟩ := c
    split at h
    · rename_i it g c e e1 e2 e3 e4
      split at h
      · rename_i hall
        cases h
        have ok : BlkOk X.N X.env.scope scope (ownOf ct.N scope) := by
          rw [o.N, o.sc]
          exact blkOk_by c1
        have ob := fun s H D cs fp => o.blk hh hth ok.kind s H D cs fp
        exact ⟨hh, hth, ok, fun j hj => by simpa using (List.all_eq_true.mp hall) j hj, folded_ok c2, cI_ok s o e1, fun s' H D cs fp => (cG_ok (ob s' H D cs fp) e2).1, fun s' H D cs fp => cTs_ok s (ob s' H D cs fp) e3, fun s' H D cs fp => s.E (ob s' H D cs fp) e4⟩
      · cases h
    · cases h
  · cases h
end
end Mv
namespace Mv
open PySem PySem.Spec L2
open PyProof.Rows hiding St

section
variable {G : Glo}
variable {cl : Cl} {Φ : Fn} {k : Nat} {X : Cx} {ct : Ct} {W : WX} {C : Cs} {pos p apos : Pos}
theorem tdl_nil {Q : List V → Hp → Prop} {K : PySem.W.Frag} {σ : L2.St} {H : Hp} (h : TDL K cl W (dL Φ .nil) σ H Q) : Q [] H := by
  obtain ⟨ρ, Z, R, h⟩ := h
  simp only [dL] at h
  exact h _ _ (Aft.refl R) [] ⟨.nil, fun i j d e a h => by simp at h⟩
theorem Ok.coolC (o : Ok cl Φ k X ct W) {f : Nat} (h : ct.hot = false ∨ ct.fh.contains f = true) : CoolC (ct.fh.contains f) X := by
  cases e : ct.hot with
  | false => exact .inl (o.cool e).2.1
  | true => exact .inr ⟨h.resolve_left (by rw [e]; exact fun z => nomatch z), o.heat e⟩
theorem cFn_ok (s : Snd cl k C) (o : Ok cl Φ k X ct W) {x : Str} {args : List Expr} {ie : IE} (h : cFn C ct x args = some ie) : PE X (.Call (.Name x p) args [] pos) (TDE X.K cl W (dE Φ ie)) := by
  unfold cFn at h
  split at h
  · rename_i f n e
    split at h
    · rename_i hg
      obtain ⟨hg, hh⟩ := hg
      rw [Option.map_eq_some_iff] at h
      obtain ⟨il, h1, h2⟩ := h
      cases h2
      obtain ⟨_, fa, fd, ps, q1, q2, q3, q4, q5, _⟩ := o.fi x f n e
      obtain ⟨g1, g2⟩ := o.glb hg
      cases args with
      | nil =>
        simp only [cL] at h1
        cases h1
        refine PE.weak (pe_callG0 q4 o.room o.gd (o.coolC hh) g1 q1 q2 q3 o.tkn (plain_ok g2).1) fun σ H Q h => ?_
        exact tdl_nil (call_ok q5 h)
      | cons a es => exact se_call q4 o.room o.gd (o.coolC hh) g1 q1 q2 q3 o.tkn q5 (cL_un h1) (plain_ok g2).1 (cL_sl s o h1)
    · cases h
  · cases h
theorem cKw_ok (s : Snd cl k C) (o : Ok cl Φ k X ct W) {x : Str} {kws : List Keyword} {ie : IE} (h : cKw C ct x kws = some ie) : PE X (.Call (.Name x p) [] kws pos) (TDE X.K cl W (dE Φ ie)) := by
  unfold cKw at h
  split at h
  · rename_i f n q e _
    split at h
    · rename_i c
      obtain ⟨c0, c1, c2, c3, hh⟩ := c
      split at h
      · rename_i il h1
        split at h
        · rename_i hl
          cases h
          obtain ⟨_, fa, fd, ps, q1, q2, q3, q4, q5, q6⟩ := o.fi x f n e
          obtain ⟨g1, g2⟩ := o.glb c2
          exact se_callp q4 o.room o.gd (o.coolC hh) g1 q1 q2 (q6 _ _ c3) o.tkn q5 c1 hl c0 (plain_ok g2).1 (cL_sk s o h1)
        · cases h
      · cases h
    · cases h
  · cases h
theorem cKm_ok (s : Snd cl k C) (o : Ok cl Φ k X ct W) {x : Str} {a : Expr} {kws : List Keyword} {ie : IE} (h : cKm C ct x a kws = some ie) : PE X (.Call (.Name x p) [a] kws pos) (TDE X.K cl W (dE Φ ie)) := by
  unfold cKm at h
  split at h
  · rename_i f n q e _
    split at h
    · rename_i c
      obtain ⟨⟨c0, c4⟩, c1, c2, c3, hh⟩ := c
      split at h
      · rename_i ia il h0 h1
        split at h
        · rename_i hl
          cases h
          obtain ⟨_, fa, fd, ps, q1, q2, q3, q4, q5, q6⟩ := o.fi x f n e
          obtain ⟨g1, g2⟩ := o.glb c2
          exact se_callm q4 o.room o.gd (o.coolC hh) g1 q1 q2 (q6 _ _ c3) o.tkn q5 c1 hl c0 c4 (plain_ok g2).1 (s.E o h0) (cL_sk s o h1)
        · cases h
      · cases h
    · cases h
  · cases h
theorem cIse_ok (o : Ok cl Φ k X ct W) {args : List Expr} {kws : List Keyword} {ie : IE} (h : cIse ct args kws = some ie) : PE X (.Call (.Name "isinstance" p) args kws pos) (TDE X.K cl W (dE Φ ie)) := by
  unfold cIse at h
  split at h
  · split at h
    · rename_i yes no e
      split at h
      · rename_i c
        obtain ⟨c1, c2, c3⟩ := c
        cases h
        obtain ⟨cv, x, _⟩ := o.xt _ yes no e
        obtain ⟨g1, g2⟩ := o.glb c3
        exact se_exi (o.er _ c1) x (o.noMut c2).1 (o.noMut c2).2 g1 (plain_ok g2).1
      · cases h
    · cases h
  · cases h
theorem cIsi_ok (s : Snd cl k C) (o : Ok cl Φ k X ct W) {args : List Expr} {kws : List Keyword} {ie : IE} (h : cIsi C ct args kws = some ie) : PE X (.Call (.Name "isinstance" p) args kws pos) (TDE X.K cl W (dE Φ ie)) := by
  unfold cIsi at h
  split at h
  · rename_i e
    cases h
    exact cIse_ok o e
  split at h
  · split at h
    · split at h
      · rename_i c
        obtain ⟨rfl, c2, c3, c4⟩ := c
        cases h
        exact se_isi (o.noMut c2).1 (o.noMut c2).2 (o.noMut c3).1 (o.noMut c3).2 c4 (s.E o (by assumption))
      · cases h
    · cases h
  · cases h
theorem lit_ok {iter : Expr} {env : Env} (h : isLitE iter = false) (v : Value) : genFold iter env v = pure v := by
  cases iter <;> first | rfl | exact nomatch h
theorem al_ok {x : Str} (h : x = "all" ∨ x = "any") : x = if decide (x = "all") = true then "all" else "any" := by
  rcases h with rfl | rfl <;> rfl
theorem cGen_ok (s : Snd cl k C) (o : Ok cl Φ k X ct W) {x : Str} {args : List Expr} {kws : List Keyword} {ie : IE} (h : cGen C ct x args kws = some ie) : PE X (.Call (.Name x p) args kws pos) (TDE X.K cl W (dE Φ ie)) := by
  unfold cGen at h
  split at h
  · split at h
    · rename_i c
      obtain ⟨c1, c2, c3, c4, c5, c6⟩ := c
      split at h
      · rename_i j it re e1 e2 e3
        cases h
        obtain ⟨cd, Pt, t1, t2, t3, t4, _⟩ := o.tab _ c4
        have g := genSB_ok c5
        rw [← o.sc] at g
        refine pe_allg (o.noMut c2).1 (o.noMut c2).2 (al_ok c1) t4 t3 (s.E o e2) (fun pins σ s' Q' ok hev => ?_)
        exact gen_name o.room (o.cool c3).2.1 o.nd g (by rw [o.N]; exact slotN_ok e1) (by rw [o.N]; exact e3) (lit_ok c6) t1 t2 ok hev
      · cases h
    · cases h
  · split at h
    · rename_i c
      obtain ⟨c1, c2, c3, c4, c5, c6, c7⟩ := c
      split at h
      · rename_i j l it re e1 e2 e3 e4
        cases h
        obtain ⟨cd, Pt, t1, t2, t3, t4, _⟩ := o.tab _ c4
        have g := genSB_ok c5
        rw [← o.sc] at g
        refine pe_allg (o.noMut c2).1 (o.noMut c2).2 (al_ok c1) t4 t3 (s.E o e3) (fun pins σ s' Q' ok hev => ?_)
        exact gen_tup o.room (o.cool c3).2.1 o.nd g c7 (by rw [o.N]; exact slotN_ok e1) (by rw [o.N]; exact slotN_ok e2) (by rw [o.N]; exact e4) (lit_ok c6) t1 t2 ok hev
      · cases h
    · cases h
  · cases h
theorem cThk_ok (o : Ok cl Φ k X ct W) {x : Str} {args : List Expr} {kws : List Keyword} {ie : IE} (h : cThk ct x args kws = some ie) : PE X (.Call (.Name x p) args kws pos) (TDE X.K cl W (dE Φ ie)) := by
  unfold cThk at h
  split at h
  · split at h
    · rename_i e
      cases h
      exact o.th x e X.pn X.xe W p pos o.tkn
    · cases h
  · cases h
theorem Ok.lam (o : Ok cl Φ k X ct W) (hh : ct.hot = false) {scope : Scope} (L : LamX.LamS X.env.scope scope) {A : Around} {outer : List Env} {s : Shared} {H : Hp} {E : XK} {f c' : Addr} (room : L2H.RoomH k (A.deeper (LamX.lamEnv X scope s.heap.objs.size f c'))) (hd : A.handled = none) (gd : A.guards = some []) :
    @Ok G.bare cl Φ k (lamN X A outer s H E scope f c') (ctLam ct scope) (fun cls d _ H => E cls d H) := by
  obtain ⟨oN, ond, osc, okind, ocool, oheat, ogd, oroom, ofixP, otkn, ofnb, oown, obn, ogi, ofi, oer, oxc, oxt, ostk, _, _, _⟩ := o
  letI := G.bare
  exact {
    N := oN
    nd := ond
    sc := rfl
    kind := L.kind
    cool := fun _ => ⟨rfl, hd, fun _ => rfl⟩
    heat := fun z => by
      have z : ct.hot = true := z
      rw [hh] at z
      cases z
    gd := gd
    room := room
    fixP := fun i hi => nomatch hi
    tkn := L2N.takes_of rfl rfl rfl rfl
    fnb := fun x z => nomatch z
    own := PassesOwn.leaving
    bn := obn
    gi := ogi
    fi := ofi
    er := fun n z => nomatch z
    xc := oxc
    xt := oxt
    stk := fun z => nomatch z
    tab := fun q z => nomatch z
    th := fun a z => nomatch z
    lm := fun x f z => nomatch z }
theorem cLam_ok (s : Snd cl k C) (o : Ok cl Φ k X ct W) {x : Str} {args : List Expr} {kws : List Keyword} {ie : IE} (h : cLam C ct x args kws = some ie) : PE X (.Call (.Name x p) args kws pos) (TDE X.K cl W (dE Φ ie)) := by
  unfold cLam at h
  split at h
  · split at h
    · rename_i f n e1 e2
      split at h
      · rename_i c
        obtain ⟨c1, c2, c3⟩ := c
        rw [Option.map_eq_some_iff] at h
        obtain ⟨ib, h1, h2⟩ := h
        cases h2
        obtain ⟨cd, Pt, t1, t2, t3, t4, t5⟩ := o.tab _ e2
        obtain ⟨rm, ga, fd, xg, st, N, a, m, l1, l2, l3, l4, l5, l6⟩ := o.lm x f e1
        obtain ⟨g1, g2⟩ := o.glb c2
        rw [← o.sc] at c3
        have L := LamX.lamS_by c3
        exact pe_lamc g1 l1 l2 (plain_ok g2).1 l3 l4 l5 t1 t2 t3 t4 (t5 _ rfl) L rfl (fun _ _ _ _ => rfl) (o.cool c1).2.1 o.gd rm o.tkn (plain_ok l6) fun A outer s' H E fl c' r hd gd => s.E (o.lam c1 L r hd gd) h1
      · cases h
    · cases h
  · cases h
theorem cCall0_ok (s : Snd cl k C) (o : Ok cl Φ k X ct W) {x : Str} {args : List Expr} {kws : List Keyword} {ie : IE} (h : cCall0 C ct x args kws = some ie) : PE X (.Call (.Name x p) args kws pos) (TDE X.K cl W (dE Φ ie)) := by
  unfold cCall0 at h
  split at h
  · rename_i ex
    subst ex
    exact cIsi_ok s o h
  split at h
  · split at h
    · rename_i b eb
      split at h
      · split at h
        · rename_i c
          obtain ⟨rfl, c2, c3, c4⟩ := c
          rw [Option.map_eq_some_iff] at h
          obtain ⟨il, h1, h2⟩ := h
          cases h2
          exact se_bi (c4.imp (fun z => (o.cool z).1) id) o.gd o.hu (o.noMut c2).1 (o.noMut c2).2 c3 (cL_sl s o h1)
        · exact cFn_ok s o h
      · cases h
    · exact cFn_ok s o h
  · split at h
    · exact cKw_ok s o h
    · exact cKm_ok s o h
    · cases h
theorem cCall_ok (s : Snd cl k C) (o : Ok cl Φ k X ct W) {x : Str} {args : List Expr} {kws : List Keyword} {ie : IE} (h : cCall C ct x args kws = some ie) : PE X (.Call (.Name x p) args kws pos) (TDE X.K cl W (dE Φ ie)) := by
  unfold cCall at h
  split at h
  · rename_i e
    cases h
    exact cThk_ok o e
  · split at h
    · rename_i e
      cases h
      exact cLam_ok s o e
    · split at h
      · rename_i e
        cases h
        exact cGen_ok s o e
      · exact cCall0_ok s o h
theorem cMut_ok (s : Snd cl k C) (o : Ok cl Φ k X ct W) {x m : Str} {args : List Expr} {ie : IE} (hl : (apos.endLine == pos.line) = true) (h : cMut C ct x m args = some ie) :
    PE X (.Call (.Attribute (.Name x p) m apos) args [] pos) (TDE X.K cl W (dE Φ ie)) := by
  unfold cMut at h
  split at h
  · rename_i i e1 e2
    obtain ⟨hv, hp⟩ := vis_ok e2
    rw [← o.sc] at hv
    obtain ⟨p1, p2⟩ := plain_ok hp
    split at h
    · split at h
      · rename_i em
        cases h
        subst em
        exact se_mut0 (o.slot e1) hv p1 p2 hl
      · cases h
    · split at h
      · rename_i c
        obtain ⟨c1, c2⟩ := c
        split at h
        · rename_i em
          rw [Option.map_eq_some_iff] at h
          obtain ⟨il, h1, h2⟩ := h
          cases h2
          subst em
          exact se_mut (m := .append) (o.slot e1) hv p1 p2 c1 hl c2 (cL_sd s o h1)
        · split at h
          · rename_i em
            rw [Option.map_eq_some_iff] at h
            obtain ⟨il, h1, h2⟩ := h
            cases h2
            subst em
            exact se_mut (m := .extend) (o.slot e1) hv p1 p2 c1 hl c2 (cL_sd s o h1)
          · split at h
            · rename_i em
              rw [Option.map_eq_some_iff] at h
              obtain ⟨il, h1, h2⟩ := h
              cases h2
              subst em
              exact se_mut (m := .popAt) (o.slot e1) hv p1 p2 c1 hl c2 (cL_sd s o h1)
            · cases h
      · cases h
  · cases h
theorem cGet_ok (s : Snd cl k C) (o : Ok cl Φ k X ct W) {x : Str} {b c : Expr} {ie : IE} (h : cGet C ct x p apos pos b c = some ie) : PE X (.Call (.Attribute (.Name x p) "get" apos) [b, c] [] pos) (TDE X.K cl W (dE Φ ie)) := by
  unfold cGet at h
  split at h
  · rename_i q
    split at h
    · cases h
      exact se_get o.hu q.1 q.2.1 q.2.2 (s.E o (by assumption)) (s.E o (by assumption)) (s.E o (by assumption))
    · cases h
  · cases h
theorem cCmp_ok (s : Snd cl k C) (o : Ok cl Φ k X ct W) {a : Expr} {ops : List CmpOp} {bs : List Expr} {ie : IE} (h : cCmp C ct a ops bs = some ie) :
    PE X (.Compare a ops bs pos) (TDE X.K cl W (dE Φ ie)) ∧ PT X (.Compare a ops bs pos) (TDT X.K cl W (dT Φ (.tb ie))) := by
  unfold cCmp at h
  split at h
  · split at h
    · rename_i e1 e2 e3
      cases h
      exact ⟨se_cmp o.hu64 e1 (s.E o e2) (s.E o e3), st_cmp o.hu64 e1 (s.E o e2) (s.E o e3)⟩
    · cases h
  · split at h
    · rename_i e1 e2 e3 e4
      cases h
      exact ⟨se_chain o.hu64 e1 (s.E o e2) (s.E o e3) (s.E o e4), st_chain o.hu64 e1 (s.E o e2) (s.E o e3) (s.E o e4)⟩
    · cases h
  · cases h
theorem cV_ok (s : Snd cl k C) (o : Ok cl Φ k X ct W) {op : BoolOp} : ∀ {es : List Expr} {ie : IE}, cV C ct op es = some ie → PE X (.BoolOp op es pos) (TDE X.K cl W (dE Φ ie))
  | [], _, h => nomatch h
  | [a], _, h => pe_one (s.E o h)
  | a :: b :: r, _, h => by
    simp only [cV] at h
    split at h
    · rename_i e1 e2
      cases h
      cases op with
      | And => exact se_and (s.E o e1) (cV_ok s o e2)
      | Or => exact se_or (s.E o e1) (cV_ok s o e2)
    · cases h
theorem cW_ok (s : Snd cl k C) (o : Ok cl Φ k X ct W) {op : BoolOp} : ∀ {es : List Expr} {ie : IT}, cW C ct op es = some ie → PW X (.BoolOp op es pos) (TDT X.K cl W (dT Φ ie))
  | [], _, h => nomatch h
  | [a], _, h => by
    cases op with
    | And => exact pw_and1 (s.T o h)
    | Or => exact pw_or1 (s.T o h)
  | a :: b :: r, _, h => by
    simp only [cW] at h
    split at h
    · rename_i e1 e2
      cases h
      cases op with
      | And => exact sw_and (s.T o e1) (cW_ok s o e2)
      | Or => exact sw_or (s.T o e1) (cW_ok s o e2)
    · cases h
theorem small_ok {n : Nat} (h : smallB n = true) : n ≤ sizeLine := Nat.le_trans (of_decide_eq_true h) (by decide)
theorem ix_ok {b : Expr} (h : isSlice b = false) : PlainIx b := by
  cases b <;> first | (intro _ _; rfl) | exact nomatch h
theorem stepE_ok (s : Snd cl k C) (o : Ok cl Φ k X ct W) {e : Expr} {ie : IE} (h : stepE C ct e = some ie) : PE X e (TDE X.K cl W (dE Φ ie)) := by
  unfold stepE at h
  split at h
  · -- a name
    split at h
    · rename_i e1 e2
      cases h
      obtain ⟨hv, hp⟩ := vis_ok e1
      rw [← o.sc] at hv
      exact se_var (o.slot e2) hv (plain_ok hp).1 (plain_ok hp).2
    · split at h
      · rename_i hg
        rw [Option.map_eq_some_iff] at h
        obtain ⟨n, h1, h2⟩ := h
        cases h2
        obtain ⟨t, hm⟩ := o.gi _ n h1
        obtain ⟨g1, g2⟩ := o.glb hg
        exact se_lit (pe_glob (v := .int n) g1 hm ⟨t, rfl⟩ (plain_ok g2).1) rfl
      · cases h
  · -- the exception's field
    split at h
    · rename_i c
      obtain ⟨c1, rfl⟩ := c
      cases h
      exact se_exw (o.er _ c1)
    · cases h
  · rw [Option.map_eq_some_iff] at h
    obtain ⟨d, h1, h2⟩ := h
    cases h2
    unfold litOf at h1
    split at h1 <;> cases h1
    · exact se_lit pe_non trivial
    · exact se_lit pe_bl rfl
    · exact se_lit pe_int rfl
    · exact se_lit pe_str rfl
  · split at h
    · cases h
      exact se_bin (s.E o (by assumption)) (s.E o (by assumption))
    · cases h
  · rw [Option.map_eq_some_iff] at h
    obtain ⟨i, h1, h2⟩ := h
    cases h2
    exact se_not (s.E o h1)
  · rw [Option.map_eq_some_iff] at h
    obtain ⟨i, h1, h2⟩ := h
    cases h2
    exact se_un (s.E o h1)
  · exact (cCmp_ok s o h).1
  · exact cV_ok s o h
  · split at h
    · cases h
      exact se_ite (s.T o (by assumption)) (s.E o (by assumption)) (s.E o (by assumption))
    · cases h
  · split at h
    · rename_i il e1
      split at h
      · cases h
        exact se_tuple (small_ok (by assumption)) (cL_sd s o e1)
      · cases h
    · cases h
  · split at h
    · rename_i il e1
      split at h
      · cases h
        exact se_list (small_ok (by assumption)) (cL_sd s o e1)
      · cases h
    · cases h
  · split at h
    · cases h
      exact se_sl (s.E o (by assumption)) (cO_ok s o (by assumption)) (cO_ok s o (by assumption))
    · cases h
  · split at h
    · rename_i e1 e2 e3
      cases h
      exact se_ix o.hu (ix_ok e1) (s.E o e2) (s.E o e3)
    · cases h
  · split at h
    · rename_i ek
      rw [Option.map_eq_some_iff] at h
      obtain ⟨q, h1, h2⟩ := h
      cases h2
      subst ek
      have l := cLc_ok s o h1
      exact se_lc ((o.cool l.hot).2.2 l.nth) (o.cool l.hot).1 o.nd l.ok l.ht l.hs l.hi l.hg l.hts l.he
    · cases h
  · cases h
    exact se_dnew
  · exact cCall_ok s o h
  · split at h
    · rename_i em
      subst em
      split at h
      · exact cGet_ok s o h
      · cases h
    · split at h
      · rename_i hl
        exact cMut_ok s o hl h
      · cases h
  · cases h
theorem plainT_ok {e : Expr} {env : Env} (h : plainT e = true) (whole : Sem Value) : isTrue e env whole = (do let v ← whole; standAt e.pos; holding [v] (truthy v)) := by
  cases e <;> first | rfl | exact nomatch h
theorem stepT_ok (s : Snd cl k C) (o : Ok cl Φ k X ct W) {e : Expr} {ie : IT} (h : stepT C ct e = some ie) : PT X e (TDT X.K cl W (dT Φ ie)) := by
  unfold stepT at h
  split at h
  · rw [Option.map_eq_some_iff] at h
    obtain ⟨i, h1, h2⟩ := h
    cases h2
    exact st_not (s.T o h1)
  · exact (cW_ok s o h).pt
  · rw [Option.map_eq_some_iff] at h
    obtain ⟨i, h1, h2⟩ := h
    cases h2
    exact (cCmp_ok s o h1).2
  · split at h
    · rename_i e1
      rw [Option.map_eq_some_iff] at h
      obtain ⟨i, h1, h2⟩ := h
      cases h2
      exact st_truth (s.E o h1) (plainT_ok e1)
    · cases h
theorem Ok.bk (o : Ok cl Φ k X ct W) : X.env.blockKind = .function := by
  unfold Env.blockKind
  rw [o.sc, o.kind]
  rfl
theorem used_ok (o : Ok cl Φ k X ct W) {e : Expr} {t : Str} {tp : Pos} {line : Nat} : swapsWith e (some (.Name t tp)) line X.env = pure (usedB ct e t tp) := by
  have hk : X.env.kindOf t = ct.sc.names.lookup t := by
    show X.env.scope.names.lookup t = _
    rw [o.sc]
  have go : ∀ (e : Expr) (s : Scope), (do
      let some scope := (some s : Option Scope) | return false
      return X.env.blockKind == .function && X.env.kindOf t == some .local && tp.line == e.pos.line && !(scope.names.any fun (n, k) => n == t && (k == .local || k == .cell)) : Sem Bool) =
      pure ((ct.sc.names.lookup t == some .local) && (tp.line == e.pos.line) && !(s.names.any fun q => q.1 == t && (q.2 == .local || q.2 == .cell))) := by
    intro e s
    show (pure (X.env.blockKind == .function && X.env.kindOf t == some .local && tp.line == e.pos.line && !(s.names.any fun (n, k) => n == t && (k == .local || k == .cell))) : Sem Bool) = _
    rw [o.bk, hk]
    rfl
  cases e <;> first | rfl | exact go _ _
theorem noComp_ok {e : Expr} {t : Option Expr} {line : Nat} {env : Env} (h : isComp e = false) : swapsWith e t line env = pure false := by
  cases e <;> first | rfl | exact nomatch h
theorem used_comp {e : Expr} {t : Str} {tp : Pos} (h : isComp e = false) : usedB ct e t tp = false := by
  cases e <;> first | rfl | exact nomatch h
theorem noSwapT {ts : List Expr} {kt : Nat} {pt : Pos} {e : Expr} {env : Env} (h : isTupL e = false) : swappedStores [.Tuple ts kt pt] e env = pure none := by
  cases e <;> first | rfl | exact nomatch h
theorem notUsed {e t : Expr} {line : Nat} {env : Env} (ht : ∀ x p, t ≠ .Name x p) : swapsWith e (some t) line env = pure false := by
  cases e <;> first | rfl | (cases t <;> first | rfl | exact (ht _ _ rfl).elim)
theorem notStarE {a : Expr} (h : isStar a = false) : (match a with | .Starred .. => true | _ => false) = false := by
  cases a <;> first | rfl | exact nomatch h
theorem fold_ok {vs : List Expr} (h : foldB vs = false) : vs.all (foldedForSure 8) = false ∧ vs.all (constantsAlone 8) = false := by
  unfold foldB at h
  simpa only [Bool.or_eq_false_iff] using h
theorem beqF {x y : Str} (h : x ≠ y) : (x == y) = false := by simpa using h
theorem swap2 {env : Env} {x y : Str} {a b : Expr} {px py pt pt2 : Pos} {kt k2 : Nat} (bk : env.blockKind = .function) (kx : env.kindOf x = some .local) (ky : env.kindOf y = some .local) (hl : px.line = py.line) (ne : x ≠ y) (sa : isStar a = false) (sb : isStar b = false)
    (f1 : [a, b].all (foldedForSure 8) = false) (f2 : [a, b].all (constantsAlone 8) = false) : swappedStores [.Tuple [.Name x px, .Name y py] kt pt] (.Tuple [a, b] k2 pt2) env = pure (some [x, y]) := by
  have n1 := beqF ne
  have n2 := beqF ne.symm
  unfold swappedStores
  simp [bk, kx, ky, f1, f2, hl, List.filterMap_cons, Expr.pos, List.eraseDups_cons]
  split
  · exact nomatch sa
  · split
    · exact nomatch sb
    · simp [List.eraseDups_cons, List.filter_cons, n1, n2]
theorem swap3 {env : Env} {x y z : Str} {a b c : Expr} {px py pz pt pt2 : Pos} {kt k2 : Nat} (bk : env.blockKind = .function) (kx : env.kindOf x = some .local) (ky : env.kindOf y = some .local) (kz : env.kindOf z = some .local) (hl : px.line = py.line) (hl2 : px.line = pz.line) (ne : x ≠ y) (ne2 : x ≠ z) (ne3 : y ≠ z) (sa : isStar a = false) (sb : isStar b = false) (sc : isStar c = false)
    (f1 : [a, b, c].all (foldedForSure 8) = false) (f2 : [a, b, c].all (constantsAlone 8) = false) : swappedStores [.Tuple [.Name x px, .Name y py, .Name z pz] kt pt] (.Tuple [a, b, c] k2 pt2) env = pure (some [x, y, z]) := by
  have n1 := beqF ne
  have n2 := beqF ne.symm
  have n3 := beqF ne2
  have n4 := beqF ne2.symm
  have n5 := beqF ne3
  have n6 := beqF ne3.symm
  have hl3 : py.line = pz.line := hl ▸ hl2
  unfold swappedStores
  simp [bk, kx, ky, kz, f1, f2, hl, hl2, hl3, List.filterMap_cons, Expr.pos, List.eraseDups_cons]
  split
  · exact nomatch sa
  · split
    · exact nomatch sb
    · split
      · exact nomatch sc
      · simp [List.eraseDups_cons, List.filter_cons, n1, n2, n3, n4, n5, n6]
theorem neq_beq {x y : Str} (h : x ≠ y) : (x == y) = false := by simpa using h
theorem cPar_ok (s : Snd cl k C) (o : Ok cl Φ k X ct W) {ts vs : List Expr} {i : IS} {kt k2 : Nat} {pt pt2 : Pos} (h : cPar C ct ts vs = some i) : PS X (.Assign [.Tuple ts kt pt] (.Tuple vs k2 pt2) pos) (TDS X.K cl W ct.P (dS Φ ct.P i)) := by
  have lc : ∀ {x : Str}, lcl ct x = true → X.env.scope.names.lookup x = some .local := fun {x} q => by
    rw [o.sc]
    exact of_decide_eq_true q
  have kb : ∀ {x : Str}, lcl ct x = true → (X.env.kindOf x == some .local) = true := fun {x} q => by
    show (X.env.scope.names.lookup x == some .local) = true
    rw [lc q]
    rfl
  unfold cPar at h
  split at h
  · cases h
  rename_i hh
  have hh2 : ct.hot = false ∧ ct.th = none := by simpa using hh
  obtain ⟨hh, hth⟩ := hh2
  split at h
  · rename_i x px y py a b
    split at h
    · rename_i i j il e1 e2 e3
      split at h
      · rename_i c
        obtain ⟨c1, c2, c3, c4⟩ := c
        simp only [Bool.and_eq_true] at c1
        obtain ⟨⟨l1, l2⟩, l3⟩ := c1
        cases h
        obtain ⟨f1, f2⟩ := fold_ok c4
        have u := cL_un e3
        simp only [allUn, List.all_cons, List.all_nil, Bool.and_eq_true, Bool.not_eq_true', Bool.and_true] at u
        refine ss_par2 ((o.cool hh).2.2 hth) (o.cool hh).1 o.nd (o.slot e1) (o.slot e2) c3 (lc l1) (lc l2) ?_ (cL_sl s o e3)
        exact swap2 o.bk (lc l1) (lc l2) (by simpa using l3) c2 u.1 u.2 f1 f2
      · cases h
    · cases h
  · rename_i x px y py z pz a b c
    split at h
    · rename_i i j l il e1 e2 e4 e3
      split at h
      · rename_i c
        obtain ⟨c1, ⟨c2, c5, c6⟩, ⟨c3, c7, c8⟩, c4⟩ := c
        simp only [Bool.and_eq_true] at c1
        obtain ⟨⟨⟨⟨l1, l2⟩, l3⟩, l4⟩, l5⟩ := c1
        cases h
        obtain ⟨f1, f2⟩ := fold_ok c4
        have u := cL_un e3
        simp only [allUn, List.all_cons, List.all_nil, Bool.and_eq_true, Bool.not_eq_true', Bool.and_true] at u
        refine ss_par3 ((o.cool hh).2.2 hth) (o.cool hh).1 o.nd (o.slot e1) (o.slot e2) (o.slot e4) c3 c7 c8 (lc l1) (lc l2) (lc l3) ?_ (cL_sl s o e3)
        exact swap3 o.bk (lc l1) (lc l2) (lc l3) (by simpa using l4) (by simpa using l5) c2 c5 c6 u.1 u.2.1 u.2.2 f1 f2
      · cases h
    · cases h
  · cases h
theorem cAsg_ok (s : Snd cl k C) (o : Ok cl Φ k X ct W) {tg e : Expr} {i : IS} (h : cAsg C ct tg e = some i) : PS X (.Assign [tg] e pos) (TDS X.K cl W ct.P (dS Φ ct.P i)) := by
  unfold cAsg at h
  split at h
  · rename_i x px
    split at h
    · rename_i hu
      split at h
      · rename_i elt t iter ifs kk scope pp
        split at h
        · rename_i c
          obtain ⟨rfl, c2⟩ := c
          split at h
          · rename_i j q e1 e2
            cases h
            have l := cLc_ok s o e2
            refine ss_asgLc o.fixP ((o.cool l.hot).2.2 l.nth) (o.cool l.hot).1 o.nd (o.slot e1) (by rw [o.sc]; exact of_decide_eq_true c2) ?_ l.ok l.ht l.hs l.hi l.hg l.hts l.he
            rw [used_ok o, hu]
          · cases h
        · cases h
      · cases h
    · rename_i hu
      split at h
      · rename_i g ie e1 e2
        cases h
        obtain ⟨g1, g2⟩ := cG_ok o e1
        refine ss_asg o.fixP ?_ rfl g2 (s.E o e2) g1
        show swapsWith e (some (.Name x px)) pos.line X.env = _
        rw [used_ok o, show usedB ct e x px = false by simpa using hu]
      · cases h
  · rename_i ts kt pt
    split at h
    · split at h
      · rename_i hc
        obtain ⟨t, ht, hx⟩ := List.any_eq_true.mp hc
        split at hx
        · rename_i x px
          have hk : X.env.kindOf x ≠ some .local := fun z => by
            have z : X.env.scope.names.lookup x = some .local := z
            rw [o.sc] at z
            simp [lcl, z] at hx
          split at h
          · rename_i g ie e1 e2
            cases h
            obtain ⟨g1, g2⟩ := cG_ok o e1
            exact ss_asg o.fixP rfl (noSwapC ht hk) g2 (s.E o e2) g1
          · cases h
        · cases hx
      · exact cPar_ok s o h
    · split at h
      · rename_i ht
        split at h
        · rename_i g ie e1 e2
          cases h
          obtain ⟨g1, g2⟩ := cG_ok o e1
          have hs : swapsWithSole [.Tuple ts kt pt] e pos.line X.env = pure false := by
            show swapsWith e (some (.Tuple ts kt pt)) pos.line X.env = _
            exact notUsed (fun x p q => by cases q)
          exact ss_asg o.fixP hs (noSwapT ht) g2 (s.E o e2) g1
        · cases h
      · cases h
  · rename_i x px kx pp
    split at h
    · rename_i j ik iv e1 e2 e3 e4 e5
      cases h
      obtain ⟨hv, hp⟩ := vis_ok e1
      rw [← o.sc] at hv
      obtain ⟨p1, p2⟩ := plain_ok hp
      have hs : swapsWithSole [.Subscript (.Name x px) kx pp] e pos.line X.env = pure false := by
        show swapsWith e (some (.Subscript (.Name x px) kx pp)) pos.line X.env = _
        exact notUsed (fun x p q => by cases q)
      refine ss_setix o.hu (o.slot e3) hv p1 p2 hs rfl ?_ (s.E o e5) (s.E o e4)
      intro v
      cases kx <;> first | rfl | exact nomatch e2
    · cases h
  · cases h
theorem cIH_ok (s : Snd cl k C) (o : Ok cl Φ k X ct W) {tg iter : Expr} {it : II} (h : cIH C ct iter = some it) : L2H.PIH X tg iter (TDI X.K cl W (dI Φ it)) := by
  unfold cIH at h
  split at h
  · split at h
    · rename_i c
      obtain ⟨rfl, c2, c3⟩ := c
      rw [Option.map_eq_some_iff] at h
      obtain ⟨ie, h1, h2⟩ := h
      cases h2
      exact si_range1H (o.noMut c2).1 (o.noMut c2).2 c3 (s.E o h1)
    · cases h
  · cases h
theorem exF_ne {c f : Nat} {p : Mv.D} (h : f < 1000000) : exF Φ c p f = Φ f := by
  funext xs
  simp only [exF]
  rw [if_neg (by omega), if_neg (by omega)]
/-- within the body of try -/
theorem Ok.tr (o : Ok cl Φ k X ct W) {W' : WX} {pn : List (Addr × Obj)} {xe : Value → Shared → Prop} (tk : L2N.Takes (X.tr pn xe) W') (ow : PassesOwn (model X.prog X.w) X.A X.env xe) (hh : ct.hot = false) (he : ct.er = none) : Ok cl Φ k (X.tr pn xe) ct W' where
  N := o.N
  nd := o.nd
  sc := o.sc
  kind := o.kind
  cool := o.cool
  heat := fun z => by rw [hh] at z; cases z
  gd := o.gd
  room := o.room
  fixP := o.fixP
  tkn := tk
  fnb := o.fnb
  own := ow
  bn := o.bn
  gi := o.gi
  fi := o.fi
  er := fun n z => by rw [he] at z; cases z
  xc := o.xc
  xt := o.xt
  stk := o.stk
  tab := o.tab
  th := o.th
  lm := o.lm
/-- within a suite that names its exception or not -/
theorem Ok.suite {G' : Glo} (o : @Ok G cl Φ k X ct W) (hT : G'.bare = G.bare) {a : Addr} {oe : Obj} {pn : List (Addr × Obj)} {cls : Value} {d : Option Addr} (hz : L2N.Zn cls d oe) (hd : ∃ vs, oe.data = .fields vs) {c : Nat} {p : Mv.D} {i : Option Nat} {n : Option Str}
    (fx : ∀ j ∈ G'.fix, j ∈ (ctSu ct i n).P) (er : ∀ m, n = some m → @ErOk G' (X.suite a ((a, oe) :: pn)) cl (exF Φ c p) m) : @Ok G' cl (exF Φ c p) k (X.suite a ((a, oe) :: pn)) (ctSu ct i n) WF := by
  obtain ⟨oN, ond, osc, okind, ocool, oheat, ogd, oroom, ofixP, otkn, ofnb, oown, obn, ogi, ofi, oer, oxc, oxt, ostk, _, _, _⟩ := o
  letI := G'
  exact {
    N := oN
    nd := ond
    sc := osc
    kind := okind
    cool := fun z => nomatch z
    heat := fun _ => by
      obtain ⟨vs, hv⟩ := hd
      exact ⟨(a, oe), ⟨rfl, vs, hv, hz.2.2 vs hv⟩, List.mem_cons_self⟩
    gd := ogd
    room := ⟨oroom.dp, oroom.un⟩
    fixP := fx
    tkn := fun u s' ⟨_, _, _, _, _, _, _, _, _, _, _, _, _, _, _, _, w⟩ => w.elim
    fnb := ofnb
    own := PassesOwn.never
    bn := obn
    gi := ogi
    fi := fun x f m h => by
      obtain ⟨h1, fa, fd, ps, q1, q2, q3, q4, q5, q6⟩ := ofi x f m h
      rw [exF_ne h1]
      refine ⟨h1, fa, fd, ps, q1, q2, q3, ?_, q5, q6⟩
      rw [hT]
      exact q4
    er := er
    xc := oxc
    xt := oxt
    stk := fun z => nomatch z
    tab := fun q z => nomatch z
    th := fun a z => nomatch z
    lm := fun x f z => nomatch z }
theorem cH_ok (s : Snd cl k C) (o : Ok cl Φ k X ct W) (hh : ct.hot = false) : ∀ {hs : List ExceptHandler} {ih : IH}, cH C ct hs = some ih → ∃ l, MixOk X hs l ∧ HdR X.K cl Φ ct.P ih l
  | [], _, h => by
    simp only [cH] at h
    cases h
    exact ⟨[], .nil, .nil⟩
  | .ExceptHandler none _ _ _ :: _, _, h => by simp [cH] at h
  | .ExceptHandler (some e) nm [] _ :: _, _, h => by cases e <;> cases nm <;> simp [cH] at h
  | .ExceptHandler (some e) nm (b :: su) ps :: r, ih, h => by
    cases e with
    | Name x np =>
      cases nm with
      | none =>
        simp only [cH] at h
        split at h
        · rename_i yes no ib ih2 e1 e2 e3
          split at h
          · rename_i hg
            cases h
            obtain ⟨l, m1, m2⟩ := cH_ok s o hh e3
            obtain ⟨cv, x1, _⟩ := o.xt _ yes no e1
            obtain ⟨g1, g2⟩ := o.glb hg
            refine ⟨_, .bare (ts := sut X.K cl Φ ct.P yes ib none) (x1.names g1 (plain_ok g2).1) (fun a oe cls d pn hz hd => ⟨fun pins s1 σ H D I hw => ?_⟩) m1, .cons (fun c hc => (x1.yes c hc).1) (fun c hc => (x1.no c hc).1) m2⟩
            obtain ⟨c, p, _, _, hw⟩ := hw
            exact (s.B (o.suite (G' := G) rfl hz hd (c := c) (p := p) (i := none) (n := none) o.fixP fun m z => nomatch z) e2).run pins s1 σ H D I hw
          · cases h
        · cases h
      | some n =>
        simp only [cH] at h
        split at h
        · rename_i i ei
          split at h
          · rename_i yes no ib ih2 e1 e2 e3
            split at h
            · rename_i hg
              obtain ⟨hg, hl, hp⟩ := hg
              cases h
              obtain ⟨l, m1, m2⟩ := cH_ok s o hh e3
              obtain ⟨cv, x1, x2⟩ := o.xt _ yes no e1
              obtain ⟨g1, g2⟩ := o.glb hg
              have hk : X.env.kindOf n = some .local := by
                show X.env.scope.names.lookup n = _
                rw [o.sc]
                exact of_decide_eq_true hl
              refine ⟨_, .named (ts := sut X.K cl Φ ct.P yes ib (some i)) (x1.names g1 (plain_ok g2).1) (o.slot ei) hk (fun a oe cls d pn hz hd => ⟨fun pins s1 σ H D I hw => ?_⟩) m1, .cons (fun c hc => (x1.yes c hc).1) (fun c hc => (x1.no c hc).1) m2⟩
              obtain ⟨c, p, dd, v, rfl, hy, rfl, hw⟩ := hw
              refine (s.B (G := gloE G.toTabC X.K i a dd v p) (o.suite (G' := gloE G.toTabC X.K i a dd v p) rfl hz hd (c := c) (p := p) (i := some i) (n := some n) (fun j hj => ?_) fun m z => ?_) e2).run pins s1 σ H D I hw
              · have hj : j ∈ [i] := hj
                rw [List.mem_singleton.mp hj]
                exact List.mem_cons_self
              · cases z
                exact ⟨X, i, a, oe, pn, c, p, dd, v, rfl, o.slot ei, .inl hk, (plain_ok hp).1, (plain_ok hp).2, hz, hd, rfl, rfl, x2 c hy, fun σ H Z f => f⟩
            · cases h
          · cases h
        · cases h
    | _ => cases nm <;> simp [cH] at h
theorem cS_ok (s : Snd cl k C) (o : Ok cl Φ k X ct W) {st : Stmt} {i : IS} (h : cS C ct st = some i) : PS X st (TDS X.K cl W ct.P (dS Φ ct.P i)) := by
  unfold cS at h
  split at h
  · split at h
    · rename_i c ie e1 e2
      split at h
      · rename_i q
        obtain ⟨hh, hg, hs⟩ := q
        cases h
        obtain ⟨fI, D, M⟩ := o.xc _ c e1
        obtain ⟨g1, g2⟩ := o.glb hg
        exact ss_raise M (o.cool hh).1 o.room o.tkn g1 (plain_ok g2).1 hs (s.E o e2)
      · cases h
    · cases h
  · split at h
    · rename_i ib ih e1 e2
      split at h
      · rename_i q
        obtain ⟨hh, hb, he⟩ := q
        cases h
        obtain ⟨l, m1, m2⟩ := cH_ok s o hh e2
        obtain ⟨s1, s2⟩ := o.stk hb
        exact ss_try o.fixP o.nd s1 s2 o.tkn (fun W' pn xe tk ow => s.B (o.tr tk ow hh he) e1) m1 m2
      · cases h
    · cases h
  · split at h
    · rename_i e1
      rw [Option.map_eq_some_iff] at h
      obtain ⟨j, h1, h2⟩ := h
      cases h2
      exact ss_expr (noComp_ok e1) (s.E o h1)
    · cases h
  · exact cAsg_ok s o h
  · split at h
    · rename_i e1 e2 e3
      cases h
      obtain ⟨l1, l2⟩ := o.loc e1
      exact ss_aug o.fixP o.nd (o.slot e2) l1 l2 (s.E o e3)
    · cases h
  · split at h
    · cases h
      exact ss_if (s.T o (by assumption)) (s.B o (by assumption)) (s.B o (by assumption))
    · cases h
  · split at h
    · rename_i e1 e2 e3 e4
      cases h
      split at e2
      · rename_i hh
        exact ss_forH o.fixP o.own (o.heat hh) (folded_ok e1) (cIH_ok s o e2) (cG_ok o e3).1 (s.B o e4)
      · rename_i hh
        exact ss_for o.fixP o.own (o.cool (by simpa using hh)).1 (folded_ok e1) (cI_ok s o e2) (cG_ok o e3).1 (s.B o e4)
    · cases h
  · split at h
    · rename_i e1 e2
      cases h
      exact ss_while o.own (s.T o e1) (s.B o e2)
    · cases h
  · rw [Option.map_eq_some_iff] at h
    obtain ⟨j, h1, h2⟩ := h
    cases h2
    exact ss_ret (s.E o h1)
  · cases h; exact ss_retN
  · cases h; exact ss_pass
  · cases h; exact ss_break
  · cases h; exact ss_continue
  · cases h
theorem stepB_ok (s : Snd cl k C) (o : Ok cl Φ k X ct W) : ∀ {sts : List Stmt} {i : IB}, stepB C ct sts = some i → PSs X sts (TDS X.K cl W ct.P (dB Φ ct.P i))
  | [], _, h => by
    simp only [stepB] at h
    cases h
    exact sb_nil
  | st :: r, _, h => by
    simp only [stepB] at h
    split at h
    · rename_i e1 e2
      cases h
      exact sb_cons (cS_ok s o e1) (stepB_ok s o e2)
    · cases h
theorem comp_ok (cl : Cl) (k : Nat) : ∀ n, Snd cl k (comp n)
  | 0 => ⟨fun _ h => (nomatch h), fun _ h => (nomatch h), fun _ h => (nomatch h)⟩
  | n + 1 => ⟨fun o h => stepE_ok (comp_ok cl k n) o h, fun o h => stepT_ok (comp_ok cl k n) o h, fun o h => stepB_ok (comp_ok cl k n) o h⟩
end
end Mv
namespace Mv
open PySem PySem.Spec L2
open PyProof.Rows hiding St

/-- a def of the text: its name, its statement, its slots, its parameters, those that are never stored to -/
structure Dx where
  x : Str
  st : Stmt
  N : List Str
  ps : List Str
  P : List Nat
  tab : Option (Option Str) := none
  /-- its one parameter is a lambda -/
  th : Option Str := none
structure Lib where
  ds : List Dx
  ki : List (Str × List Str × List Nat)
  bn : List Str
  ir : List IB
  xc : List (Str × Nat) := []
  xt : List (Str × List Nat × List Nat) := []
  gi : List (Str × Int) := []
  /-- the defs that may be called within an except suite -/
  fh : List Nat := []
def fiOf : Nat → List Dx → List (Str × Nat × Nat)
  | _, [] => []
  | i, d :: r => if d.th.isSome = true then fiOf (i + 1) r else (d.x, i, d.ps.length) :: fiOf (i + 1) r
def lmOf : Nat → List Dx → List (Str × Nat)
  | _, [] => []
  | i, d :: r => if d.th.isSome = true then (d.x, i) :: lmOf (i + 1) r else lmOf (i + 1) r
def isLam : Option (Option Str) → Bool
  | some (some _) => true
  | _ => false
def Lib.ct (L : Lib) (d : Dx) : Ct := { N := d.N, sc := defScope d.st, fnb := fun _ => true, P := d.P, fi := fiOf 0 L.ds, ki := L.ki, bn := L.bn, hot := false, er := none, body := true, xc := L.xc, xt := L.xt, gi := L.gi, fh := L.fh, tab := d.tab, th := d.th, lm := if isLam d.tab = true then lmOf 0 L.ds else [] }
def Lib.tb (L : Lib) : Nat → Option Fd := fun i => match L.ds[i]?, L.ir[i]? with
  | some d, some b => some { np := d.ps.length, nn := d.N.length, P := d.P, body := b, lam := isLam d.tab }
  | _, _ => none
/-- the tables of a text -/
def tabsOf (L : Lib) (K : PySem.W.Frag) : List (Addr × Addr × Option Str) := L.ds.filterMap fun d => match d.tab with
  | some q => (PySem.W.tabIn K d.x).map fun cp => (cp.1, cp.2, q)
  | none => none
/-- no lambda: one kind of table -/
theorem uni_gen {L : Lib} {K : PySem.W.Frag} (h : (L.ds.all fun d => d.tab.isNone || decide (d.tab = some none)) = true) : ∀ p ∈ tabsOf L K, ∀ p' ∈ tabsOf L K, p.2.1 = p'.2.1 → p.2.2 = p'.2.2 := by
  have all : ∀ p ∈ tabsOf L K, p.2.2 = none := fun p hp => by
    obtain ⟨dx, hdx, e⟩ := List.mem_filterMap.mp hp
    have hr := (List.all_eq_true.mp h) dx hdx
    cases et : dx.tab with
    | none => rw [et] at e; cases e
    | some tq =>
      rw [et] at e hr
      simp only [Option.isNone_some, Bool.false_or, decide_eq_true_eq, Option.some.injEq] at hr
      obtain ⟨cp, e1, e2⟩ := Option.map_eq_some_iff.mp e
      rw [← e2]
      exact hr
  intro p hp p' hp' _
  rw [all p hp, all p' hp']
/-- a def's table -/
def TabF (K : PySem.W.Frag) (d : Dx) (fd : FuncData) : Prop := ∀ q, d.tab = some q → ∃ c P, PySem.W.tabIn K d.x = some (c, P) ∧ fd.code = .ref c ∧ K.lookup P = none
theorem tabF_of {K : PySem.W.Frag} {d : Dx} {f : Addr} {fd : FuncData} {c P : Addr} {oc cc : Value} {od co : Option Addr} {sl cs : Array (Option Value)} {vs : Array Value} (ha : PySem.W.nsIn K mainGlobals d.x = some (some (.ref f))) (hl : K.lookup f = some ⟨oc, od, .func fd, sl⟩) (hd : fd.code = .ref c) (ht : K.lookup c = some ⟨cc, co, .fields vs, cs⟩) (hv : vs[11]? = some (.ref P)) (hn : K.lookup P = none) : TabF K d fd := fun q _ => by
  refine ⟨c, P, ?_, hd, hn⟩
  unfold PySem.W.tabIn
  simp only [ha, hl, hd, ht, hv]
theorem tabF_no {K : PySem.W.Frag} {d : Dx} {fd : FuncData} (h : d.tab = none) : TabF K d fd := fun q hq => by
  rw [h] at hq
  cases hq
/-- what stands behind the top of the text -/
structure Here (L : Lib) (K : PySem.W.Frag) (mg : Str → Option Value) (prog : Program) (cl : Cl) : Prop where
  d : ∀ (i : Nat) (d : Dx), L.ds[i]? = some d → ∃ fa fd, Fun K d.x d.x d.st fa fd ∧ TabF K d fd ∧ mg d.x = some (.ref fa) ∧ Binds K fd d.ps [] ∧ ∀ ks perm, (d.x, ks, perm) ∈ L.ki → KwB K fd d.ps ks perm
  uni : ∀ p ∈ tabsOf L K, ∀ p' ∈ tabsOf L K, p.2.1 = p'.2.1 → p.2.2 = p'.2.2
  bn : ∀ x, x ∈ L.bn → mg x = none
  gi : ∀ x n, L.gi.lookup x = some n → ∃ t, mg x = some (.int n t)
  xc : ∀ x c, L.xc.lookup x = some c → ∃ fI D, MkF K mg prog fI D x (cl c)
  xt : ∀ x yes no, L.xt.lookup x = some (yes, no) → ∃ cv, XtF K mg cl x cv yes no ∧ ∀ c, yes.contains c = true → XcF K (cl c)
def scopeB (N ps : List Str) (sc : Scope) : Bool :=
  decide (sc.kind = .function) && decide (sc.isCoroutine = false) && decide (sc.isGenerator = false) && decide N.Nodup && decide (N.take ps.length = ps) &&
    (ps.all fun x => decide (sc.names.lookup x = some .local) || decide (sc.names.lookup x = some .cell)) && (sc.names.all fun y => decide (y.2 ≠ .free))
theorem scopeB_ok {N ps : List Str} {sc : Scope} (h : scopeB N ps sc = true) : FnScope N ps sc := by
  unfold scopeB at h
  simp only [Bool.and_eq_true, List.all_eq_true, decide_eq_true_eq, Bool.or_eq_true] at h
  obtain ⟨⟨⟨⟨⟨⟨h1, h2⟩, h3⟩, h4⟩, h5⟩, h6⟩, h7⟩ := h
  exact ⟨h1, h2, h3, h4, h5, h6, h7⟩
def fuel : Nat := 200
def lamB (d : Dx) : Bool := (match d.tab with
  | some (some n) => decide ((d.x ++ ".<locals>.") ++ "<lambda>" = n)
  | _ => true) && (match d.th with
  | some a => plainN a && decide (d.ps = [a]) && d.P.contains 0 && !isLam d.tab
  | none => true)
/-- the text is what the small language says -/
structure Same (L : Lib) : Prop where
  sc : (L.ds.all fun d => scopeB d.N d.ps (defScope d.st)) = true
  ir : (L.ds.map fun d => (comp fuel).B (L.ct d) (defBody d.st)) = L.ir.map some
  few : L.ds.length < 1000000
  hot : ∀ f ∈ L.fh, ∀ d, L.ds[f]? = some d → (comp fuel).B { L.ct d with hot := true, body := false, lm := [] } (defBody d.st) = L.ir[f]?
  lq : (L.ds.all fun d => lamB d) = true
theorem fi_get : ∀ {ds : List Dx} {i0 : Nat} {x : Str} {f n : Nat}, (fiOf i0 ds).lookup x = some (f, n) → ∃ d, i0 ≤ f ∧ ds[f - i0]? = some d ∧ d.x = x ∧ n = d.ps.length ∧ d.th = none
  | [], _, _, _, _, h => by simp [fiOf] at h
  | d :: r, i0, x, f, n, h => by
    have up : ∀ {d' : Dx}, i0 + 1 ≤ f → r[f - (i0 + 1)]? = some d' → i0 ≤ f ∧ (d :: r)[f - i0]? = some d' := fun {d'} h1 h2 => by
      refine ⟨by omega, ?_⟩
      rw [show f - i0 = (f - (i0 + 1)) + 1 by omega]
      simpa using h2
    unfold fiOf at h
    split at h
    · obtain ⟨d', h1, h2, h3, h4⟩ := fi_get h
      exact ⟨d', (up h1 h2).1, (up h1 h2).2, h3, h4⟩
    · rename_i hn
      rw [List.lookup_cons] at h
      split at h
      · rename_i e
        cases h
        refine ⟨d, Nat.le_refl _, by simp, (beq_iff_eq.mp e).symm, rfl, by simpa using hn⟩
      · obtain ⟨d', h1, h2, h3, h4⟩ := fi_get h
        exact ⟨d', (up h1 h2).1, (up h1 h2).2, h3, h4⟩
theorem lm_get : ∀ {ds : List Dx} {i0 : Nat} {x : Str} {f : Nat}, (lmOf i0 ds).lookup x = some f → ∃ d a, i0 ≤ f ∧ ds[f - i0]? = some d ∧ d.x = x ∧ d.th = some a
  | [], _, _, _, h => by simp [lmOf] at h
  | d :: r, i0, x, f, h => by
    have up : ∀ {d' : Dx}, i0 + 1 ≤ f → r[f - (i0 + 1)]? = some d' → i0 ≤ f ∧ (d :: r)[f - i0]? = some d' := fun {d'} h1 h2 => by
      refine ⟨by omega, ?_⟩
      rw [show f - i0 = (f - (i0 + 1)) + 1 by omega]
      simpa using h2
    unfold lmOf at h
    split at h
    · rename_i hn
      rw [List.lookup_cons] at h
      split at h
      · rename_i e
        cases h
        obtain ⟨a, ea⟩ := Option.isSome_iff_exists.mp hn
        refine ⟨d, a, Nat.le_refl _, by simp, (beq_iff_eq.mp e).symm, ea⟩
      · obtain ⟨d', a, h1, h2, h3, h4⟩ := lm_get h
        exact ⟨d', a, (up h1 h2).1, (up h1 h2).2, h3, h4⟩
    · obtain ⟨d', a, h1, h2, h3, h4⟩ := lm_get h
      exact ⟨d', a, (up h1 h2).1, (up h1 h2).2, h3, h4⟩
section
variable {L : Lib} {P : Program} {w : World} {K : PySem.W.Frag} {mg : Str → Option Value} {cl : Cl}
theorem Same.get (S : Same L) {i : Nat} {d : Dx} (h : L.ds[i]? = some d) : FnScope d.N d.ps (defScope d.st) ∧ ∃ b, L.ir[i]? = some b ∧ (comp fuel).B (L.ct d) (defBody d.st) = some b := by
  refine ⟨scopeB_ok ((List.all_eq_true.mp S.sc) d (List.mem_of_getElem? h)), ?_⟩
  have e := congrArg (fun (l : List (Option IB)) => l[i]?) S.ir
  simp only [List.getElem?_map, h, Option.map_some] at e
  cases e2 : L.ir[i]? with
  | none => rw [e2] at e; cases e
  | some b => rw [e2] at e; exact ⟨b, rfl, Option.some.inj e⟩
theorem den_len {xs : List (D × Bool)} {f : Nat} {d : Dx} (S : Same L) (hd : L.ds[f]? = some d) : ∀ {k : Nat}, den L.tb k f xs ≠ .bad → xs.length = d.ps.length
  | 0, h => absurd rfl h
  | k + 1, h => by
    obtain ⟨_, b, h1, _⟩ := S.get hd
    have e : L.tb f = some { np := d.ps.length, nn := d.N.length, P := d.P, body := b, lam := isLam d.tab } := by unfold Lib.tb; rw [hd, h1]
    simp only [den, e] at h
    generalize (if isLam d.tab = true then lamF L.tb (den L.tb k) else den L.tb k) = Ψ at h
    simp only [runF] at h
    split at h
    · assumption
    · exact absurd rfl h
/-- the tables of a text, as a context knows them -/
abbrev tabC (L : Lib) (K : PySem.W.Frag) : TabC := ⟨fun P q => ∃ c, (c, P, q) ∈ tabsOf L K⟩
section
variable {base : Heap} {Φ : Fn} {k : Nat}
/-- what every def's body can call -/
abbrev FiF (L : Lib) (P : Program) (w : World) (K : PySem.W.Frag) (mg : Str → Option Value) (base : Heap) (cl : Cl) (Φ : Fn) (k : Nat) : Prop :=
  ∀ x f' n, (fiOf 0 L.ds).lookup x = some (f', n) → f' < 1000000 ∧ ∃ fa fd ps, mg x = some (.ref fa) ∧ PySem.W.keepIn K (.ref fa) = true ∧ Binds K fd ps [] ∧ FnG P w K mg base k fa fd ps (L.fh.contains f') (@spD (tabC L K).bare K cl (Φ f') n) ∧ (∀ xs, Φ f' xs ≠ .bad → xs.length = n) ∧ ∀ ks perm, (x, ks, perm) ∈ L.ki → KwB K fd ps ks perm
theorem tab_ok (B : Here L K mg P cl) (S : Same L) (TB : ∀ p ∈ tabsOf L K, GxR.TabB base mg p.1 p.2.1) {f : Nat} {d : Dx} {fd : FuncData} (hd : L.ds[f]? = some d) (tf : TabF K d fd) :
    ∀ q, d.tab = some q → ∃ c P, GxR.TabB base mg c P ∧ fd.code = .ref c ∧ (tabC L K).T P q ∧ (∀ q', (tabC L K).T P q' → q' = q) ∧ ∀ n, q = some n → (d.x ++ ".<locals>.") ++ "<lambda>" = n := fun q hq => by
  obtain ⟨c, P, t1, t2, _⟩ := tf q hq
  have hm : (c, P, q) ∈ tabsOf L K := List.mem_filterMap.mpr ⟨d, List.mem_of_getElem? hd, by rw [hq, t1]; rfl⟩
  refine ⟨c, P, TB _ hm, t2, ⟨c, hm⟩, fun q' ⟨c', hc'⟩ => B.uni _ hc' _ hm rfl, fun n hn => ?_⟩
  have z := (List.all_eq_true.mp S.lq) d (List.mem_of_getElem? hd)
  unfold lamB at z
  rw [hq, hn] at z
  simp only [Bool.and_eq_true, decide_eq_true_eq] at z
  exact z.1
theorem lamF_lt {tb : Nat → Option Fd} {Φ : Fn} {f : Nat} (h : f < 2000000) : lamF tb Φ f = Φ f := by
  funext xs
  unfold lamF
  rw [if_neg (by omega)]
theorem thF_lt {Φ : Fn} {r : CL} {f : Nat} (h : f < 1000000) : thF Φ r f = Φ f := by
  funext xs
  unfold thF
  rw [if_neg (by omega)]
/-- a def that gets a lambda keeps its promise -/
theorem lam_ok (S : Same L) (B : Here L K mg P cl) (TB : ∀ p ∈ tabsOf L K, GxR.TabB base mg p.1 p.2.1) (fi : FiF L P w K mg base cl (den L.tb k) (3 * k)) {f : Nat} {d : Dx} {a : Str} {fa : Addr} {fd : FuncData} (hd : L.ds[f]? = some d) (ha : d.th = some a) (F : Fun K d.x d.x d.st fa fd) (tf : TabF K d fd)
    {b : IB} (h1 : L.ir[f]? = some b) : FnL (tabC L K) P w K mg base cl (3 * k + 1) fa fd d.x d.st d.N a (fun r => runT (den L.tb k) { np := d.ps.length, nn := d.N.length, P := d.P, body := b, lam := isLam d.tab } r) := by
  obtain ⟨sc, b', h1', h2⟩ := S.get hd
  rw [h1] at h1'; cases h1'
  have z := (List.all_eq_true.mp S.lq) d (List.mem_of_getElem? hd)
  unfold lamB at z
  rw [ha] at z
  simp only [Bool.and_eq_true, decide_eq_true_eq] at z
  obtain ⟨_, ⟨⟨_, hps⟩, hP0⟩, hnl⟩ := z
  have hnl : isLam d.tab = false := by simpa using hnl
  have hN0 : d.N[0]? = some a := by
    have q := sc.pre
    rw [hps] at q
    cases hN : d.N with
    | nil => rw [hN] at q; simp at q
    | cons y r =>
      rw [hN] at q
      simp at q
      simp [q]
  refine ⟨hN0, ?_, fun A outer s H fl Q E r Z G hG hfix room gd hd0 env0 bd RL th want => ?_⟩
  · have q := sc.par a (by rw [hps]; simp)
    exact q.elim .inl fun q => .inr (.inl q)
  cases G with
  | @mk Tc GF fix up sl =>
  have hG : Tc = tabC L K := hG
  subst hG
  have hfix : fix = [0] := hfix
  subst hfix
  letI G : Glo := @Glo.mk (tabC L K) GF [0] up sl
  refine run_ofN (us := [.ref fl]) (vs := [.ref fl]) F sc room hd0 env0 (by rw [hps]; exact bd) (.cons rfl .nil) (by rw [hps]; rfl) fun rm => ?_
  refine ⟨_, (comp_ok cl (3 * k) fuel).B (G := G) (Φ := thF (den L.tb k) r) (ct := L.ct d) (W := fun cls dd _ H' => E cls dd H') ?_ h2, ?_⟩
  · exact { N := rfl, nd := sc.nd, sc := rfl, kind := sc.kind, cool := fun _ => ⟨rfl, hd0, fun z => by rw [show d.th = none from z] at ha; cases ha⟩, heat := fun z => (nomatch z), gd := gd, room := rm.mono (by omega), fixP := fun i hi => (by
                have hi : i ∈ [0] := hi
                simp only [List.mem_singleton] at hi
                subst hi
                exact List.contains_iff_mem.mp hP0), tkn := L2N.takes_of rfl rfl rfl rfl, fnb := fun _ _ => rfl, own := PassesOwn.leaving, bn := B.bn, gi := B.gi,
            fi := fun x f' n hx => by
              obtain ⟨q0, q⟩ := fi x f' n hx
              refine ⟨q0, ?_⟩
              rw [thF_lt q0]
              exact q,
            er := fun n z => (nomatch z), xc := B.xc, xt := B.xt, stk := fun _ => ⟨rfl, rfl⟩, tab := tab_ok B S TB hd tf,
            th := fun a' ha' pn xe W' p1 p2 tk => by
              have ha' : d.th = some a' := ha'
              rw [ha] at ha'
              cases ha'
              exact th rm pn xe W' p1 p2 tk,
            lm := fun x f' hx => by
              have hx : (if isLam d.tab = true then lmOf 0 L.ds else []).lookup x = some f' := hx
              rw [hnl] at hx
              cases hx }
  · refine ⟨List.replicate d.N.length none, Z, RL, ?_⟩
    simp only [runT] at want
    show PostS K cl _ d.P _ _ H Z (dB (thF (den L.tb k) r) d.P b (List.replicate d.N.length none)) _
    cases e : dB (thF (den L.tb k) r) d.P b (List.replicate d.N.length none) with
    | bad => rw [e] at want; exact want.elim
    | bk ρ' => rw [e] at want; exact want.elim
    | ct ρ' => rw [e] at want; exact want.elim
    | nx ρ' =>
      rw [e] at want
      exact fun σ' H' Z' A _ => want .non ρ' σ' H' Z' A.f A.rel.ge.tb (val_sh .non)
    | rt dv own ρ' =>
      rw [e] at want
      exact fun v σ' H' Z' A _ hv => want v ρ' σ' H' Z' A.f A.rel.ge.tb hv
    | ex c p ρ' =>
      rw [e] at want
      exact fun σ' H' Z' cls dx A _ x => want ρ' σ' H' Z' cls dx A.f A.rel.ge.tb x
end
theorem all_ok (S : Same L) (B : Here L K mg P cl) (base : Heap) (TB : ∀ p ∈ tabsOf L K, GxR.TabB base mg p.1 p.2.1) : ∀ (k f : Nat) (d : Dx) (fa : Addr) (fd : FuncData), L.ds[f]? = some d → d.th = none → Fun K d.x d.x d.st fa fd → TabF K d fd → FnG P w K mg base (3 * k) fa fd d.ps (L.fh.contains f) (@spD (tabC L K).bare K cl (den L.tb k f) d.ps.length)
  | 0, f, d, fa, fd, hd, nt, F, _ => ⟨fun _ _ _ _ h => h.1, fun A outer s H args us vs Q E _ _ _ _ _ _ h => by
      obtain ⟨_, xs, Z, _, h⟩ := h
      exact h.elim⟩
  | k + 1, f, d, fa, fd, hd, nt, F, tf => by
    letI := (tabC L K).bare
    obtain ⟨sc, b, h1, h2⟩ := S.get hd
    have e : L.tb f = some { np := d.ps.length, nn := d.N.length, P := d.P, body := b, lam := isLam d.tab } := by unfold Lib.tb; rw [hd, h1]
    have hden : den L.tb (k + 1) f = runF (if isLam d.tab = true then lamF L.tb (den L.tb k) else den L.tb k) { np := d.ps.length, nn := d.N.length, P := d.P, body := b, lam := isLam d.tab } := by
      funext xs
      simp only [den, e]
    have hpl : d.ps.length ≤ d.N.length := by
      have := congrArg List.length sc.pre
      rw [List.length_take] at this
      omega
    have fi0 : FiF L P w K mg base cl (den L.tb k) (3 * k) := fun x f' n hl => by
      obtain ⟨d', _, g1, g2, g3, g4⟩ := fi_get hl
      have g1 : L.ds[f']? = some d' := by simpa using g1
      obtain ⟨fa', fd', F', tf', m', b', kw'⟩ := B.d f' d' g1
      subst g2 g3
      refine ⟨?_, fa', fd', d'.ps, m', F'.kp, b', all_ok S B base TB k f' d' fa' fd' g1 g4 F' tf', fun xs hx => den_len S g1 hx, kw'⟩
      have hlt : f' < L.ds.length := (List.getElem?_eq_some_iff.mp g1).1
      exact Nat.lt_trans hlt S.few
    have fi : FiF L P w K mg base cl (if isLam d.tab = true then lamF L.tb (den L.tb k) else den L.tb k) (3 * k) := fun x f' n hl => by
      obtain ⟨q0, q⟩ := fi0 x f' n hl
      refine ⟨q0, ?_⟩
      split
      · rw [lamF_lt (by omega)]
        exact q
      · exact q
    have lm : ∀ (A : Around), L2H.RoomH (3 * k + 2) A → ∀ x f', (if isLam d.tab = true then lmOf 0 L.ds else []).lookup x = some f' → L2H.RoomH (3 * k + 2) A ∧ ∃ ga fd xg st N a m, mg x = some (.ref ga) ∧ PySem.W.keepIn K (.ref ga) = true ∧ Binds K fd [a] [] ∧ FnL (tabC L K) P w K mg base cl (3 * k + 1) ga fd xg st N a m ∧
        (∀ dd, (if isLam d.tab = true then lamF L.tb (den L.tb k) else den L.tb k) (2000000 + f') [(dd, false)] = m (decD dd)) ∧ plainN a = true := fun A room x f' hx => by
      split at hx
      · rename_i hl
        obtain ⟨d', a, _, g1, g2, g3⟩ := lm_get hx
        have g1 : L.ds[f']? = some d' := by simpa using g1
        obtain ⟨fa', fd', F', tf', m', b', _⟩ := B.d f' d' g1
        obtain ⟨_, bb, z1, _⟩ := S.get g1
        have zz := (List.all_eq_true.mp S.lq) d' (List.mem_of_getElem? g1)
        unfold lamB at zz
        rw [g3] at zz
        simp only [Bool.and_eq_true, decide_eq_true_eq] at zz
        obtain ⟨_, ⟨⟨hpl2, hps⟩, _⟩, _⟩ := zz
        subst g2
        rw [hps] at b'
        refine ⟨room, fa', fd', d'.x, d'.st, d'.N, a, _, m', F'.kp, b', lam_ok S B TB fi0 g1 g3 F' tf' z1, fun dd => ?_, hpl2⟩
        rw [if_pos hl]
        unfold lamF
        rw [if_pos (by omega)]
        have e3 : L.tb (2000000 + f' - 2000000) = some { np := d'.ps.length, nn := d'.N.length, P := d'.P, body := bb, lam := isLam d'.tab } := by
          rw [show 2000000 + f' - 2000000 = f' by omega]
          unfold Lib.tb; rw [g1, z1]
        rw [e3]
      · cases hx
    refine fnG_of F sc (fun _ _ _ _ h => h.1) (fun cdv ec A outer s H vs Q E room hd0 gd h => ?_) fun hh cdv ec A outer s H vs Q E p room hot gd h => ?_
    · rw [hden] at h
      refine ⟨_, (comp_ok cl (3 * k) fuel).B (ct := L.ct d) (W := fun cls dd _ H' => E cls dd H') ?_ h2, body_sp rfl (sts := []) rfl hpl h⟩
      exact { N := rfl, nd := sc.nd, sc := rfl, kind := sc.kind, cool := fun _ => ⟨rfl, hd0, fun _ => rfl⟩, heat := fun z => (nomatch z), gd := gd, room := room.mono (Nat.le_add_right (3 * k) 2), fixP := fun i hi => (nomatch hi), tkn := L2N.takes_of rfl rfl rfl rfl, fnb := fun _ _ => rfl, own := PassesOwn.leaving, bn := B.bn, gi := B.gi, fi := fi,
              er := fun n z => (nomatch z), xc := B.xc, xt := B.xt, stk := fun _ => ⟨rfl, rfl⟩, tab := fun q hq => by
                have t := tab_ok B S TB hd tf q hq
                rw [ec] at t
                exact t,
              th := fun a z => (by rw [show d.th = some a from z] at nt; cases nt), lm := fun x f' hx => lm _ room x f' hx }
    · rw [hden] at h
      have h3 := S.hot f (by simpa using hh) d hd
      rw [h1] at h3
      refine ⟨_, (comp_ok cl (3 * k) fuel).B (ct := { L.ct d with hot := true, body := false, lm := [] }) (W := fun cls dd _ H' => E cls dd H') ?_ h3, body_sp rfl (sts := []) rfl hpl h⟩
      exact { N := rfl, nd := sc.nd, sc := rfl, kind := sc.kind, cool := fun z => (nomatch z), heat := fun _ => ⟨p, ⟨hot.1, hot.2⟩, List.mem_cons_self⟩, gd := gd, room := room.mono (Nat.le_add_right (3 * k) 2), fixP := fun i hi => (nomatch hi), tkn := L2N.takes_of rfl rfl rfl rfl, fnb := fun _ _ => rfl, own := PassesOwn.leaving, bn := B.bn, gi := B.gi, fi := fi,
              er := fun n z => (nomatch z), xc := B.xc, xt := B.xt, stk := fun z => (nomatch z), tab := fun q hq => by
                have t := tab_ok B S TB hd tf q hq
                rw [ec] at t
                exact t,
              th := fun a z => (by rw [show d.th = some a from z] at nt; cases nt), lm := fun x f' hx => nomatch hx }

/-- the script in the heap, its own thing or one of the written part; the tables, empty -/
def scH (K : PySem.W.Frag) (a : Addr) (ob : Obj) (ns : List Int) (ts : List Addr) : Hp := fun b => if b ∈ ts then some (.tbl #[]) else match K.lookup a with
  | some _ => none
  | none => if b = a then some (.frz ob (.lst (ns.map V.int))) else none
theorem scH_some {a b : Addr} {ob : Obj} {ns : List Int} {ts : List Addr} {u : HO} (h : scH K a ob ns ts b = some u) : (b ∈ ts ∧ u = .tbl #[]) ∨ (b = a ∧ u = .frz ob (.lst (ns.map V.int)) ∧ K.lookup a = none) := by
  unfold scH at h
  split at h
  · rename_i z
    exact .inl ⟨z, (Option.some.inj h).symm⟩
  · split at h
    · cases h
    · rename_i e
      split at h
      · rename_i e2
        exact .inr ⟨e2, (Option.some.inj h).symm, e⟩
      · cases h
theorem ints_sh {Z : Zt} {H : Hp} : ∀ ns : List Int, ShL K Z H (ns.map V.int) (ns.map PyData.int)
  | [] => .nil
  | n :: ns => .cons (.int n) (ints_sh ns)
theorem rel_one {v : V} {d : D} {Z : Zt} {H : Hp} (z : ∀ a, Z a → ∃ o, H a = some o ∧ ∀ ps, o ≠ .tbl ps) (h : Sh K Z H v d) : RelF K [some (d, false)] [some v] H Z where
  len := rfl
  zt := z
  has := fun i d' own e => by
    match i with
    | 0 => cases e; exact ⟨v, rfl, h⟩
    | _ + 1 => cases e
  sep := fun i j d e a h1 _ _ _ => by
    match i with
    | 0 => cases h1
    | _ + 1 => cases h1
theorem head_ok {k : Nat} {fa a : Addr} {fd : FuncData} {x : Str} {hb : Bool} {mb : Str → Option Value} {g : List (D × Bool) → CL} {s₁ : Shared} {vs : List Value} {ns : List Int} {tabs : List (Addr × Addr × Option Str)}
    (KX : K.In s₁.heap) (G1 : s₁.heap.Ns mainGlobals mg) (G2 : s₁.heap.Ns builtinsNs mb)
    (G3 : ∀ x : Str, x ≠ "__name__" → mb x = bootBuiltins x) (G4 : s₁.heap.NoLimit) (G5 : s₁.gens = #[]) (at_a : s₁.heap.get? a = some { cls := .type "list", data := .seq vs.toArray }) (ia : IntsAre vs ns) (few : ns.length ≤ sizeLine) (rm : L2H.RoomH k callerA)
    (bm : ∃ (bm : Addr) (ob : Obj), mg "__builtins__" = some (.ref bm) ∧ bm ≠ builtinsNs ∧ s₁.heap.get? bm = some ob ∧ ob.cls = .type "module" ∧ ob.dict = some builtinsNs ∧ ob.data = .plain)
    (hT : ∀ p ∈ tabs, s₁.heap.get? p.2.1 = some { cls := .none, data := .fields #[] }) (nT : ∀ p ∈ tabs, K.lookup p.2.1 = none) (C : ∀ p ∈ tabs, PySem.W.CodeHd s₁.heap p.1 p.2.1)
    (F : ∀ base : Heap, K.In base → base.Ns mainGlobals mg → (∀ p ∈ tabs, GxR.TabB base mg p.1 p.2.1) → FnG P w K mg base k fa fd [x] hb (@spD (TabC.bare ⟨fun P q => ∃ c, (c, P, q) ∈ tabs⟩) K cl g 1)) (bd : ∀ (s : Shared) (u : Value), BindsTo s fd ⟨[u], []⟩ [(x, u)])
    (hg : ∃ out, g [(.list (ns.map .int), false)] = .ok (.bool true) false out) :
    codeAny (model P w) callerA (.call (.ref fa) ⟨[.ref a], []⟩) (fun r s' => r = .ok (.ret (.bool true)) ∧ OldK s₁.heap s'.heap ∧ s'.os = s₁.os ∧ AllBare s'.gens) s₁ := by
  have vls := vals_ints ia
  have lens := ia.length
  have isT : ∀ b, b ∈ tabs.map (·.2.1) → s₁.heap.get? b = some { cls := .none, data := .fields #[] } := fun b hb => by
    obtain ⟨p, hp, e⟩ := List.mem_map.mp hb
    rw [← e]
    exact hT p hp
  have memT : ∀ p ∈ tabs, p.2.1 ∈ tabs.map (·.2.1) := fun p hp => List.mem_map.mpr ⟨p, hp, rfl⟩
  have aT : a ∉ tabs.map (·.2.1) := fun z => by
    have q := isT a z
    rw [at_a] at q
    exact nomatch (congrArg Obj.data (Option.some.inj q) : Data.seq vs.toArray _ = Data.fields #[])
  -- the heap that the walk sees
  have key : ∀ H : Hp, H = scH K a { cls := .type "list", data := .seq vs.toArray } ns (tabs.map (·.2.1)) → codeAny (model P w) callerA (.call (.ref fa) ⟨[.ref a], []⟩) (fun r s' => r = .ok (.ret (.bool true)) ∧ OldK s₁.heap s'.heap ∧ s'.os = s₁.os ∧ AllBare s'.gens) s₁ := by
    intro H eH
    have only : ∀ {b : Addr} {u : HO}, H b = some u → (b ∈ tabs.map (·.2.1) ∧ u = .tbl #[]) ∨ (b = a ∧ u = .frz { cls := .type "list", data := .seq vs.toArray } (.lst (ns.map V.int)) ∧ K.lookup a = none) := fun {b u} e => scH_some (by rw [← eH]; exact e)
    have atT : ∀ b, b ∈ tabs.map (·.2.1) → H b = some (.tbl #[]) := fun b hb => by rw [eH]; exact if_pos hb
    have good : HOk P w H s₁.heap := fun b u e => by
      rcases only e with ⟨hb, rfl⟩ | ⟨rfl, rfl, _⟩
      · exact isT b hb
      · exact ⟨at_a, by rw [List.length_map]; exact few, vs, _, vls, at_a⟩
    have free : ∀ {b : Addr} {o : Obj}, s₁.heap.get? b = some o → (∀ its n, o.data ≠ .seq its n) → o.data ≠ .fields #[] → H b = none := fun {b o} e n n2 => by
      cases q : H b with
      | none => rfl
      | some u =>
        rcases only q with ⟨hb, _⟩ | ⟨rfl, _, _⟩
        · rw [isT b hb] at e
          cases e
          exact absurd rfl n2
        · rw [at_a] at e
          cases e
          exact absurd rfl (n _ _)
    have low : ∀ {b : Addr} {o : Obj}, s₁.heap.get? b = some o → (∀ its n, o.data ≠ .seq its n) → o.data ≠ .fields #[] → (hidT s₁.heap H).get? b = some o := fun {b o} e n n2 => hidT_get e (free e n n2)
    have lowNs : ∀ {b : Addr} {m : Str → Option Value}, s₁.heap.Ns b m → (hidT s₁.heap H).Ns b m := fun {b m} ⟨o, es, ep, e, dd, r⟩ => ⟨o, es, ep, low e (fun its n z => by rw [dd] at z; cases z) (fun z => by rw [dd] at z; cases z), dd, r⟩
    have lowK : K.In (hidT s₁.heap H) := fun b o e => hidT_get (KX b o e) (by
      cases q : H b with
      | none => rfl
      | some u =>
        rcases only q with ⟨hb, _⟩ | ⟨rfl, _, n⟩
        · obtain ⟨p, hp, ep⟩ := List.mem_map.mp hb
          rw [← ep, nT p hp] at e
          cases e
        · rw [n] at e
          cases e)
    have md : Mod K mg (hidT s₁.heap H) := ⟨lowK, lowNs G1, ⟨mb, lowNs G2, G3⟩, G4.imp fun mc q => ⟨lowNs q.1, q.2⟩⟩
    have ev : Env0 P w K mg (hidT s₁.heap H) callerA [] s₁ H := ⟨rfl, md, fun _ _ e => of_hidT e, Nat.le_of_eq (hidT_size _ _), trivial, fun b hb => (nomatch hb), good, .of_eq G5⟩
    have TB : ∀ p ∈ tabs, GxR.TabB (hidT s₁.heap H) mg p.1 p.2.1 := fun p hp => by
      refine ⟨?_, ?_, fun z => ?_⟩
      · obtain ⟨o, us, file, tf, flags, tg, inF, text, tt, e1, r1, r2, r3, r⟩ := C p hp
        refine ⟨o, us, file, tf, flags, tg, inF, text, tt, low e1 (fun its n z => ?_) (fun z => ?_), r1, r2, r3, r⟩
        · rw [r2] at z; cases z
        · rw [r2] at z; cases z; simp at r3
      · obtain ⟨bm, ob, b1, b2, b3, b4, b5, b6⟩ := bm
        have nG : bm ≠ mainGlobals := fun q => by
          obtain ⟨o, es, ep, e, dd, _⟩ := G1
          rw [q, e] at b3
          cases b3
          rw [dd] at b6
          cases b6
        have nP : bm ≠ p.2.1 := fun q => by
          rw [q, hT p hp] at b3
          cases b3
          cases b6
        refine ⟨bm, ob, b1, b2, nG, nP, low b3 (fun its n z => ?_) (fun z => ?_), b4, b5, b6⟩
        · rw [b6] at z; cases z
        · rw [b6] at z; cases z
      · obtain ⟨o, es, ep, e, dd, _⟩ := G1
        rw [z, hT p hp] at e
        cases e
        cases dd
    have sh : Sh K (fun b => b = a ∧ K.lookup a = none) H (.ref a) (.list (ns.map .int)) := by
      cases ek : K.lookup a with
      | some o =>
        have e := KX a o ek
        rw [at_a] at e
        cases e
        exact .lsk ⟨vs.toArray, _, ek, by rw [List.size_toArray, lens]; exact few, by simpa using vls⟩ (by rw [List.length_map]; exact few) (ints_sh ns)
      | none =>
        have ea : H a = some (.frz { cls := .type "list", data := .seq vs.toArray } (.lst (ns.map V.int))) := by
          rw [eH]
          simp only [scH, if_neg aT, ek, if_true]
        exact .lst ⟨rfl, rfl⟩ (.inr ⟨_, ea⟩) (by rw [List.length_map]; exact few) (ints_sh ns)
    have zt : ∀ b, (b = a ∧ K.lookup a = none) → ∃ o, H b = some o ∧ ∀ ps, o ≠ .tbl ps := by
      rintro b ⟨q1, q2⟩
      refine ⟨.frz { cls := .type "list", data := .seq vs.toArray } (.lst (ns.map V.int)), ?_, fun _ z => nomatch z⟩
      rw [q1, eH]
      simp only [scH, if_neg aT, q2, if_true]
    have want : @spD (TabC.bare ⟨fun P q => ∃ c, (c, P, q) ∈ tabs⟩) K cl g 1 [.ref a] H (fun v _ => v = .bl true) fun _ _ _ => False := by
      obtain ⟨out, e⟩ := hg
      refine ⟨rfl, [(.list (ns.map .int), false)], (fun b => b = a ∧ K.lookup a = none), rel_bare _ (rel_one zt sh) (fun P q ⟨c, hc⟩ => ?_), ?_⟩
      · have e := atT P (memT _ hc)
        cases q with
        | none => exact ⟨#[], e, trivial⟩
        | some q => exact LamX.TabS.nil e
      · rw [e]
        intro v ρ' σ' H' Z' _ hv _
        exact @has_bool (TabC.bare ⟨fun P q => ∃ c, (c, P, q) ∈ tabs⟩) _ _ _ _ _ _ hv.1
    have run := (F _ lowK (lowNs G1) TB).run callerA [] s₁ H ⟨[.ref a], []⟩ [.ref a] [.ref a] _ _ rm rfl (.inl rfl) ev (bd s₁ (.ref a)) (.cons rfl .nil) want
    refine codeAny_mono run fun r s' q => ?_
    match r, q with
    | .error e, q =>
      obtain ⟨_, _, _, _, _, _, _, _, _, _, _, _, z⟩ := q
      exact z.elim
    | .ok (.ret u), q =>
      obtain ⟨v, H', q1, q2, un, hk', rv, ev⟩ := q
      have ev : v = .bl true := ev
      subst ev
      cases (show u = Value.bool true from rv)
      have keep : ∀ b o, b ∉ tabs.map (·.2.1) → s₁.heap.get? b = some o → s'.heap.get? b = some o := fun b o nb e => by
        cases hb : H b with
        | none => exact un.keep b o e hb (fun z => nomatch z) (by simp)
        | some u =>
          rcases only hb with ⟨z, _⟩ | ⟨e1, e2, _⟩
          · exact absurd z nb
          · subst e1 e2
            have f1 := (good _ _ hb).1
            have f2 := (hk' _ _ (un.frzs _ _ _ hb)).1
            rw [e] at f1
            cases f1
            exact f2
      have grown : ∀ p ∈ tabs, ∃ more : Array Value, s'.heap.get? p.2.1 = some { cls := .none, data := .fields more } := fun p hp => by
        obtain ⟨more, z⟩ := un.tbls p.2.1 #[] (atT _ (memT p hp))
        exact ⟨_, hk' p.2.1 _ z⟩
      refine ⟨rfl, ⟨fun b o e => ?_, fun b o e => ?_⟩, q1, q2⟩
      · by_cases hb : b ∈ tabs.map (·.2.1)
        · obtain ⟨p, hp, ep⟩ := List.mem_map.mp hb
          obtain ⟨more, hm⟩ := grown p hp
          rw [← ep] at e ⊢
          rw [hT p hp] at e
          cases e
          exact .inr (.inl ⟨((C p hp).tab (hT p hp)).isCodeTable, rfl, #[], more, rfl, by rw [Array.empty_append]; exact hm⟩)
        · exact .inl (keep b o hb e)
      · by_cases hb : b ∈ tabs.map (·.2.1)
        · obtain ⟨p, hp, ep⟩ := List.mem_map.mp hb
          obtain ⟨more, hm⟩ := grown p hp
          rw [← ep]
          exact ⟨_, hm⟩
        · exact ⟨o, keep b o hb e⟩
  exact key _ rfl
end
/-- THE END of a law -/
theorem walkG {l : PySem.W.OpenLaw} {n k : Nat} {q : Program} {loose : List Str} {XP : (Str → Option Value) → Heap → Prop} {YP : World → Heap → Prop} {dr : DefRec} {K : Params → PySem.W.Frag} {x : Str} (hn : l.most = some n) (n2 : n ≤ sizeLine) (hdf : dr.params.defaults = [])
    (rm : L2H.RoomH (3 * k) callerA) (hY : ∀ (w : World) (h : Heap), YP w h → (K w.params).In h) (L : Lib) (S : Same L) (i : Nat) (d : Dx) (hd : L.ds[i]? = some d) (hps : d.ps = [x]) (hdx : d.x = dr.name) (hth : d.th = none)
    (hrec : (L.ds.all fun d => d.tab.isNone || (recsOf q).any fun e => e.name == d.x) = true)
    (F : ∀ (w : World) (mg : Str → Option Value) (fa : Addr) (h : Heap), (K w.params).In h → h.Ns mainGlobals mg → mg dr.name = some (.ref fa) → ∃ cl : Cl, Here L (K w.params) mg l.prog cl ∧ ∃ fd : FuncData, Fun (K w.params) d.x d.x d.st fa fd ∧ TabF (K w.params) d fd ∧ ∀ (s : Shared) (u : Value), BindsTo s fd ⟨[u], []⟩ [(x, u)])
    (hg : ∀ ns : List Int, ns.length ≤ n → ∃ out, den L.tb k i [(.list (ns.map .int), false)] = .ok (.bool true) false out) :
    PySem.W.WalkO q loose XP YP l.row.toRowW dr [] (fun f vs => PySem.call f vs) := by
  refine Att.attach_call hn hdf fun w s₀ s₁ mg mb fa o pm cd doc a vs ns G Y ho hd' hcd hmg hobj hints hlen hgs => ?_
  have KX := hY w _ Y
  obtain ⟨cl, B, fd, Fu, tf, bd⟩ := F w mg fa _ KX G.T.g hmg
  have tabs : ∀ p ∈ tabsOf L (K w.params), PySem.W.CodeHd s₁.heap p.1 p.2.1 ∧ s₁.heap.get? p.2.1 = some { cls := .none, data := .fields #[] } ∧ (K w.params).lookup p.2.1 = none := fun p hp => by
    obtain ⟨dx, hdx, e⟩ := List.mem_filterMap.mp hp
    cases et : dx.tab with
    | none => rw [et] at e; cases e
    | some tq =>
      rw [et] at e
      obtain ⟨⟨c, Pt⟩, e1, e2⟩ := Option.map_eq_some_iff.mp e
      cases e2
      have hr := (List.all_eq_true.mp hrec) dx hdx
      rw [et] at hr
      simp only [Option.isNone_some, Bool.false_or] at hr
      obtain ⟨j, hj, ej⟩ := List.getElem_of_mem hdx
      have hjd : L.ds[j]? = some dx := by rw [List.getElem?_eq_getElem hj, ej]
      obtain ⟨fa', fd', F', tf', _⟩ := B.d j dx hjd
      obtain ⟨c2, P2, t1, t2, t3⟩ := tf' tq et
      rw [e1] at t1
      cases t1
      obtain ⟨dr2, hf⟩ : ∃ dr2, (recsOf q).find? (fun e => e.name == dx.x) = some dr2 := by
        cases z : (recsOf q).find? (fun e => e.name == dx.x) with
        | some y => exact ⟨y, rfl⟩
        | none =>
          obtain ⟨y, hy, ey⟩ := List.any_eq_true.mp hr
          exact absurd ey (by simpa using (List.find?_eq_none.mp z) y hy)
      obtain ⟨q1, q2⟩ := PySem.W.tab_of G.T KX hf e1
      exact ⟨q1, q2, t3⟩
  refine head_ok (x := x) (hb := L.fh.contains i) (cl := cl) (g := den L.tb k i) (tabs := tabsOf L (K w.params)) KX G.T.g G.T.b G.T.builtins G.T.nolimit hgs hobj hints (Nat.le_trans hlen n2) rm G.T.bmain (fun p hp => (tabs p hp).2.1) (fun p hp => (tabs p hp).2.2) (fun p hp => (tabs p hp).1) (fun base kb _ TB => ?_) bd (hg ns hlen)
  have z := all_ok (P := l.prog) (w := w) (cl := cl) S B base TB k i d fa fd hd hth Fu tf
  rw [hps] at z
  exact z
def excB (K : PySem.W.Frag) (C fI D : Addr) : Bool :=
  decide (PySem.W.findIn K (.ref C) "__setattr__" = some (some (.builtin "object.__setattr__"))) && decide (PySem.W.subIn K (.ref C) (.type "BaseException") = some true) && decide (PySem.W.typeIn K (.ref C) = some (.type "type")) && PySem.W.keepIn K (.ref C) &&
    decide (PySem.W.findIn K (.ref C) "__init__" = some (some (.ref fI))) && decide (PySem.W.findIn K (.ref C) "what" = some none) && decide (PySem.W.mroIn K C (.ref D) = some true) && decide (PySem.W.ks_superIn K C D "__init__" = some (some (.builtin "ValueError.__init__"))) &&
    decide (PySem.W.subIn K (.ref C) (.type "ValueError") = some true) && decide (PySem.W.findIn K (.ref C) "__getattribute__" = some (some (.builtin "BaseException.__getattribute__"))) && decide (PySem.W.findIn K (.ref C) "__getattr__" = some none) && PySem.W.hasDictIn K C &&
    decide (PySem.W.findIn K (.ref C) "__class__" = some (some (.builtin "object.__class__"))) && decide (PySem.W.specialIn K (.builtin "object.__class__") "__get__" = some (some (.builtin "getset_descriptor.__get__"))) && decide (PySem.W.takesIn K (.builtin "object.__class__") = some true) && decide (PySem.W.mroIn K C (.type "object") = some true)
theorem excB_ok {K : PySem.W.Frag} {mg : Str → Option Value} {prog : Program} {C fI D : Addr} {x nm qn : Str} {N : Addr} {bs bm : List Value} {sn : List Str} {sub : List Value} {ab : Bool} {col : Option Bool} {dd : Option Addr} {k0 k1 k2 k3 k5 : Option Value} (h : excB K C fI D = true) (iF : InitF K prog fI D)
    (o : K.lookup C = some (PySem.excClassObj nm qn C N bs bm true sn sub ab col dd k0 k1 k2 k3 k5 "ValueError.__new__")) (r : PySem.HandSPX.refsVE bm = true) (m : mg x = some (.ref C)) : MkF K mg prog fI D x C ∧ XcF K C := by
  unfold excB at h
  simp only [Bool.and_eq_true, decide_eq_true_eq] at h
  obtain ⟨⟨⟨⟨⟨⟨⟨⟨⟨⟨⟨⟨⟨⟨⟨h1, h2⟩, h3⟩, h4⟩, h5⟩, h6⟩, h7⟩, h8⟩, h9⟩, h10⟩, h11⟩, h12⟩, h13⟩, h14⟩, h15⟩, h16⟩ := h
  exact ⟨⟨iF, ⟨⟨_, _, _, _, _, _, _, _, _, _, _, _, _, _, _, o, r⟩, h1, h2, h3, h4⟩, h5, m, h6, h7, h8, h9⟩, ⟨⟨h10, h11, h2, h12⟩, h6, ⟨h10, h11, h2, h12, h13, h14, h15, h16⟩⟩⟩
theorem xtF_ref {K : PySem.W.Frag} {mg : Str → Option Value} {cl : Cl} {t : Str} {C : Addr} {yes no : List Nat} (m : mg t = some (.ref C)) (y : ∀ c ∈ yes, PySem.W.exmOne K (.ref (cl c)) (.ref C) = some true ∧ PySem.W.kitOne K (.ref (cl c)) (.ref C) = some true)
    (n : ∀ c ∈ no, PySem.W.exmOne K (.ref (cl c)) (.ref C) = some false ∧ PySem.W.kitOne K (.ref (cl c)) (.ref C) = some false) : XtF K mg cl t (.ref C) yes no :=
  ⟨.inl m, ⟨.ref C, rfl, fun u r => r⟩, fun c h => y c (List.contains_iff_mem.mp h), fun c h => n c (List.contains_iff_mem.mp h)⟩
theorem xtF_ty {K : PySem.W.Frag} {mg : Str → Option Value} {cl : Cl} {t : Str} {n : String} {yes no : List Nat} (m : mg t = none) (b : bootBuiltins t = some (.type n)) (hn : t ≠ "__name__") (y : ∀ c ∈ yes, PySem.W.exmOne K (.ref (cl c)) (.type n) = some true ∧ PySem.W.kitOne K (.ref (cl c)) (.type n) = some true)
    (no_ : ∀ c ∈ no, PySem.W.exmOne K (.ref (cl c)) (.type n) = some false ∧ PySem.W.kitOne K (.ref (cl c)) (.type n) = some false) : XtF K mg cl t (.type n) yes no :=
  ⟨.inr ⟨m, b, hn⟩, ⟨.ty n, rfl, fun u r => r⟩, fun c h => y c (List.contains_iff_mem.mp h), fun c h => no_ c (List.contains_iff_mem.mp h)⟩
/-- the tables, told -/
theorem uni_of {L : Lib} {K : PySem.W.Frag} (l : List (Addr × Addr × Option Str)) (h : tabsOf L K = l) (u : (l.all fun p => l.all fun q => !decide (p.2.1 = q.2.1) || decide (p.2.2 = q.2.2)) = true) : ∀ p ∈ tabsOf L K, ∀ p' ∈ tabsOf L K, p.2.1 = p'.2.1 → p.2.2 = p'.2.2 := by
  rw [h]
  intro p hp p' hp' e
  have z := (List.all_eq_true.mp ((List.all_eq_true.mp u) p hp)) p' hp'
  simp only [Bool.or_eq_true, Bool.not_eq_true', decide_eq_false_iff_not, decide_eq_true_eq] at z
  exact z.elim (fun n => absurd e n) id
theorem tabIn_of {K : PySem.W.Frag} {x : Str} {f : Addr} {fd : FuncData} {c P : Addr} {oc cc : Value} {od co : Option Addr} {sl cs : Array (Option Value)} {vs : Array Value} (ha : PySem.W.nsIn K mainGlobals x = some (some (.ref f))) (hl : K.lookup f = some ⟨oc, od, .func fd, sl⟩) (hd : fd.code = .ref c) (ht : K.lookup c = some ⟨cc, co, .fields vs, cs⟩) (hv : vs[11]? = some (.ref P)) : PySem.W.tabIn K x = some (c, P) := by
  unfold PySem.W.tabIn
  simp only [ha, hl, hd, ht, hv]
end Mv
namespace Mv
open PySem PySem.Spec L2
open PyProof.Rows hiding St


theorem xorF (b : Bool) : (b != false) = b := by cases b <;> rfl
theorem xorT (b : Bool) : (b != true) = !b := by cases b <;> rfl
def enumD (xs : List D) : List D := xs.zipIdx.map fun p => .tuple [.int p.2, p.1]
def rangeD (n : Nat) : List D := (List.range n).map fun (k : Nat) => .int (k : Int)
def rdK {α : Type} (x : Option (D × Bool)) (k : D → Rs α) : Rs α := match x with
  | some (d, _) => k d
  | none => .bad
def varR (i : Nat) (ρ : En) : Option Sl → Rs Op
  | some (some _) => .ok (.ref i) ρ
  | _ => .bad
def boolK {α : Type} (A B : Rs α) : D → Rs α
  | .bool true => A
  | .bool false => B
  | _ => .bad
def notK (ρ : En) : D → Rs Op
  | .bool k => .ok (.val (.bool (!k)) false) ρ
  | _ => .bad
def tbK (ρ : En) : D → Rs Bool
  | .bool k => .ok k ρ
  | _ => .bad
def optK {α β : Type} (x : Option α) (k : α → Rs β) : Rs β := match x with
  | some a => k a
  | none => .bad
def intK {α : Type} (k : Int → Rs α) : D → Rs α
  | .int i => k i
  | _ => .bad
def seqK (ρ : En) : D → Rs (List D)
  | .list xs => .ok xs ρ
  | .tuple xs => .ok xs ρ
  | _ => .bad
def enumK (ρ : En) : D → Rs (List D)
  | .list xs => .ok (xs.zipIdx.map fun p => .tuple [.int p.2, p.1]) ρ
  | .tuple xs => .ok (xs.zipIdx.map fun p => .tuple [.int p.2, p.1]) ρ
  | _ => .bad
def chainK (ρ : En) (A : Rs Op) : Option (D × Bool) → Rs Op
  | some (.bool true, _) => A
  | some (.bool false, _) => .ok (.val (.bool false) false) ρ
  | _ => .bad
def sealR (ρ : En) (i : Nat) : Option Sl → Option (D × En)
  | some (some (d, true)) => some (d, ρ.set i (some (d, false)))
  | some (some (d, false)) => some (d, ρ)
  | _ => none
def giveR (ρ : En) (i : Nat) : Option Sl → Option (D × Bool × En)
  | some (some (d, true)) => some (d, false, ρ.set i (some (d, false)))
  | some (some (d, false)) => some (d, false, ρ)
  | _ => none
def moveR (ρ : En) (i : Nat) : Option Sl → Option (D × Bool × En)
  | some (some (d, true)) => some (d, true, ρ.set i none)
  | some (some (d, false)) => some (d, false, ρ)
  | _ => none
def argR (x : Option (D × Bool)) (xs : Option (List (D × Bool))) : Option (List (D × Bool)) := match x, xs with
  | some x, some xs => some (x :: xs)
  | _, _ => none
def ownR (i : Nat) (r : List Nat) : Option Sl → List Nat
  | some (some (_, true)) => i :: r
  | _ => r
def backR (ρ : En) (i : Nat) (out : En) : Option Sl → En
  | some (some (_, true)) => ρ.set i (out.head?.join)
  | _ => ρ
def clK (ρ : En) (os : List Op) : CL → Rs Op
  | .ok d own out => .ok (.val d own) (putBack ρ os out)
  | .ex c p out => .ex c p (putBack ρ os out)
  | .bad => .bad
def mutS (m : Mu) (i : Nat) (ρ1 : En) (ds : List D) : Option Sl → Rs Op
  | some (some (d, true)) => optK (muF m d ds) fun p => .ok (.val p.1 false) (ρ1.set i (some (p.2, true)))
  | _ => .bad
def mutR (A : Rs Op) : Option Sl → Rs Op
  | some (some (.list _, true)) => A
  | _ => .bad
def stK {α : Type} (x : Option α) (k : α → SR) : SR := match x with
  | some a => k a
  | none => .bad
def setS (i : Nat) (ρ3 : En) (d : D) : Option (D × Bool) → Option Sl → SR
  | some (kd, _), some (some (x, true)) => stK (setF x kd d) fun x' => .nx (ρ3.set i (some (x', true)))
  | _, _ => .bad
def anyS (A : SR) : Option Sl → SR
  | some (some _) => A
  | _ => .bad
def augS (i : Nat) (op : Operator) (ρ1 : En) (x : Int) : Option (D × Bool) → SR
  | some (.int y, _) => stK (augF op x y) fun z => .nx (ρ1.set i (some (.int z, false)))
  | _ => .bad
def augR (k : Int → SR) : Option Sl → SR
  | some (some (.int x, false)) => k x
  | _ => .bad
def parS (is : List Nat) : Option (List (D × Bool) × En) → SR
  | some (xs, ρ2) => if xs.length = is.length then .nx (setL ρ2 is xs) else .bad
  | none => .bad
def srK (P : List Nat) (np : Nat) : SR → CL
  | .nx ρ => .ok .none false (outs P np ρ)
  | .rt d own ρ => .ok d own (outs P np ρ)
  | .ex c p ρ => .ex c p (outs P np ρ)
  | _ => .bad
section
variable {α β : Type} {Φ : Fn} {ρ : En} {P : List Nat}
@[simp] theorem rdK_some {d : D} {b : Bool} {k : D → Rs α} : rdK (some (d, b)) k = k d := (rfl)
@[simp] theorem varR_some {i : Nat} {x : D × Bool} : varR i ρ (some (some x)) = .ok (.ref i) ρ := (rfl)
@[simp] theorem boolK_b {A B : Rs α} {k : Bool} : boolK A B (.bool k) = if k = true then A else B := by cases k <;> rfl
@[simp] theorem notK_b {k : Bool} : notK ρ (.bool k) = .ok (.val (.bool (!k)) false) ρ := (rfl)
@[simp] theorem tbK_b {k : Bool} : tbK ρ (.bool k) = .ok k ρ := (rfl)
@[simp] theorem optK_some {x : α} {k : α → Rs β} : optK (some x) k = k x := (rfl)
@[simp] theorem intK_int {i : Int} {k : Int → Rs α} : intK k (.int i) = k i := (rfl)
@[simp] theorem seqK_l {xs : List D} : seqK ρ (.list xs) = .ok xs ρ := (rfl)
@[simp] theorem seqK_t {xs : List D} : seqK ρ (.tuple xs) = .ok xs ρ := (rfl)
@[simp] theorem enumK_l {xs : List D} : enumK ρ (.list xs) = .ok (enumD xs) ρ := (rfl)
@[simp] theorem enumK_t {xs : List D} : enumK ρ (.tuple xs) = .ok (enumD xs) ρ := (rfl)
@[simp] theorem chainK_b {A : Rs Op} {k b : Bool} : chainK ρ A (some (.bool k, b)) = if k = true then A else .ok (.val (.bool false) false) ρ := by cases k <;> rfl
@[simp] theorem sealR_t {i : Nat} {d : D} : sealR ρ i (some (some (d, true))) = some (d, ρ.set i (some (d, false))) := (rfl)
@[simp] theorem sealR_f {i : Nat} {d : D} : sealR ρ i (some (some (d, false))) = some (d, ρ) := (rfl)
@[simp] theorem giveR_t {i : Nat} {d : D} : giveR ρ i (some (some (d, true))) = some (d, false, ρ.set i (some (d, false))) := (rfl)
@[simp] theorem giveR_f {i : Nat} {d : D} : giveR ρ i (some (some (d, false))) = some (d, false, ρ) := (rfl)
@[simp] theorem moveR_t {i : Nat} {d : D} : moveR ρ i (some (some (d, true))) = some (d, true, ρ.set i none) := (rfl)
@[simp] theorem moveR_f {i : Nat} {d : D} : moveR ρ i (some (some (d, false))) = some (d, false, ρ) := (rfl)
@[simp] theorem argR_s {x : D × Bool} {xs : List (D × Bool)} : argR (some x) (some xs) = some (x :: xs) := (rfl)
@[simp] theorem ownR_t {i : Nat} {r : List Nat} {d : D} : ownR i r (some (some (d, true))) = i :: r := (rfl)
@[simp] theorem ownR_f {i : Nat} {r : List Nat} {d : D} : ownR i r (some (some (d, false))) = r := (rfl)
@[simp] theorem backR_t {i : Nat} {out : En} {d : D} : backR ρ i out (some (some (d, true))) = ρ.set i (out.head?.join) := (rfl)
@[simp] theorem backR_f {i : Nat} {out : En} {d : D} : backR ρ i out (some (some (d, false))) = ρ := (rfl)
@[simp] theorem clK_ok {os : List Op} {d : D} {own : Bool} {out : En} : clK ρ os (.ok d own out) = .ok (.val d own) (putBack ρ os out) := (rfl)
@[simp] theorem clK_ex {os : List Op} {c : Nat} {p : D} {out : En} : clK ρ os (.ex c p out) = .ex c p (putBack ρ os out) := (rfl)
@[simp] theorem mutS_t {m : Mu} {i : Nat} {ds : List D} {d : D} : mutS m i ρ ds (some (some (d, true))) = optK (muF m d ds) fun p => .ok (.val p.1 false) (ρ.set i (some (p.2, true))) := (rfl)
@[simp] theorem mutR_t {A : Rs Op} {xs : List D} : mutR A (some (some (.list xs, true))) = A := (rfl)
@[simp] theorem stK_some {x : α} {k : α → SR} : stK (some x) k = k x := (rfl)
@[simp] theorem setS_t {i : Nat} {d kd x : D} {b : Bool} : setS i ρ d (some (kd, b)) (some (some (x, true))) = stK (setF x kd d) fun x' => .nx (ρ.set i (some (x', true))) := (rfl)
@[simp] theorem anyS_s {A : SR} {x : D × Bool} : anyS A (some (some x)) = A := (rfl)
@[simp] theorem augS_i {i : Nat} {op : Operator} {x y : Int} {b : Bool} : augS i op ρ x (some (.int y, b)) = stK (augF op x y) fun z => .nx (ρ.set i (some (.int z, false))) := (rfl)
@[simp] theorem augR_i {k : Int → SR} {x : Int} : augR k (some (some (.int x, false))) = k x := (rfl)
@[simp] theorem parS_s {is : List Nat} {xs : List (D × Bool)} : parS is (some (xs, ρ)) = if xs.length = is.length then .nx (setL ρ is xs) else .bad := (rfl)
@[simp] theorem srK_nx {np : Nat} : srK P np (.nx ρ) = .ok .none false (outs P np ρ) := (rfl)
@[simp] theorem srK_rt {np : Nat} {d : D} {own : Bool} : srK P np (.rt d own ρ) = .ok d own (outs P np ρ) := (rfl)
@[simp] theorem srK_ex {np : Nat} {c : Nat} {p : D} : srK P np (.ex c p ρ) = .ex c p (outs P np ρ) := (rfl)
@[simp] theorem bind_ok {x : α} {f : α → En → Rs β} : (Rs.ok x ρ).bind f = f x ρ := (rfl)
@[simp] theorem bind_ex {c : Nat} {p : D} {f : α → En → Rs β} : (Rs.ex c p ρ).bind f = .ex c p ρ := (rfl)
@[simp] theorem stm_ok {x : α} {f : α → En → SR} : (Rs.ok x ρ).stm f = f x ρ := (rfl)
@[simp] theorem stm_ex {c : Nat} {p : D} {f : α → En → SR} : (Rs.ex c p ρ).stm f = .ex c p ρ := (rfl)
@[simp] theorem noex_ok {x : α} : (Rs.ok x ρ).noex = .ok x ρ := (rfl)
@[simp] theorem seq_nx {f : En → SR} : (SR.nx ρ).seq f = f ρ := (rfl)
@[simp] theorem seq_rt {f : En → SR} {d : D} {own : Bool} : (SR.rt d own ρ).seq f = .rt d own ρ := (rfl)
@[simp] theorem seq_bk {f : En → SR} : (SR.bk ρ).seq f = .bk ρ := (rfl)
@[simp] theorem seq_ct {f : En → SR} : (SR.ct ρ).seq f = .ct ρ := (rfl)
@[simp] theorem seq_ex {f : En → SR} {c : Nat} {p : D} : (SR.ex c p ρ).seq f = .ex c p ρ := (rfl)
@[simp] theorem deref_val {d : D} {b : Bool} : deref ρ (.val d b) = some (d, b) := (rfl)
@[simp] theorem deref_ref {i : Nat} : deref ρ (.ref i) = ρ[i]?.join := (rfl)
@[simp] theorem rd1_K {o : Op} {k : D → Rs α} : rd1 ρ o k = rdK (deref ρ o) k := (rfl)
@[simp] theorem ret1_s {d : D} {b : Bool} : ret1 ρ (some (d, b)) = .ok (.val d b) ρ := (rfl)
@[simp] theorem seal_val {d : D} {b : Bool} : sealE ρ (.val d b) = some (d, ρ) := (rfl)
@[simp] theorem seal_ref {i : Nat} : sealE ρ (.ref i) = sealR ρ i ρ[i]? := (rfl)
@[simp] theorem give_val {d : D} {b : Bool} : give ρ (.val d b) = some (d, b, ρ) := (rfl)
@[simp] theorem give_ref {i : Nat} : give ρ (.ref i) = giveR ρ i ρ[i]? := (rfl)
@[simp] theorem move_val {d : D} {b : Bool} : moveOut ρ (.val d b) = some (d, b, ρ) := (rfl)
@[simp] theorem move_ref {i : Nat} : moveOut ρ (.ref i) = moveR ρ i ρ[i]? := (rfl)
@[simp] theorem args_nil : argsOf ρ [] = some [] := (rfl)
@[simp] theorem args_cons {o : Op} {r : List Op} : argsOf ρ (o :: r) = argR (deref ρ o) (argsOf ρ r) := (rfl)
@[simp] theorem own_nil : ownIx ρ [] = [] := (rfl)
@[simp] theorem own_val {d : D} {b : Bool} {r : List Op} : ownIx ρ (.val d b :: r) = ownIx ρ r := (rfl)
@[simp] theorem own_ref {i : Nat} {r : List Op} : ownIx ρ (.ref i :: r) = ownR i (ownIx ρ r) ρ[i]? := (rfl)
@[simp] theorem put_nil {out : En} : putBack ρ [] out = ρ := (rfl)
@[simp] theorem put_val {d : D} {b : Bool} {r : List Op} {out : En} : putBack ρ (.val d b :: r) out = putBack ρ r out.tail := (rfl)
@[simp] theorem put_refE {i : Nat} {r : List Op} {out : En} : putBack ρ (.ref i :: r) out = backR (putBack ρ r out.tail) i out ρ[i]? := by
  rw [putBack]
  generalize putBack ρ r out.tail = ρ2
  cases ρ[i]? with
  | none => rfl
  | some s =>
    cases s with
    | none => rfl
    | some p =>
      obtain ⟨d, b⟩ := p
      cases b <;> rfl
@[simp] theorem callD_K {f : Nat} {os : List Op} : callD Φ f os ρ = optK (argsOf ρ os) fun xs => if (ownIx ρ os).Nodup then clK ρ os (Φ f xs) else .bad := by
  unfold callD
  cases argsOf ρ os with
  | none => rfl
  | some xs =>
    show (if _ then _ else _) = if _ then _ else _
    split
    · cases Φ f xs <;> rfl
    · rfl
@[simp] theorem pick_nil {l : List α} : pick l [] = some [] := (rfl)
def pickR (x : Option α) (xs : Option (List α)) : Option (List α) := match x, xs with
  | some x, some xs => some (x :: xs)
  | _, _ => none
@[simp] theorem pickR_s {x : α} {xs : List α} : pickR (some x) (some xs) = some (x :: xs) := (rfl)
@[simp] theorem pick_cons {l : List α} {i : Nat} {r : List Nat} : pick l (i :: r) = pickR l[i]? (pick l r) := (rfl)
@[simp] theorem giveAll_nil : giveAll ρ [] = some ([], ρ) := (rfl)
def gaR (r : List Op) : Option (D × Bool × En) → Option (List (D × Bool) × En)
  | some (d, own, ρ1) => match giveAll ρ1 r with
    | some (xs, ρ2) => some ((d, own) :: xs, ρ2)
    | none => none
  | none => none
def gaS (x : D × Bool) : Option (List (D × Bool) × En) → Option (List (D × Bool) × En)
  | some (xs, ρ2) => some (x :: xs, ρ2)
  | none => none
@[simp] theorem gaS_s {x : D × Bool} {xs : List (D × Bool)} : gaS x (some (xs, ρ)) = some (x :: xs, ρ) := (rfl)
@[simp] theorem gaR_s {r : List Op} {d : D} {own : Bool} : gaR r (some (d, own, ρ)) = gaS (d, own) (giveAll ρ r) := (rfl)
@[simp] theorem giveAll_cons {o : Op} {r : List Op} : giveAll ρ (o :: r) = gaR r (give ρ o) := (rfl)
@[simp] theorem setL_cons {i : Nat} {r : List Nat} {x : α} {xs : List α} {l : List (Option α)} : setL l (i :: r) (x :: xs) = setL (l.set i (some x)) r xs := (rfl)
@[simp] theorem setL_nil {xs : List α} {l : List (Option α)} : setL l [] xs = l := (rfl)
@[simp] theorem setTg_n {i : Nat} {d : D} {own : Bool} : setTg P (.name i) d own ρ = if P.contains i = true then none else some (ρ.set i (some (d, own))) := (rfl)
@[simp] theorem setTg_t {is : List Nat} {ds : List D} : setTg P (.tup is) (.tuple ds) false ρ = if is.length = ds.length ∧ (is.any fun i => P.contains i) = false then some ((is.zip ds).foldl (fun r p => r.set p.1 (some (p.2, false))) ρ) else none := (rfl)
@[simp] theorem dE_var {i : Nat} : dE Φ (.var i) ρ = varR i ρ ρ[i]? := by simp only [dE]; rfl
@[simp] theorem dE_lit {d : D} : dE Φ (.lit d) ρ = .ok (.val d false) ρ := by simp only [dE]
@[simp] theorem dE_bin {op : Operator} {a b : IE} : dE Φ (.bin op a b) ρ = (dE Φ a ρ).bind fun oa ρ1 => (dE Φ b ρ1).bind fun ob ρ2 => rd1 ρ2 oa fun x => rd1 ρ2 ob fun y => ret1 ρ2 (binF op x y) := by simp only [dE, bin2]
@[simp] theorem dE_un {op : UnaryOp} {a : IE} : dE Φ (.un op a) ρ = (dE Φ a ρ).bind fun o ρ1 => rd1 ρ1 o fun x => ret1 ρ1 (unF op x) := by simp only [dE]
@[simp] theorem dE_cmp {op : CmpOp} {a b : IE} : dE Φ (.cmp op a b) ρ = (dE Φ a ρ).bind fun oa ρ1 => (dE Φ b ρ1).bind fun ob ρ2 => rd1 ρ2 oa fun x => rd1 ρ2 ob fun y => ret1 ρ2 (cmpF op x y) := by simp only [dE, bin2]
@[simp] theorem dE_chain {op op' : CmpOp} {a b c : IE} : dE Φ (.chain op op' a b c) ρ = (dE Φ a ρ).bind fun oa ρ1 => (dE Φ b ρ1).bind fun ob ρ2 => rd1 ρ2 oa fun x => rd1 ρ2 ob fun y =>
      chainK ρ2 ((dE Φ c ρ2).bind fun oc ρ3 => rd1 ρ3 ob fun y => rd1 ρ3 oc fun z => ret1 ρ3 (cmpF op' y z)) (cmpF op x y) := by simp only [dE]; rfl
@[simp] theorem dE_and {a b : IE} : dE Φ (.and a b) ρ = (dE Φ a ρ).bind fun o ρ1 => rd1 ρ1 o (boolK (dE Φ b ρ1) (.ok (.val (.bool false) false) ρ1)) := by simp only [dE]; rfl
@[simp] theorem dE_or {a b : IE} : dE Φ (.or a b) ρ = (dE Φ a ρ).bind fun o ρ1 => rd1 ρ1 o (boolK (.ok (.val (.bool true) false) ρ1) (dE Φ b ρ1)) := by
  simp only [dE]
  congr 1
  funext o ρ1
  congr 1
  funext x
  cases x with
  | bool k => cases k <;> rfl
  | _ => rfl
@[simp] theorem dE_not {a : IE} : dE Φ (.not a) ρ = (dE Φ a ρ).bind fun o ρ1 => rd1 ρ1 o (notK ρ1) := by simp only [dE]; rfl
@[simp] theorem dE_ite {c : IT} {a b : IE} : dE Φ (.ite c a b) ρ = (dT Φ c ρ).bind fun k ρ1 => if k = true then dE Φ a ρ1 else dE Φ b ρ1 := by simp only [dE]
@[simp] theorem dE_tup {es : IL} : dE Φ (.tup es) ρ = (dD Φ es ρ).bind fun ds ρ1 => .ok (.val (.tuple ds) false) ρ1 := by simp only [dE]
@[simp] theorem dE_lst {es : IL} : dE Φ (.lst es) ρ = (dD Φ es ρ).bind fun ds ρ1 => .ok (.val (.list ds) true) ρ1 := by simp only [dE]
@[simp] theorem dE_ix {a b : IE} : dE Φ (.ix a b) ρ = (dE Φ a ρ).bind fun oa ρ1 => (dE Φ b ρ1).bind fun ob ρ2 => rd1 ρ2 oa fun x => rd1 ρ2 ob fun y => ret1 ρ2 (ixF x y) := by simp only [dE, bin2]
@[simp] theorem dE_sl {a : IE} {lo hi : IO} : dE Φ (.sl a lo hi) ρ = (dE Φ a ρ).bind fun o ρ1 => (dO Φ lo ρ1).bind fun l ρ2 => (dO Φ hi ρ2).bind fun h ρ3 => rd1 ρ3 o fun x => ret1 ρ3 (slF x l h) := by simp only [dE]
@[simp] theorem dE_lc {own : List Nat} {tg : Tg} {it : II} {c : IT} {elt : IE} : dE Φ (.lc own tg it c elt) ρ = (dI Φ it ρ).bind fun xs ρ1 => (lcL own tg (dT Φ c) (dE Φ elt) xs [] ρ1).bind fun ds ρ2 => .ok (.val (.list ds) true) (restE ρ1 ρ2 own) := by simp only [dE]
@[simp] theorem dE_call {f : Nat} {as : IL} : dE Φ (.call f as) ρ = (dL Φ as ρ).bind fun os ρ1 => callD Φ f os ρ1 := by simp only [dE]
@[simp] theorem dE_callp {f : Nat} {p : List Nat} {as : IL} : dE Φ (.callp f p as) ρ = (dL Φ as ρ).bind fun os ρ1 => optK (pick os p) fun os' => if p.Nodup then callD Φ f os' ρ1 else .bad := by
  simp only [dE]; congr 1; funext os ρ1; cases pick os p <;> rfl
@[simp] theorem dE_bi {b : Bi} {as : IL} : dE Φ (.bi b as) ρ = (dL Φ as ρ).bind fun os ρ1 => optK (argsOf ρ1 os) fun xs => ret1 ρ1 (biF b (xs.map (·.1))) := by
  simp only [dE]; congr 1; funext os ρ1; cases argsOf ρ1 os <;> rfl
@[simp] theorem dE_mutE {m : Mu} {i : Nat} {as : IL} : dE Φ (.mut m i as) ρ = mutR ((dD Φ as ρ).bind fun ds ρ1 => mutS m i ρ1 ds ρ1[i]?) ρ[i]? := by
  have inner : ∀ (ds : List D) (ρ1 : En), (match ρ1[i]? with
        | some (some (d, true)) => match muF m d ds with
          | some (r, d') => Rs.ok (.val r false) (ρ1.set i (some (d', true)))
          | none => .bad
        | _ => .bad) = mutS m i ρ1 ds ρ1[i]? := fun ds ρ1 => by
    cases ρ1[i]? with
    | none => rfl
    | some s =>
      cases s with
      | none => rfl
      | some p =>
        obtain ⟨d, b⟩ := p
        cases b with
        | false => rfl
        | true =>
          show _ = optK (muF m d ds) _
          simp only
          cases muF m d ds <;> rfl
  simp only [dE, inner]
  cases ρ[i]? with
  | none => rfl
  | some s =>
    cases s with
    | none => rfl
    | some p =>
      obtain ⟨d, b⟩ := p
      cases d <;> cases b <;> first
        | rfl
        | (show (dD Φ as ρ).bind _ = (dD Φ as ρ).bind _
           congr 1
           funext ds ρ1
           exact inner ds ρ1)
def dictK {α : Type} (A : Rs α) : Option (D × Bool) → Rs α
  | some (.dict _, _) => A
  | _ => .bad
@[simp] theorem dictK_d {α : Type} {A : Rs α} {es : List (D × D)} {b : Bool} : dictK A (some (.dict es, b)) = A := (rfl)
def getK (ρ : En) (ox : Op) : Option (Option D) → Rs Op
  | some (some v) => .ok (.val v false) ρ
  | some none => .ok ox ρ
  | none => .bad
@[simp] theorem getK_s {ox : Op} {v : D} : getK ρ ox (some (some v)) = .ok (.val v false) ρ := (rfl)
@[simp] theorem getK_n {ox : Op} : getK ρ ox (some none) = .ok ox ρ := (rfl)
@[simp] theorem dE_get {a k x : IE} : dE Φ (.get a k x) ρ = (dE Φ a ρ).bind fun oa ρ1 => dictK ((dE Φ k ρ1).bind fun ok ρ2 => (dE Φ x ρ2).bind fun ox ρ3 => rd1 ρ3 oa fun d => rd1 ρ3 ok fun kd => getK ρ3 ox (getF d kd)) (deref ρ1 oa) := by
  have inner : ∀ (ρ3 : En) (ox : Op) (r : Option (Option D)), (match r with
        | some (some v) => Rs.ok (.val v false) ρ3
        | some none => .ok ox ρ3
        | none => .bad) = getK ρ3 ox r := fun ρ3 ox r => by
    cases r with
    | none => rfl
    | some o => cases o <;> rfl
  simp only [dE]
  refine congrArg ((dE Φ a ρ).bind) (funext fun oa => funext fun ρ1 => ?_)
  cases deref ρ1 oa with
  | none => rfl
  | some p =>
    obtain ⟨d, b⟩ := p
    cases d <;> first
      | rfl
      | exact congrArg ((dE Φ k ρ1).bind) (funext fun ok => funext fun ρ2 => congrArg ((dE Φ x ρ2).bind) (funext fun ox => funext fun ρ3 => congrArg (rd1 ρ3 oa) (funext fun d => congrArg (rd1 ρ3 ok) (funext fun kd => inner ρ3 ox _))))
@[simp] theorem dE_isi {T : Ty} {a : IE} : dE Φ (.isi T a) ρ = (dE Φ a ρ).bind fun o ρ1 => rd1 ρ1 o fun x => .ok (.val (.bool (isiT T (tyD x))) false) ρ1 := by simp only [dE]
@[simp] theorem dE_dnew : dE Φ .dnew ρ = .ok (.val (.dict []) true) ρ := by simp only [dE]
@[simp] theorem dE_exw : dE Φ .exw ρ = exwR ρ (Φ 1000000 []) := by simp only [dE]
@[simp] theorem dE_exi {yes no : List Nat} : dE Φ (.exi yes no) ρ = exiR yes no ρ (Φ 1000001 []) := by simp only [dE]
def genK (al : Bool) (tg : Tg) (re : RE) (ρ : En) : D → Rs Op
  | .list xs => optK (genF tg re ρ xs) fun bs => .ok (.val (.bool (if al = true then bs.all id else bs.any id)) false) ρ
  | .tuple xs => optK (genF tg re ρ xs) fun bs => .ok (.val (.bool (if al = true then bs.all id else bs.any id)) false) ρ
  | _ => .bad
@[simp] theorem genK_l {al : Bool} {tg : Tg} {re : RE} {xs : List D} : genK al tg re ρ (.list xs) = optK (genF tg re ρ xs) fun bs => .ok (.val (.bool (if al = true then bs.all id else bs.any id)) false) ρ := (rfl)
@[simp] theorem genK_t {al : Bool} {tg : Tg} {re : RE} {xs : List D} : genK al tg re ρ (.tuple xs) = optK (genF tg re ρ xs) fun bs => .ok (.val (.bool (if al = true then bs.all id else bs.any id)) false) ρ := (rfl)
def sealG (k : D → En → Rs Op) : Option (D × En) → Rs Op
  | some (d, ρ) => k d ρ
  | none => .bad
@[simp] theorem sealG_s {d : D} {k : D → En → Rs Op} : sealG k (some (d, ρ)) = k d ρ := (rfl)
@[simp] theorem dE_allg {al : Bool} {tg : Tg} {it : IE} {re : RE} : dE Φ (.allg al tg it re) ρ = (dE Φ it ρ).bind fun o ρ1 => sealG (fun d ρ2 => genK al tg re ρ2 d) (sealE ρ1 o) := by
  simp only [dE]
  congr 1
  funext o ρ1
  cases sealE ρ1 o with
  | none => rfl
  | some q =>
    obtain ⟨d, ρ2⟩ := q
    cases d with
    | list xs =>
      simp only [sealG_s, genK_l]
      cases genF tg re ρ2 xs <;> rfl
    | tuple xs =>
      simp only [sealG_s, genK_t]
      cases genF tg re ρ2 xs <;> rfl
    | _ => rfl
theorem genF_map {β : Type} {tg : Tg} {re : RE} {ρ : En} {f : β → D} {g : β → Bool} : ∀ {l : List β}, (∀ a ∈ l, ∃ ρ1, setTg [] tg (f a) false ρ = some ρ1 ∧ rdE ρ1 re = some (.bool (g a))) → genF tg re ρ (l.map f) = some (l.map g)
  | [], _ => rfl
  | a :: l, h => by
    obtain ⟨ρ1, h1, h2⟩ := h a List.mem_cons_self
    simp only [List.map_cons, genF, h1, h2, genF_map (l := l) (fun b hb => h b (List.mem_cons_of_mem _ hb))]
@[simp] theorem exwR_ok {p : D} {b : Bool} {o : En} : exwR ρ (.ok p b o) = .ok (.val p false) ρ := (rfl)
@[simp] theorem exiR_ok {yes no : List Nat} {c : Nat} {b : Bool} {o : En} : exiR yes no ρ (.ok (.int (c : Int)) b o) = if yes.contains c = true then .ok (.val (.bool true) false) ρ else if no.contains c = true then .ok (.val (.bool false) false) ρ else .bad := by
  simp only [exiR, Int.toNat_natCast]
@[simp] theorem exF_what {c : Nat} {p : D} : exF Φ c p 1000000 [] = .ok p false [] := (rfl)
@[simp] theorem exF_cls {c : Nat} {p : D} : exF Φ c p 1000001 [] = .ok (.int (c : Int)) false [] := (rfl)
@[simp] theorem exF_le {c f : Nat} {p : D} (h : f < 1000000) : exF Φ c p f = Φ f := by
  funext xs
  simp only [exF]
  rw [if_neg (by omega), if_neg (by omega)]
@[simp] theorem dT_yes : dT Φ .yes ρ = .ok true ρ := by simp only [dT]
@[simp] theorem dT_tr {e : IE} : dT Φ (.tr e) ρ = (dE Φ e ρ).bind fun o ρ1 => rd1 ρ1 o fun x => optK (truth x) fun k => .ok k ρ1 := by
  simp only [dT]; congr 1; funext o ρ1; congr 1; funext x; cases truth x <;> rfl
@[simp] theorem dT_tb {e : IE} : dT Φ (.tb e) ρ = (dE Φ e ρ).bind fun o ρ1 => rd1 ρ1 o (tbK ρ1) := by simp only [dT]; rfl
@[simp] theorem dT_and {a b : IT} : dT Φ (.and a b) ρ = (dT Φ a ρ).bind fun k ρ1 => if k = true then dT Φ b ρ1 else .ok false ρ1 := by simp only [dT]
@[simp] theorem dT_or {a b : IT} : dT Φ (.or a b) ρ = (dT Φ a ρ).bind fun k ρ1 => if k = true then .ok true ρ1 else dT Φ b ρ1 := by simp only [dT]
@[simp] theorem dT_not {a : IT} : dT Φ (.not a) ρ = (dT Φ a ρ).bind fun k ρ1 => .ok (!k) ρ1 := by simp only [dT]
@[simp] theorem dD_nil : dD Φ .nil ρ = .ok [] ρ := by simp only [dD]
@[simp] theorem dD_cons {e : IE} {r : IL} : dD Φ (.cons e r) ρ = (dE Φ e ρ).bind fun o ρ1 => optK (sealE ρ1 o) fun p => (dD Φ r p.2).bind fun ds ρ3 => .ok (p.1 :: ds) ρ3 := by
  simp only [dD]; congr 1; funext o ρ1; cases sealE ρ1 o <;> rfl
@[simp] theorem dL_nil : dL Φ .nil ρ = .ok [] ρ := by simp only [dL]
@[simp] theorem dL_cons {e : IE} {r : IL} : dL Φ (.cons e r) ρ = (dE Φ e ρ).bind fun o ρ1 => (dL Φ r ρ1).bind fun os ρ2 => .ok (o :: os) ρ2 := by simp only [dL]
@[simp] theorem dO_none : dO Φ .none ρ = .ok none ρ := by simp only [dO]
@[simp] theorem dO_some {e : IE} : dO Φ (.some e) ρ = (dE Φ e ρ).bind fun o ρ1 => rd1 ρ1 o (intK fun i => .ok (some i) ρ1) := by simp only [dO]; rfl
def intK2 {α : Type} (k : Int → Int → Rs α) : D → D → Rs α
  | .int i, .int j => k i j
  | _, _ => .bad
@[simp] theorem intK2_i {i j : Int} {k : Int → Int → Rs α} : intK2 k (.int i) (.int j) = k i j := (rfl)
def sealK (k : D → En → Rs α) : Option (D × En) → Rs α
  | some (d, ρ) => k d ρ
  | none => .bad
@[simp] theorem sealK_s {d : D} {k : D → En → Rs α} : sealK k (some (d, ρ)) = k d ρ := (rfl)
@[simp] theorem dI_seq {e : IE} : dI Φ (.seq e) ρ = (dE Φ e ρ).bind fun o ρ1 => sealK (fun d ρ2 => seqK ρ2 d) (sealE ρ1 o) := by
  simp only [dI]
  congr 1
  funext o ρ1
  cases sealE ρ1 o with
  | none => rfl
  | some p =>
    obtain ⟨d, ρ2⟩ := p
    cases d <;> rfl
@[simp] theorem dI_enum {e : IE} : dI Φ (.enum e) ρ = (dE Φ e ρ).bind fun o ρ1 => sealK (fun d ρ2 => enumK ρ2 d) (sealE ρ1 o) := by
  simp only [dI]
  congr 1
  funext o ρ1
  cases sealE ρ1 o with
  | none => rfl
  | some p =>
    obtain ⟨d, ρ2⟩ := p
    cases d <;> rfl
@[simp] theorem dI_range1 {e : IE} : dI Φ (.range1 e) ρ = (dE Φ e ρ).bind fun o ρ1 => rd1 ρ1 o (intK fun n => if -(2 ^ 62) ≤ n ∧ n ≤ 16777216 then .ok (rangeD n.toNat) ρ1 else .bad) := by
  simp only [dI]; rfl
@[simp] theorem dI_range2 {a b : IE} : dI Φ (.range2 a b) ρ = (dE Φ a ρ).bind fun oa ρ1 => (dE Φ b ρ1).bind fun ob ρ2 => rd1 ρ2 oa fun x => rd1 ρ2 ob fun y =>
      intK2 (fun lo hi => if (-(2 ^ 62) ≤ lo ∧ lo < 2 ^ 62) ∧ (-(2 ^ 62) ≤ hi ∧ hi < 2 ^ 62) ∧ hi - lo ≤ 16777216 then .ok ((List.range (hi - lo).toNat).map fun (k : Nat) => .int (lo + k)) ρ2 else .bad) x y := by
  simp only [dI]; rfl
@[simp] theorem dS_expr {e : IE} : dS Φ P (.expr e) ρ = (dE Φ e ρ).stm fun _ ρ1 => .nx ρ1 := by simp only [dS]
@[simp] theorem dS_asg {tg : Tg} {e : IE} : dS Φ P (.asg tg e) ρ = (dE Φ e ρ).stm fun o ρ1 => stK (give ρ1 o) fun p => stK (setTg P tg p.1 p.2.1 p.2.2) fun ρ3 => .nx ρ3 := by
  simp only [dS]; congr 1; funext o ρ1
  cases give ρ1 o with
  | none => rfl
  | some p =>
    obtain ⟨d, own, ρ2⟩ := p
    show _ = stK (setTg P tg d own ρ2) _
    cases e2 : setTg P tg d own ρ2 <;> simp only [e2] <;> rfl
@[simp] theorem dS_par {is : List Nat} {es : IL} : dS Φ P (.par is es) ρ = if (is.any fun i => P.contains i) = true then .bad else (dL Φ es ρ).stm fun os ρ1 => parS is (giveAll ρ1 os) := by simp only [dS]; rfl
@[simp] theorem dS_setixE {i : Nat} {k v : IE} : dS Φ P (.setix i k v) ρ = (dE Φ v ρ).stm fun ov ρ1 => stK (sealE ρ1 ov) fun p => anyS ((dE Φ k p.2).stm fun ok ρ3 => setS i ρ3 p.1 (deref ρ3 ok) ρ3[i]?) p.2[i]? := by
  simp only [dS]
  congr 1
  funext ov ρ1
  cases sealE ρ1 ov with
  | none => rfl
  | some p =>
    obtain ⟨d, ρ2⟩ := p
    show _ = anyS _ ρ2[i]?
    cases e : ρ2[i]? with
    | none => simp only [e]; rfl
    | some s =>
      cases s with
      | none => simp only [e]; rfl
      | some z =>
        simp only [e, anyS]
        congr 1
        funext ok ρ3
        cases deref ρ3 ok with
        | none => rfl
        | some kd =>
          obtain ⟨kd, kb⟩ := kd
          cases ρ3[i]? with
          | none => rfl
          | some s =>
            cases s with
            | none => rfl
            | some y =>
              obtain ⟨y, yb⟩ := y
              cases yb with
              | false => rfl
              | true =>
                simp only [setS, stK]
                cases setF y kd d <;> rfl
@[simp] theorem dS_augE {i : Nat} {op : Operator} {e : IE} : dS Φ P (.aug i op e) ρ = if P.contains i = true then .bad else augR (fun x => (dE Φ e ρ).stm fun o ρ1 => augS i op ρ1 x (deref ρ1 o)) ρ[i]? := by
  simp only [dS]
  split
  · rfl
  · cases e1 : ρ[i]? with
    | none => rfl
    | some s =>
      cases s with
      | none => rfl
      | some z =>
        obtain ⟨z, b⟩ := z
        cases z with
        | int x =>
          cases b with
          | true => rfl
          | false =>
            simp only [augR]
            congr 1
            funext o ρ1
            cases deref ρ1 o with
            | none => rfl
            | some y =>
              obtain ⟨y, yb⟩ := y
              cases y with
              | int y =>
                simp only [augS, stK]
                cases augF op x y <;> rfl
              | _ => rfl
        | _ => cases b <;> rfl
@[simp] theorem dS_iff {c : IT} {a b : IB} : dS Φ P (.iff c a b) ρ = (dT Φ c ρ).stm fun k ρ1 => if k = true then dB Φ P a ρ1 else dB Φ P b ρ1 := by simp only [dS]
@[simp] theorem dS_for {tg : Tg} {it : II} {b : IB} : dS Φ P (.for_ tg it b) ρ = (dI Φ it ρ).stm fun xs ρ1 => forL P tg (dB Φ P b) xs ρ1 := by simp only [dS]
@[simp] theorem dS_while {c : IT} {b : IB} : dS Φ P (.while_ c b) ρ = whileL (dT Φ c) (dB Φ P b) bigFuel ρ := by simp only [dS]
@[simp] theorem dS_ret {e : IE} : dS Φ P (.ret e) ρ = (dE Φ e ρ).stm fun o ρ1 => stK (moveOut ρ1 o) fun p => .rt p.1 p.2.1 p.2.2 := by
  simp only [dS]; congr 1; funext o ρ1; cases moveOut ρ1 o <;> rfl
@[simp] theorem dS_retN : dS Φ P .retN ρ = .rt .none false ρ := by simp only [dS]
@[simp] theorem dS_pass : dS Φ P .pass ρ = .nx ρ := by simp only [dS]
@[simp] theorem dS_brk : dS Φ P .brk ρ = .bk ρ := by simp only [dS]
@[simp] theorem dS_cont : dS Φ P .cont ρ = .ct ρ := by simp only [dS]
@[simp] theorem dS_raise {c : Nat} {e : IE} : dS Φ P (.raise_ c e) ρ = (dE Φ e ρ).stm fun o ρ1 => stK (sealE ρ1 o) fun p => .ex c p.1 p.2 := by
  simp only [dS]
  congr 1
  funext o ρ1
  cases sealE ρ1 o <;> rfl
def tryK (Φ : Fn) (P : List Nat) (hs : IH) : SR → SR
  | .ex c p ρ => dH Φ P hs c p ρ
  | r => r
@[simp] theorem dS_try {b : IB} {hs : IH} : dS Φ P (.try_ b hs) ρ = tryK Φ P hs (dB Φ P b ρ) := by
  simp only [dS]
  cases dB Φ P b ρ <;> rfl
@[simp] theorem tryK_ex {hs : IH} {c : Nat} {p : D} : tryK Φ P hs (.ex c p ρ) = dH Φ P hs c p ρ := (rfl)
@[simp] theorem tryK_nx {hs : IH} : tryK Φ P hs (.nx ρ) = .nx ρ := (rfl)
@[simp] theorem tryK_rt {hs : IH} {d : D} {o : Bool} : tryK Φ P hs (.rt d o ρ) = .rt d o ρ := (rfl)
@[simp] theorem dH_nil {c : Nat} {p : D} : dH Φ P .nil c p ρ = .ex c p ρ := by simp only [dH]
@[simp] theorem dH_bare {yes no : List Nat} {b : IB} {r : IH} {c : Nat} {p : D} : dH Φ P (.cons yes no none b r) c p ρ = if yes.contains c = true then (dB (exF Φ c p) P b ρ).un none else if no.contains c = true then dH Φ P r c p ρ else .bad := by simp only [dH]
@[simp] theorem dH_named {yes no : List Nat} {i : Nat} {b : IB} {r : IH} {c : Nat} {p : D} : dH Φ P (.cons yes no (some i) b r) c p ρ = if yes.contains c = true then (if (P.contains i || decide (ρ.length ≤ i)) = true then .bad else (dB (exF Φ c p) (i :: P) b (ρ.set i none)).un (some i))
    else if no.contains c = true then dH Φ P r c p ρ else .bad := by simp only [dH]
@[simp] theorem un_nx : (SR.nx ρ).un none = .nx ρ := (rfl)
@[simp] theorem un_rt {d : D} {o : Bool} : (SR.rt d o ρ).un none = .rt d o ρ := (rfl)
@[simp] theorem un_nxS {i : Nat} : (SR.nx ρ).un (some i) = .nx (ρ.set i none) := (rfl)
@[simp] theorem un_rtS {d : D} {o : Bool} {i : Nat} : (SR.rt d o ρ).un (some i) = .rt d o (ρ.set i none) := (rfl)
@[simp] theorem dB_nil : dB Φ P .nil ρ = .nx ρ := by simp only [dB]
@[simp] theorem dB_cons {s : IS} {r : IB} : dB Φ P (.cons s r) ρ = (dS Φ P s ρ).seq (dB Φ P r) := by simp only [dB]
@[simp] theorem runF_K {fd : Fd} {xs : List (D × Bool)} : runF Φ fd xs = if xs.length = fd.np then srK fd.P fd.np (dB Φ fd.P fd.body (xs.map some ++ List.replicate (fd.nn - fd.np) none)) else .bad := by
  unfold runF
  split
  · cases dB Φ fd.P fd.body (xs.map some ++ List.replicate (fd.nn - fd.np) none) <;> rfl
  · rfl
@[simp] theorem add_ii {i j : Int} : binF .Add (.int i) (.int j) = some (.int (i + j), false) := (rfl)
@[simp] theorem sub_ii {i j : Int} : binF .Sub (.int i) (.int j) = some (.int (i - j), false) := (rfl)
@[simp] theorem mul_ii {i j : Int} : binF .Mult (.int i) (.int j) = if mulOk i j = true then some (.int (i * j), false) else none := (rfl)
@[simp] theorem div_ii {i j : Int} : binF .FloorDiv (.int i) (.int j) = if 0 < j ∧ j < 2 ^ 200 then some (.int (i / j), false) else none := (rfl)
@[simp] theorem mod_ii {i j : Int} : binF .Mod (.int i) (.int j) = if 0 < j then some (.int (i % j), false) else none := (rfl)
@[simp] theorem pow_ii {i j : Int} : binF .Pow (.int i) (.int j) = if 0 ≤ j ∧ j ≤ 1000000 ∧ i.natAbs < 2 ^ 64 then some (.int (i ^ j.toNat), false) else none := (rfl)
@[simp] theorem add_ll {a b : List D} : binF .Add (.list a) (.list b) = if a.length + b.length ≤ sizeLine then some (.list (a ++ b), true) else none := (rfl)
@[simp] theorem add_tt {a b : List D} : binF .Add (.tuple a) (.tuple b) = if a.length + b.length ≤ sizeLine then some (.tuple (a ++ b), false) else none := (rfl)
@[simp] theorem neg_i {i : Int} : unF .USub (.int i) = some (.int (-i), false) := (rfl)
@[simp] theorem eq_ii {i j : Int} : cmpF .Eq (.int i) (.int j) = some (.bool (decide (i = j)), false) := (rfl)
@[simp] theorem ne_ii {i j : Int} : cmpF .NotEq (.int i) (.int j) = some (.bool (!decide (i = j)), false) := (rfl)
@[simp] theorem eq_ss {i j : Str} : cmpF .Eq (.str i) (.str j) = some (.bool (decide (i = j)), false) := (rfl)
@[simp] theorem ne_ss {i j : Str} : cmpF .NotEq (.str i) (.str j) = some (.bool (!decide (i = j)), false) := (rfl)
@[simp] theorem lt_ii {i j : Int} : cmpF .Lt (.int i) (.int j) = some (.bool (decide (i < j)), false) := (rfl)
@[simp] theorem le_ii {i j : Int} : cmpF .LtE (.int i) (.int j) = some (.bool (decide (i ≤ j)), false) := (rfl)
@[simp] theorem gt_ii {i j : Int} : cmpF .Gt (.int i) (.int j) = some (.bool (decide (j < i)), false) := (rfl)
@[simp] theorem ge_ii {i j : Int} : cmpF .GtE (.int i) (.int j) = some (.bool (decide (j ≤ i)), false) := (rfl)
@[simp] theorem ix_l {xs : List D} {i : Int} : ixF (.list xs) (.int i) = (atI xs i).map fun d => (d, false) := (rfl)
@[simp] theorem ix_t {xs : List D} {i : Int} : ixF (.tuple xs) (.int i) = (atI xs i).map fun d => (d, false) := (rfl)
def ixK : Option (Option D) → Option (D × Bool)
  | some (some d) => some (d, false)
  | _ => none
@[simp] theorem ixK_s {d : D} : ixK (some (some d)) = some (d, false) := (rfl)
@[simp] theorem ix_d {es : List (D × D)} {k : D} : ixF (.dict es) k = ixK (getF (.dict es) k) := by
  simp only [ixF]
  cases getF (.dict es) k with
  | none => rfl
  | some o => cases o <;> rfl
@[simp] theorem in_l {x : D} {ds : List D} : cmpF .In x (.list ds) = if SeqAt.shaped x = true ∧ SeqAt.shaped (.list ds) = true then some (.bool (ds.any fun z => PyData.eqv z x), false) else none := by
  simp only [cmpF, inF, xorF, bl]
@[simp] theorem in_t {x : D} {ds : List D} : cmpF .In x (.tuple ds) = if SeqAt.shaped x = true ∧ SeqAt.shaped (.tuple ds) = true then some (.bool (ds.any fun z => PyData.eqv z x), false) else none := by
  simp only [cmpF, inF, xorF, bl]
@[simp] theorem nin_l {x : D} {ds : List D} : cmpF .NotIn x (.list ds) = if SeqAt.shaped x = true ∧ SeqAt.shaped (.list ds) = true then some (.bool (!ds.any fun z => PyData.eqv z x), false) else none := by
  simp only [cmpF, inF, xorT, bl]
@[simp] theorem nin_t {x : D} {ds : List D} : cmpF .NotIn x (.tuple ds) = if SeqAt.shaped x = true ∧ SeqAt.shaped (.tuple ds) = true then some (.bool (!ds.any fun z => PyData.eqv z x), false) else none := by
  simp only [cmpF, inF, xorT, bl]
@[simp] theorem in_d {x : D} {es : List (D × D)} : cmpF .In x (.dict es) = (getF (.dict es) x).bind fun o => some (.bool o.isSome, false) := by
  simp only [cmpF, inF, xorF, bl]
@[simp] theorem nin_d {x : D} {es : List (D × D)} : cmpF .NotIn x (.dict es) = (getF (.dict es) x).bind fun o => some (.bool (!o.isSome), false) := by
  simp only [cmpF, inF, xorT, bl]
@[simp] theorem dict_l {ds : List D} : biF .dict [.list ds] = (pairsF ds).map fun ps => (.dict (mergeE ps), true) := (rfl)
@[simp] theorem dict_t {ds : List D} : biF .dict [.tuple ds] = (pairsF ds).map fun ps => (.dict (mergeE ps), true) := (rfl)
@[simp] theorem sorted_l {ds : List D} : biF .sorted [.list ds] = (intsF ds).map fun ns => (.list ((sortI ns).map .int), true) := (rfl)
@[simp] theorem sorted_d {es : List (D × D)} : biF .sorted [.dict es] = if es.length < 64 then (intsF (es.map (·.1))).map fun ns => (.list ((sortI ns).map .int), true) else none := (rfl)
@[simp] theorem all_l {ds : List D} : biF .all [.list ds] = (boolsF ds).map fun bs => (.bool (bs.all id), false) := (rfl)
@[simp] theorem any_l {ds : List D} : biF .any [.list ds] = (boolsF ds).map fun bs => (.bool (bs.any id), false) := (rfl)
@[simp] theorem is_n {x : D} : cmpF .Is x .none = some (.bool (isNone x), false) := by
  simp only [cmpF, isF, bl, xorF]
@[simp] theorem isnt_n {x : D} : cmpF .IsNot x .none = some (.bool (!isNone x), false) := by
  simp only [cmpF, isF, bl, xorT]
@[simp] theorem is_b {x : D} {b : Bool} : cmpF .Is x (.bool b) = some (.bool (isBl b x), false) := by
  simp only [cmpF, isF, bl, xorF]
@[simp] theorem isnt_b {x : D} {b : Bool} : cmpF .IsNot x (.bool b) = some (.bool (!isBl b x), false) := by
  simp only [cmpF, isF, bl, xorT]
@[simp] theorem truth_b {b : Bool} : truth (.bool b) = some b := (rfl)
@[simp] theorem truth_l {xs : List D} : truth (.list xs) = some (!xs.isEmpty) := (rfl)
@[simp] theorem truth_t {xs : List D} : truth (.tuple xs) = some (!xs.isEmpty) := (rfl)
@[simp] theorem truth_i {i : Int} : truth (.int i) = some (i != 0) := (rfl)
@[simp] theorem truth_n : truth .none = some false := (rfl)
@[simp] theorem len_l {xs : List D} : biF .len [.list xs] = some (.int xs.length, false) := (rfl)
@[simp] theorem len_t {xs : List D} : biF .len [.tuple xs] = some (.int xs.length, false) := (rfl)
@[simp] theorem int_i {i : Int} : biF .int [.int i] = some (.int i, false) := (rfl)
@[simp] theorem int_b {b : Bool} : biF .int [.bool b] = some (.int (if b then 1 else 0), false) := (rfl)
@[simp] theorem tup_l {xs : List D} : biF .tuple [.list xs] = some (.tuple xs, false) := (rfl)
@[simp] theorem tup_t {xs : List D} : biF .tuple [.tuple xs] = some (.tuple xs, false) := (rfl)
@[simp] theorem lst_l {xs : List D} : biF .list [.list xs] = some (.list xs, true) := (rfl)
@[simp] theorem lst_t {xs : List D} : biF .list [.tuple xs] = some (.list xs, true) := (rfl)
@[simp] theorem max_ii {i j : Int} : biF .max2 [.int i, .int j] = some (.int (max i j), false) := by
  have e : (if j > i then j else i) = max i j := by omega
  rw [← e]; rfl
@[simp] theorem min_ii {i j : Int} : biF .min2 [.int i, .int j] = some (.int (min i j), false) := by
  have e : (if j < i then j else i) = min i j := by omega
  rw [← e]; rfl
@[simp] theorem repr_d {d : D} : biF .repr [d] = if reprOk d = true then some (.str d.shown, false) else none := by cases d <;> rfl
@[simp] theorem app_l {xs : List D} {v : D} : muF .append (.list xs) [v] = if xs.length < sizeLine then some (.none, .list (xs ++ [v])) else none := (rfl)
@[simp] theorem ext_l {xs ys : List D} : muF .extend (.list xs) [.list ys] = if xs.length + ys.length ≤ sizeLine then some (.none, .list (xs ++ ys)) else none := (rfl)
@[simp] theorem set_l {xs : List D} {k : Int} {v : D} : setF (.list xs) (.int k) v = (ixN xs.length k).map fun j => .list (xs.set j v) := (rfl)
@[simp] theorem aug_add {x y : Int} : augF .Add x y = some (x + y) := (rfl)
@[simp] theorem aug_sub {x y : Int} : augF .Sub x y = some (x - y) := (rfl)
@[simp] theorem aug_mul {x y : Int} : augF .Mult x y = if mulOk x y = true then some (x * y) else none := (rfl)
@[simp] theorem wipe_nil : wipeE ρ [] = ρ := (rfl)
@[simp] theorem wipe_cons {i : Nat} {r : List Nat} : wipeE ρ (i :: r) = (wipeE ρ r).set i none := (rfl)
@[simp] theorem rest_nil {ρ0 : En} : restE ρ0 ρ [] = ρ := (rfl)
@[simp] theorem rest_cons {ρ0 : En} {i : Nat} {r : List Nat} : restE ρ0 ρ (i :: r) = (restE ρ0 ρ r).set i (ρ0[i]?.join) := (rfl)
@[simp] theorem outs_0 : outs P 0 ρ = [] := (rfl)
@[simp] theorem outs_s {n : Nat} : outs P (n + 1) ρ = outs P n ρ ++ [if P.contains n = true then ρ[n]?.join else none] := by simp [outs, List.range_succ]
end
theorem den_s {tb : Nat → Option Fd} {k f : Nat} {fd : Fd} {xs : List (D × Bool)} (h : tb f = some fd) (hl : fd.lam = false := by rfl) : den tb (k + 1) f xs = runF (den tb k) fd xs := by
  simp only [den, h, hl, Bool.false_eq_true, if_false]
theorem den_sl {tb : Nat → Option Fd} {k f : Nat} {fd : Fd} {xs : List (D × Bool)} (h : tb f = some fd) (hl : fd.lam = true := by rfl) : den tb (k + 1) f xs = runF (lamF tb (den tb k)) fd xs := by
  simp only [den, h, hl, if_true]
section
variable {Φ : Fn} {ρ : En} {tb : Nat → Option Fd}
@[simp] theorem dE_thk : dE Φ .thk ρ = thR ρ (Φ 1000002 []) := by simp only [dE]
@[simp] theorem dE_lamc {f : Nat} {e : IE} : dE Φ (.lamc f e) ρ = lamR Φ f ρ (encR (dE Φ e (maskE ρ))) := by simp only [dE]
@[simp] theorem thR_ok {d : D} {b : Bool} {o : En} : thR ρ (.ok d b o) = .ok (.val d false) ρ := (rfl)
@[simp] theorem thR_ex {c : Nat} {p : D} {o : En} : thR ρ (.ex c p o) = .ex c p ρ := (rfl)
@[simp] theorem lmR_ok {d : D} {b : Bool} {o : En} : lmR ρ (.ok d b o) = .ok (.val d b) ρ := (rfl)
@[simp] theorem lmR_ex {c : Nat} {p : D} {o : En} : lmR ρ (.ex c p o) = .ex c p ρ := (rfl)
@[simp] theorem lamR_s {f : Nat} {d : D} : lamR Φ f ρ (some d) = lmR ρ (Φ (2000000 + f) [(d, false)]) := (rfl)
@[simp] theorem encR_val {d : D} {b : Bool} : encR (.ok (.val d b) ρ) = some (.tuple [.none, d]) := (rfl)
@[simp] theorem encR_ex {c : Nat} {p : D} : encR (.ex c p ρ) = some (.tuple [.int (c : Int), p]) := (rfl)
def encS : Option (D × En) → Option D
  | some (d, _) => some (.tuple [.none, d])
  | none => none
@[simp] theorem encS_s {d : D} : encS (some (d, ρ)) = some (.tuple [.none, d]) := (rfl)
@[simp] theorem encR_ref {i : Nat} : encR (.ok (.ref i) ρ) = encS (sealR ρ i ρ[i]?) := by
  show (match sealE ρ (.ref i) with
    | some (d, _) => some (PyData.tuple [.none, d])
    | none => none) = _
  rw [seal_ref]
  cases sealR ρ i ρ[i]? with
  | none => rfl
  | some p => rfl
@[simp] theorem decD_ok {d : D} : decD (.tuple [.none, d]) = .ok d false [] := (rfl)
@[simp] theorem decD_ex {c : Nat} {p : D} : decD (.tuple [.int (c : Int), p]) = .ex c p [] := by simp [decD]
@[simp] theorem mask_nil : maskE [] = [] := (rfl)
@[simp] theorem mask_cons {s : Sl} {r : En} : maskE (s :: r) = maskS s :: maskE r := (rfl)
@[simp] theorem maskS_f {d : D} : maskS (some (d, false)) = some (d, false) := (rfl)
@[simp] theorem maskS_t {d : D} : maskS (some (d, true)) = none := (rfl)
@[simp] theorem maskS_n : maskS none = none := (rfl)
@[simp] theorem thF_r {r : CL} : thF Φ r 1000002 [] = r := (rfl)
@[simp] theorem thF_ne {r : CL} {f : Nat} {xs : List (D × Bool)} (h : f ≠ 1000002) : thF Φ r f xs = Φ f xs := by
  unfold thF
  rw [if_neg h]
@[simp] theorem lamF_ne {f : Nat} {xs : List (D × Bool)} (h : f < 2000000) : lamF tb Φ f xs = Φ f xs := by rw [lamF_lt h]
theorem lamF_at {n f : Nat} {fd : Fd} {d : D} {b : Bool} (hn : n = 2000000 + f) (h : tb f = some fd) : lamF tb Φ n [(d, b)] = runT Φ fd (decD d) := by
  subst hn
  unfold lamF
  rw [if_pos (by omega), show 2000000 + f - 2000000 = f by omega, h]
def srT : SR → CL
  | .nx _ => .ok .none false []
  | .rt d own _ => .ok d own []
  | .ex c p _ => .ex c p []
  | _ => .bad
@[simp] theorem srT_nx : srT (.nx ρ) = .ok .none false [] := (rfl)
@[simp] theorem srT_rt {d : D} {own : Bool} : srT (.rt d own ρ) = .ok d own [] := (rfl)
@[simp] theorem srT_ex {c : Nat} {p : D} : srT (.ex c p ρ) = .ex c p [] := (rfl)
@[simp] theorem runT_K {fd : Fd} {r : CL} : runT Φ fd r = srT (dB (thF Φ r) fd.P fd.body (List.replicate fd.nn none)) := by
  unfold runT
  cases dB (thF Φ r) fd.P fd.body (List.replicate fd.nn none) <;> rfl
end
theorem enumD_eq (xs : List D) : enumD xs = (List.range xs.length).map fun (i : Nat) => .tuple [.int (i : Int), xs.getD i .none] := by
  unfold enumD
  apply List.ext_getElem?
  intro i
  by_cases h : i < xs.length
  · simp [h]
  · simp [h]
def turnW (own : List Nat) (tg : Tg) (c : MT) (e : ME) (x : D) (ρ0 : En) : Rs (Option D) := optK (setTg [] tg x false ρ0) fun ρ1 => (c ρ1).noex.bind fun k ρ2 =>
  if k = true then (e ρ2).noex.bind fun o ρ3 => optK (sealE ρ3 o) fun p => .ok (some p.1) (wipeE p.2 own) else .ok none (wipeE ρ2 own)
def lcW (own : List Nat) (tg : Tg) (c : MT) (e : ME) : List D → List D → En → Rs (List D)
  | [], acc, ρ => .ok acc ρ
  | x :: xs, acc, ρ => (turnW own tg c e x ρ).bind fun od ρ' => lcW own tg c e xs (acc ++ od.toList) ρ'
@[simp] theorem lcL_W {own : List Nat} {tg : Tg} {c : MT} {e : ME} : ∀ {xs acc : List D} {ρ : En}, lcL own tg c e xs acc ρ = lcW own tg c e xs acc (wipeE ρ own)
  | [], acc, ρ => rfl
  | x :: xs, acc, ρ => by
    simp only [lcL, lcW, turnW]
    cases setTg [] tg x false (wipeE ρ own) with
    | none => rfl
    | some ρ1 =>
      simp only [optK_some]
      cases (c ρ1).noex with
      | bad => rfl
      | ex _ _ _ => rfl
      | ok k ρ2 =>
        simp only [bind_ok]
        cases k with
        | false =>
          simp only [Bool.false_eq_true, if_false, bind_ok]
          rw [lcL_W]
          simp
        | true =>
          simp only [if_true]
          cases (e ρ2).noex with
          | bad => rfl
          | ex _ _ _ => rfl
          | ok o ρ3 =>
            simp only [bind_ok]
            cases sealE ρ3 o with
            | none => rfl
            | some p =>
              obtain ⟨d, ρ4⟩ := p
              simp only [optK_some, bind_ok]
              rw [lcL_W]
              rfl
theorem lcW_pure {α : Type} {own : List Nat} {tg : Tg} {c : MT} {e : ME} {f : α → D} {g : α → Option D} {ρ : En} : ∀ {l : List α}, (∀ a ∈ l, turnW own tg c e (f a) ρ = .ok (g a) ρ) → ∀ acc : List D, lcW own tg c e (l.map f) acc ρ = .ok (acc ++ l.filterMap g) ρ
  | [], _, acc => by simp [lcW]
  | a :: l, h, acc => by
    simp only [List.map_cons, lcW]
    rw [h a List.mem_cons_self, bind_ok, lcW_pure (l := l) (fun b hb => h b (List.mem_cons_of_mem _ hb)), List.filterMap_cons]
    cases g a <;> simp
theorem lcW_inv {S : Type} {own : List Nat} {tg : Tg} {c : MT} {e : ME} {E : S → En} {I : S → Prop} {G : D → D → Prop} : ∀ {xs : List D}, (∀ x ∈ xs, ∀ s, I s → ∃ od s', I s' ∧ turnW own tg c e x (E s) = .ok od (E s') ∧ ∀ d, od = some d → G x d) →
    ∀ (acc : List D) (s : S), I s → ∃ ds s', I s' ∧ lcW own tg c e xs acc (E s) = .ok (acc ++ ds) (E s') ∧ (∀ d ∈ ds, ∃ x ∈ xs, G x d) ∧ ds.length ≤ xs.length
  | [], _, acc, s, i => ⟨[], s, i, by simp [lcW], fun d hd => (nomatch hd), Nat.le_refl _⟩
  | x :: xs, h, acc, s, i => by
    obtain ⟨od, s1, i1, h1, h2⟩ := h x List.mem_cons_self s i
    obtain ⟨ds, s2, i2, e1, e2, e3⟩ := lcW_inv (xs := xs) (fun y hy => h y (List.mem_cons_of_mem _ hy)) (acc ++ od.toList) s1 i1
    refine ⟨od.toList ++ ds, s2, i2, by simp only [lcW, h1, bind_ok, e1, List.append_assoc], fun d hd => ?_, ?_⟩
    · rcases List.mem_append.mp hd with q | q
      · exact ⟨x, List.mem_cons_self, h2 d (by simpa using q)⟩
      · obtain ⟨z, z1, z2⟩ := e2 d q
        exact ⟨z, List.mem_cons_of_mem _ z1, z2⟩
    · cases od <;> simp <;> omega
theorem lcW_all {S : Type} {own : List Nat} {tg : Tg} {c : MT} {e : ME} {E : S → En} {I : S → Prop} {G : D → D → Prop} : ∀ {xs : List D}, (∀ x ∈ xs, ∀ s, I s → ∃ d s', I s' ∧ turnW own tg c e x (E s) = .ok (some d) (E s') ∧ G x d) →
    ∀ (acc : List D) (s : S), I s → ∃ ds s', I s' ∧ lcW own tg c e xs acc (E s) = .ok (acc ++ ds) (E s') ∧ Paired G xs ds
  | [], _, acc, s, i => ⟨[], s, i, by simp [lcW], .nil⟩
  | x :: xs, h, acc, s, i => by
    obtain ⟨d, s1, i1, h1, h2⟩ := h x List.mem_cons_self s i
    obtain ⟨ds, s2, i2, e1, e2⟩ := lcW_all (xs := xs) (fun y hy => h y (List.mem_cons_of_mem _ hy)) (acc ++ [d]) s1 i1
    refine ⟨d :: ds, s2, i2, ?_, .cons h2 e2⟩
    simp only [lcW, h1, bind_ok, Option.toList_some, e1, List.append_assoc]
    rfl
def ctS : SR → SR
  | .ct ρ => .nx ρ
  | r => r
@[simp] theorem ctS_nx {ρ : En} : ctS (.nx ρ) = .nx ρ := (rfl)
@[simp] theorem ctS_ct {ρ : En} : ctS (.ct ρ) = .nx ρ := (rfl)
@[simp] theorem ctS_bk {ρ : En} : ctS (.bk ρ) = .bk ρ := (rfl)
@[simp] theorem ctS_rt {ρ : En} {d : D} {o : Bool} : ctS (.rt d o ρ) = .rt d o ρ := (rfl)
def bkS : SR → SR
  | .bk ρ => .nx ρ
  | r => r
def turnF (P : List Nat) (tg : Tg) (b : En → SR) (x : D) (ρ : En) : SR := stK (setTg P tg x false ρ) fun ρ1 => ctS (b ρ1)
theorem forL_cons {P : List Nat} {tg : Tg} {b : En → SR} {x : D} {xs : List D} {ρ : En} : forL P tg b (x :: xs) ρ = match turnF P tg b x ρ with
    | .nx ρ' => forL P tg b xs ρ'
    | .bk ρ' => .nx ρ'
    | r => r := by
  simp only [forL, turnF]
  cases setTg P tg x false ρ with
  | none => rfl
  | some ρ1 =>
    simp only [stK_some]
    cases b ρ1 <;> rfl
theorem forL_inv {S : Type} {P : List Nat} {tg : Tg} {b : En → SR} {E : S → En} {I : S → Prop} : ∀ {xs : List D}, (∀ x ∈ xs, ∀ s, I s → ∃ s', I s' ∧ turnF P tg b x (E s) = .nx (E s')) → ∀ s, I s → ∃ s', I s' ∧ forL P tg b xs (E s) = .nx (E s')
  | [], _, s, i => ⟨s, i, rfl⟩
  | x :: xs, h, s, i => by
    obtain ⟨s1, i1, h1⟩ := h x List.mem_cons_self s i
    obtain ⟨s2, i2, h2⟩ := forL_inv (xs := xs) (fun y hy => h y (List.mem_cons_of_mem _ hy)) s1 i1
    exact ⟨s2, i2, by rw [forL_cons, h1]; exact h2⟩
theorem forL_ix {S : Type} {P : List Nat} {tg : Tg} {b : En → SR} {E : S → En} {I : Nat → S → Prop} : ∀ {xs : List D} {n : Nat}, (∀ (i : Nat) (x : D), xs[i]? = some x → ∀ s, I (n + i) s → ∃ s', I (n + i + 1) s' ∧ turnF P tg b x (E s) = .nx (E s')) → ∀ s, I n s → ∃ s', I (n + xs.length) s' ∧ forL P tg b xs (E s) = .nx (E s')
  | [], _, _, s, i => ⟨s, i, rfl⟩
  | x :: xs, n, h, s, i => by
    obtain ⟨s1, i1, h1⟩ := h 0 x rfl s i
    obtain ⟨s2, i2, h2⟩ := forL_ix (xs := xs) (n := n + 1) (fun j y hy s is => by
      have := h (j + 1) y (by simpa using hy) s (by rw [show n + (j + 1) = n + 1 + j by omega]; exact is)
      rw [show n + (j + 1) + 1 = n + 1 + j + 1 by omega] at this
      exact this) s1 i1
    exact ⟨s2, by rw [List.length_cons, show n + (xs.length + 1) = n + 1 + xs.length by omega]; exact i2, by rw [forL_cons, h1]; exact h2⟩
end Mv
namespace Mv
open PySem PySem.Spec L2
open PyProof.Rows hiding St

def sm : List Nat → D → Bool
  | _, .none => true
  | _, .bool _ => true
  | _, .int i => decide (-999999999999 ≤ i) && decide (i ≤ 999999999999)
  | m :: r, .list xs => decide (xs.length ≤ m) && xs.all (sm r)
  | m :: r, .tuple xs => decide (xs.length ≤ m) && xs.all (sm r)
  | _, _ => false
def wt : List Nat → Nat
  | [] => 41
  | m :: r => 41 + m * (wt r + 1)
structure Fine (l : List Nat) (x : D) : Prop where
  a : x.showable = true
  b : x.hasDict = false
  c : x.leavesShort 13 = true
  d : x.weight ≤ wt l
  e : x.depth ≤ l.length
  f : x.canLay0 = true
structure FineA (l : List Nat) (xs : List D) : Prop where
  a : PyData.showableAll xs = true
  b : PyData.hasDictAll xs = false
  c : PyData.leavesShortAll 13 xs = true
  d : PyData.weightAll xs ≤ xs.length * (wt l + 1)
  e : PyData.depthAll xs ≤ l.length
  f : PyData.canLayAll0 xs = true
theorem fineA {l : List Nat} (h : ∀ d, sm l d = true → Fine l d) : ∀ {xs : List D}, xs.all (sm l) = true → FineA l xs
  | [], _ => ⟨rfl, rfl, rfl, by simp [PyData.weightAll], by simp [PyData.depthAll], rfl⟩
  | x :: xs, q => by
    rw [List.all_cons, Bool.and_eq_true] at q
    have f := h x q.1
    have g := fineA h q.2
    refine ⟨by simp [PyData.showableAll, f.a, g.a], by simp [PyData.hasDictAll, f.b, g.b], by simp [PyData.leavesShortAll, f.c, g.c], ?_, ?_, by simp [PyData.canLayAll0, f.f, g.f]⟩
    · have := f.d
      have := g.d
      simp only [PyData.weightAll, List.length_cons, Nat.add_mul, Nat.one_mul]
      omega
    · have := f.e
      have := g.e
      simp only [PyData.depthAll]
      omega
theorem log2_small {n : Nat} (h : n ≤ 999999999999) : n.log2 < 40 := by
  by_cases h0 : n = 0
  · subst h0; decide
  · exact (Nat.log2_lt h0).mpr (by omega)
theorem fine_int {l : List Nat} {i : Int} (h1 : -999999999999 ≤ i) (h2 : i ≤ 999999999999) : Fine l (.int i) := by
  have hl := log2_small (n := i.natAbs) (by omega)
  refine ⟨by simp only [PyData.showable]; exact decide_eq_true (by omega), rfl, by simp only [PyData.leavesShort]; exact decide_eq_true (PyData.shown_int_le2 (by omega) (by omega)), ?_, by simp [PyData.depth], rfl⟩
  have : (PyData.int i).weight ≤ 41 := by
    simp only [PyData.weight]
    split <;> omega
  cases l with
  | nil => exact this
  | cons m r => exact Nat.le_trans this (Nat.le_add_right _ _)
theorem wt_41 (l : List Nat) : 41 ≤ wt l := by
  cases l with
  | nil => exact Nat.le_refl _
  | cons m r => exact Nat.le_add_right _ _
theorem sm_fine : ∀ (l : List Nat) (d : D), sm l d = true → Fine l d
  | l, .none, _ => ⟨rfl, rfl, rfl, by simp [PyData.weight], by simp [PyData.depth], rfl⟩
  | l, .bool _, _ => ⟨rfl, rfl, rfl, by simp [PyData.weight], by simp [PyData.depth], rfl⟩
  | l, .int i, h => by
    simp only [sm, Bool.and_eq_true, decide_eq_true_eq] at h
    exact fine_int h.1 h.2
  | m :: r, .list xs, h => by
    simp only [sm, Bool.and_eq_true, decide_eq_true_eq] at h
    have g := fineA (sm_fine r) h.2
    have := Nat.mul_le_mul_right (wt r + 1) h.1
    exact ⟨by simpa only [PyData.showable] using g.a, by simpa only [PyData.hasDict] using g.b, by simpa only [PyData.leavesShort] using g.c, by simp only [PyData.weight, wt]; have := g.d; omega, by simp only [PyData.depth, List.length_cons]; have := g.e; omega, by simpa only [PyData.canLay0] using g.f⟩
  | m :: r, .tuple xs, h => by
    simp only [sm, Bool.and_eq_true, decide_eq_true_eq] at h
    have g := fineA (sm_fine r) h.2
    have := Nat.mul_le_mul_right (wt r + 1) h.1
    exact ⟨by simpa only [PyData.showable] using g.a, by simpa only [PyData.hasDict] using g.b, by simpa only [PyData.leavesShort] using g.c, by simp only [PyData.weight, wt]; have := g.d; omega, by simp only [PyData.depth, List.length_cons]; have := g.e; omega, by simpa only [PyData.canLay0] using g.f⟩
  | [], .list _, h => by simp [sm] at h
  | [], .tuple _, h => by simp [sm] at h
  | [], .str _, h => by simp [sm] at h
  | _ :: _, .str _, h => by simp [sm] at h
  | [], .dict _, h => by simp [sm] at h
  | _ :: _, .dict _, h => by simp [sm] at h
theorem sm_repr {l : List Nat} {d : D} (h : sm l d = true) (h1 : wt l ≤ 2 ^ 20) (h2 : l.length ≤ 64) : reprOk d = true := by
  have f := sm_fine l d h
  have g := PyData.shown_fits (B := 13) (by decide) (by decide) f.c (Nat.le_trans f.d h1)
  simp only [reprOk, Bool.and_eq_true, decide_eq_true_eq, Bool.not_eq_true']
  exact ⟨⟨⟨f.a, f.b⟩, g⟩, Nat.le_trans f.e h2⟩
theorem lay_shaped {d : D} (h : d.canLay0 = true) (h2 : d.depth ≤ 64) : SeqAt.shaped d = true := by
  simp only [SeqAt.shaped, h, decide_eq_true h2, Bool.and_self]
theorem sm_shaped {l : List Nat} {d : D} (h : sm l d = true) (h2 : l.length ≤ 64) : SeqAt.shaped d = true := lay_shaped (sm_fine l d h).f (Nat.le_trans (sm_fine l d h).e h2)
/-- a thing beside itself -/
theorem eqv_self {d : D} (h : SeqAt.shaped d = true) : PyData.eqv d d = true := SeqAt.eqv_refl d (Bool.and_eq_true_iff.mp h).1
@[simp] theorem ne_tt {a b : List D} : cmpF .NotEq (.tuple a) (.tuple b) = if SeqAt.shaped (.tuple a) = true ∧ SeqAt.shaped (.tuple b) = true then bl (!PyData.eqv (.tuple a) (.tuple b)) else none := (rfl)
@[simp] theorem eq_tt {a b : List D} : cmpF .Eq (.tuple a) (.tuple b) = if SeqAt.shaped (.tuple a) = true ∧ SeqAt.shaped (.tuple b) = true then bl (PyData.eqv (.tuple a) (.tuple b)) else none := (rfl)
@[simp] theorem ne_ll {a b : List D} : cmpF .NotEq (.list a) (.list b) = if SeqAt.shaped (.list a) = true ∧ SeqAt.shaped (.list b) = true then bl (!PyData.eqv (.list a) (.list b)) else none := (rfl)
@[simp] theorem eq_ll {a b : List D} : cmpF .Eq (.list a) (.list b) = if SeqAt.shaped (.list a) = true ∧ SeqAt.shaped (.list b) = true then bl (PyData.eqv (.list a) (.list b)) else none := (rfl)
@[simp] theorem bl_e {b : Bool} : bl b = some (.bool b, false) := (rfl)
theorem ints_lay : ∀ ns : List Int, PyData.canLayAll0 (ns.map .int) = true ∧ PyData.depthAll (ns.map .int) = 0
  | [] => ⟨rfl, rfl⟩
  | n :: ns => by
    obtain ⟨h1, h2⟩ := ints_lay ns
    exact ⟨by simp [PyData.canLayAll0, PyData.canLay0, h1], by simp [PyData.depthAll, PyData.depth, h2]⟩
@[simp] theorem shaped_li (ns : List Int) : SeqAt.shaped (.list (ns.map .int)) = true := lay_shaped (by simp [PyData.canLay0, ints_lay]) (by simp [PyData.depth, ints_lay])
@[simp] theorem shaped_ti (ns : List Int) : SeqAt.shaped (.tuple (ns.map .int)) = true := lay_shaped (by simp [PyData.canLay0, ints_lay]) (by simp [PyData.depth, ints_lay])
@[simp] theorem shaped_l0 : SeqAt.shaped (.list []) = true := shaped_li []
@[simp] theorem shaped_t0 : SeqAt.shaped (.tuple []) = true := shaped_ti []
@[simp] theorem eqv_nil {xs : List D} : PyData.eqv (.list xs) (.list []) = xs.isEmpty := by cases xs <;> simp [PyData.eqv, PyData.eqvAll]
end Mv
namespace Mv
open PySem PySem.Spec L2
open PyProof.Rows hiding St

theorem fm_congr {α β : Type} {f g : α → Option β} : ∀ {l : List α}, (∀ a ∈ l, f a = g a) → l.filterMap f = l.filterMap g
  | [], _ => rfl
  | a :: l, h => by rw [List.filterMap_cons, List.filterMap_cons, h a List.mem_cons_self, fm_congr fun b hb => h b (List.mem_cons_of_mem _ hb)]
section
variable {S α γ : Type} [DecidableEq α]
theorem lcW_ch {own : List Nat} {tg : Tg} {c : MT} {e : ME} {E : S → En} {I : S → Prop} {G : α → Option γ → Prop} {fx : α → D} {mk : α → γ → D} : ∀ {l : List α}, l.Nodup → (∀ a ∈ l, ∀ s, I s → ∃ o s', I s' ∧ turnW own tg c e (fx a) (E s) = .ok (o.map (mk a)) (E s') ∧ G a o) →
    ∀ (acc : List D) (s : S), I s → ∃ (f : α → Option γ) (s' : S), I s' ∧ lcW own tg c e (l.map fx) acc (E s) = .ok (acc ++ l.filterMap fun a => (f a).map (mk a)) (E s') ∧ ∀ a ∈ l, G a (f a)
  | [], _, _, acc, s, i => ⟨fun _ => none, s, i, by simp [lcW], fun a ha => nomatch ha⟩
  | a :: l, nd, h, acc, s, i => by
    rw [List.nodup_cons] at nd
    obtain ⟨o, s1, i1, h1, g1⟩ := h a List.mem_cons_self s i
    obtain ⟨f, s2, i2, h2, g2⟩ := lcW_ch nd.2 (fun b hb => h b (List.mem_cons_of_mem _ hb)) (acc ++ (o.map (mk a)).toList) s1 i1
    have ne : ∀ b ∈ l, (if b = a then o else f b) = f b := fun b hb => if_neg fun (z : b = a) => nd.1 (z ▸ hb)
    refine ⟨fun b => if b = a then o else f b, s2, i2, ?_, fun b hb => ?_⟩
    · simp only [List.map_cons, lcW, h1, bind_ok, h2]
      rw [List.filterMap_cons]
      simp only [if_true]
      have e2 : (l.filterMap fun b => ((if b = a then o else f b)).map (mk b)) = l.filterMap fun b => (f b).map (mk b) := fm_congr fun b hb => by rw [ne b hb]
      rw [e2]
      cases o <;> simp
    · rcases List.mem_cons.mp hb with rfl | hb
      · simpa using g1
      · show G b (if b = a then o else f b)
        rw [ne b hb]
        exact g2 b hb
theorem forL_ch {P : List Nat} {tg : Tg} {b : En → SR} {E : List D → S → En} {I : S → Prop} {G : α → Option γ → Prop} {fx : α → D} {mk : α → γ → D} {N : Nat} : ∀ {l : List α}, l.Nodup →
    (∀ a ∈ l, ∀ acc s, acc.length < N → I s → ∃ o s', I s' ∧ turnF P tg b (fx a) (E acc s) = .nx (E (acc ++ (o.map (mk a)).toList) s') ∧ G a o) →
    ∀ (acc : List D) (s : S), acc.length + l.length ≤ N → I s → ∃ (f : α → Option γ) (s' : S), I s' ∧ forL P tg b (l.map fx) (E acc s) = .nx (E (acc ++ l.filterMap fun a => (f a).map (mk a)) s') ∧ ∀ a ∈ l, G a (f a)
  | [], _, _, acc, s, _, i => ⟨fun _ => none, s, i, by simp [forL], fun a ha => nomatch ha⟩
  | a :: l, nd, h, acc, s, hl, i => by
    rw [List.nodup_cons] at nd
    simp only [List.length_cons] at hl
    obtain ⟨o, s1, i1, h1, g1⟩ := h a List.mem_cons_self acc s (by omega) i
    obtain ⟨f, s2, i2, h2, g2⟩ := forL_ch nd.2 (fun b hb => h b (List.mem_cons_of_mem _ hb)) (acc ++ (o.map (mk a)).toList) s1 (by cases o <;> simp <;> omega) i1
    have ne : ∀ b ∈ l, (if b = a then o else f b) = f b := fun b hb => if_neg fun (z : b = a) => nd.1 (z ▸ hb)
    refine ⟨fun b => if b = a then o else f b, s2, i2, ?_, fun b hb => ?_⟩
    · rw [List.map_cons, forL_cons, h1]
      simp only [h2]
      rw [List.filterMap_cons]
      simp only [if_true]
      have e2 : (l.filterMap fun b => ((if b = a then o else f b)).map (mk b)) = l.filterMap fun b => (f b).map (mk b) := fm_congr fun b hb => by rw [ne b hb]
      rw [e2]
      cases o <;> simp
    · rcases List.mem_cons.mp hb with rfl | hb
      · simpa using g1
      · show G b (if b = a then o else f b)
        rw [ne b hb]
        exact g2 b hb
omit [DecidableEq α] in
theorem forL_ret {P : List Nat} {tg : Tg} {b : En → SR} {E : S → En} {fx : α → D} {p : α → Bool} {d : D} {o : Bool} : ∀ {l : List α}, (∀ a ∈ l, ∀ s, ∃ s', turnF P tg b (fx a) (E s) = if p a = true then .rt d o (E s') else .nx (E s')) →
    ∀ s, ∃ s', forL P tg b (l.map fx) (E s) = if l.any p = true then .rt d o (E s') else .nx (E s')
  | [], _, s => ⟨s, rfl⟩
  | a :: l, h, s => by
    obtain ⟨s1, h1⟩ := h a List.mem_cons_self s
    cases e : p a with
    | true =>
      rw [e] at h1
      exact ⟨s1, by rw [List.map_cons, forL_cons, h1]; simp [e]⟩
    | false =>
      rw [e] at h1
      obtain ⟨s2, h2⟩ := forL_ret (fun b hb => h b (List.mem_cons_of_mem _ hb)) s1
      refine ⟨s2, ?_⟩
      rw [List.map_cons, forL_cons, h1]
      simp only [Bool.false_eq_true, if_false, h2, List.any_cons, e, Bool.false_or]
end
def pr (i : Nat) (a : Int) : D := .tuple [.int i, .int a]
def prP (p : Nat × Int) : D := pr p.1 p.2
def on (n : Nat) (f : Nat → Option Int) : List (Nat × Int) := (List.range n).filterMap fun i => (f i).map fun a => (i, a)
def edL (n : Nat) (f : Nat → Option Int) : List D := (on n f).map prP
def ed (n : Nat) (f : Nat → Option Int) : D := .tuple (edL n f)
theorem mem_on {n : Nat} {f : Nat → Option Int} {p : Nat × Int} : p ∈ on n f ↔ p.1 < n ∧ f p.1 = some p.2 := by
  unfold on
  simp only [List.mem_filterMap, List.mem_range, Option.map_eq_some_iff]
  constructor
  · rintro ⟨i, h1, a, h2, rfl⟩
    exact ⟨h1, h2⟩
  · rintro ⟨h1, h2⟩
    exact ⟨p.1, h1, p.2, h2, rfl⟩
theorem on_nodup {n : Nat} {f : Nat → Option Int} : (on n f).Nodup := by
  unfold on
  refine List.Pairwise.filterMap _ (R := (· ≠ ·)) (fun i j hij x hx y hy => ?_) List.nodup_range
  simp only [Option.map_eq_some_iff] at hx hy
  obtain ⟨a, _, rfl⟩ := hx
  obtain ⟨b, _, rfl⟩ := hy
  exact fun z => hij (congrArg Prod.fst z)
theorem on_len {n : Nat} {f : Nat → Option Int} : (on n f).length ≤ n := Nat.le_trans (List.length_filterMap_le _ _) (by simp)
theorem on_fm {γ : Type} {n : Nat} {f : Nat → Option Int} (h : Nat × Int → Option γ) : (on n f).filterMap h = (List.range n).filterMap fun i => (f i).bind fun a => h (i, a) := by
  unfold on
  rw [List.filterMap_filterMap]
  refine fm_congr fun i _ => ?_
  cases f i <;> rfl
theorem edL_eq {n : Nat} {f : Nat → Option Int} : edL n f = (List.range n).filterMap fun i => (f i).map (pr i) := by
  unfold edL
  rw [← List.filterMap_eq_map, on_fm]
  refine fm_congr fun i _ => ?_
  cases f i <;> rfl
theorem ed_congr {n : Nat} {f g : Nat → Option Int} (h : ∀ i, i < n → f i = g i) : ed n f = ed n g := by
  unfold ed
  rw [edL_eq, edL_eq]
  congr 1
  exact fm_congr fun i hi => by rw [h i (List.mem_range.mp hi)]
theorem ed_fm {n : Nat} {f : Nat → Option Int} (h : Nat × Int → Option D) (g : Nat → Option Int) (e : ∀ i a, i < n → f i = some a → h (i, a) = (g i).map (pr i)) (e0 : ∀ i, i < n → f i = none → g i = none) : PyData.tuple ((on n f).filterMap h) = ed n g := by
  unfold ed
  rw [on_fm, edL_eq]
  congr 1
  refine fm_congr fun i hi => ?_
  have hi := List.mem_range.mp hi
  cases q : f i with
  | none => simp [e0 i hi q]
  | some a => simpa using e i a hi q
theorem eqv_pr {i j : Nat} {a b : Int} : PyData.eqv (pr i a) (pr j b) = (decide (i = j) && decide (a = b)) := by
  simp only [pr, PyData.eqv, PyData.eqvAll]
  have e : ∀ x y : Int, (x == y) = decide (x = y) := fun x y => by by_cases h : x = y <;> simp [h]
  have e2 : decide ((i : Int) = (j : Int)) = decide (i = j) := by by_cases h : i = j <;> simp [h] <;> omega
  simp [PyData.eqv, e, e2, Bool.and_assoc]
theorem any_ed {n : Nat} {f : Nat → Option Int} {i : Nat} {a : Int} : ((edL n f).any fun z => PyData.eqv z (pr i a)) = (decide (i < n) && decide (f i = some a)) := by
  rw [Bool.eq_iff_iff]
  simp only [edL, List.any_map, List.any_eq_true, Bool.and_eq_true, decide_eq_true_eq, Function.comp, prP, eqv_pr, mem_on]
  constructor
  · rintro ⟨⟨j, b⟩, ⟨h1, h2⟩, h3, h4⟩
    simp only at h1 h2 h3 h4
    subst h3 h4
    exact ⟨h1, h2⟩
  · rintro ⟨h1, h2⟩
    exact ⟨(i, a), ⟨h1, h2⟩, rfl, rfl⟩
def Sml (f : Nat → Option Int) : Prop := ∀ i a, f i = some a → 0 ≤ a ∧ a < 1000000
theorem sm_pr {i : Nat} {a : Int} (h : i < 1000000) (h1 : 0 ≤ a ∧ a < 1000000) : sm [2] (pr i a) = true := by
  simp only [pr, sm, List.all_cons, List.all_nil, Bool.and_eq_true, decide_eq_true_eq, List.length_cons, List.length_nil, Bool.and_true]
  omega
theorem sm_ed {n m : Nat} {f : Nat → Option Int} (h : n ≤ m) (hm : m ≤ 1000000) (hf : Sml f) : sm [m, 2] (ed n f) = true := by
  simp only [ed, sm, Bool.and_eq_true, decide_eq_true_eq, List.all_eq_true]
  refine ⟨by simp only [edL, List.length_map]; exact Nat.le_trans on_len h, fun d hd => ?_⟩
  obtain ⟨p, hp, rfl⟩ := List.mem_map.mp hd
  obtain ⟨h1, h2⟩ := mem_on.mp hp
  exact sm_pr (by omega) (hf _ _ h2)
theorem mem_insI {i x : Int} : ∀ {l : List Int}, x ∈ insI i l ↔ x = i ∨ x ∈ l
  | [] => by simp [insI]
  | j :: r => by
    unfold insI
    split
    · simp
    · simp only [List.mem_cons, mem_insI (l := r)]
      constructor
      · rintro (h | h | h) <;> simp [h]
      · rintro (h | h | h) <;> simp [h]
theorem mem_sortI {x : Int} : ∀ {l : List Int}, x ∈ sortI l ↔ x ∈ l
  | [] => by simp [sortI]
  | i :: r => by simp only [sortI, mem_insI, List.mem_cons, mem_sortI (l := r)]
theorem len_insI {i : Int} : ∀ {l : List Int}, (insI i l).length = l.length + 1
  | [] => rfl
  | j :: r => by
    unfold insI
    split
    · rfl
    · simp only [List.length_cons, len_insI (l := r)]
theorem len_sortI : ∀ {l : List Int}, (sortI l).length = l.length
  | [] => rfl
  | i :: r => by simp only [sortI, len_insI, List.length_cons, len_sortI (l := r)]
theorem insI_lt {i : Int} : ∀ {l : List Int}, l.Pairwise (· < ·) → i ∉ l → (insI i l).Pairwise (· < ·)
  | [], _, _ => by simp [insI]
  | j :: r, h, n => by
    simp only [List.pairwise_cons, List.mem_cons, not_or] at h n
    unfold insI
    split
    · rename_i hij
      have : i < j := by have := n.1; omega
      exact List.pairwise_cons.mpr ⟨fun x hx => by
        rcases List.mem_cons.mp hx with rfl | hx
        · exact this
        · have := h.1 x hx; omega, List.pairwise_cons.mpr h⟩
    · rename_i hij
      refine List.pairwise_cons.mpr ⟨fun x hx => ?_, insI_lt h.2 n.2⟩
      rcases mem_insI.mp hx with rfl | hx
      · omega
      · exact h.1 x hx
theorem sortI_lt : ∀ {l : List Int}, l.Nodup → (sortI l).Pairwise (· < ·)
  | [], _ => .nil
  | i :: r, h => by
    rw [List.nodup_cons] at h
    exact insI_lt (sortI_lt h.2) fun z => h.1 (mem_sortI.mp z)
theorem sorted_ext : ∀ {l l' : List Int}, l.Pairwise (· < ·) → l'.Pairwise (· < ·) → (∀ x, x ∈ l ↔ x ∈ l') → l = l'
  | [], [], _, _, _ => rfl
  | [], b :: r, _, _, h => by have := (h b).mpr List.mem_cons_self; simp at this
  | a :: r, [], _, _, h => by have := (h a).mp List.mem_cons_self; simp at this
  | a :: r, b :: r', h1, h2, h => by
    simp only [List.pairwise_cons] at h1 h2
    have e : a = b := by
      rcases List.mem_cons.mp ((h a).mp List.mem_cons_self) with z | z
      · exact z
      · rcases List.mem_cons.mp ((h b).mpr List.mem_cons_self) with y | y
        · exact y.symm
        · have := h2.1 a z
          have := h1.1 b y
          omega
    subst e
    rw [sorted_ext h1.2 h2.2 fun x => ?_]
    constructor
    · intro hx
      rcases List.mem_cons.mp ((h x).mp (List.mem_cons_of_mem _ hx)) with z | z
      · subst z; have := h1.1 x hx; omega
      · exact z
    · intro hx
      rcases List.mem_cons.mp ((h x).mpr (List.mem_cons_of_mem _ hx)) with z | z
      · subst z; have := h2.1 x hx; omega
      · exact z
theorem sortI_eq {l l' : List Int} (nd : l.Nodup) (s : l'.Pairwise (· < ·)) (h : ∀ x, x ∈ l ↔ x ∈ l') : sortI l = l' := sorted_ext (sortI_lt nd) s fun x => mem_sortI.trans (h x)
/-- naturals below n, once each, rising -/
theorem sort_nat {ks : List Nat} {n : Nat} (nd : ks.Nodup) (h : ∀ i ∈ ks, i < n) : sortI (ks.map Int.ofNat) = ((List.range n).filter fun i => decide (i ∈ ks)).map Int.ofNat := by
  refine sortI_eq ?_ ?_ fun x => ?_
  · exact List.Pairwise.map _ (fun a b hab z => hab (Int.ofNat.inj z)) nd
  · refine List.Pairwise.map _ (R := (· < ·)) (fun a b hab => Int.ofNat_lt.mpr hab) ?_
    exact List.Pairwise.filter _ List.pairwise_lt_range
  · simp only [List.mem_map, List.mem_filter, List.mem_range, decide_eq_true_eq]
    constructor
    · rintro ⟨i, hi, rfl⟩; exact ⟨i, ⟨h i hi, hi⟩, rfl⟩
    · rintro ⟨i, ⟨_, hi⟩, rfl⟩; exact ⟨i, hi, rfl⟩
theorem few_nat {ks : List Nat} {n : Nat} (nd : ks.Nodup) (h : ∀ i ∈ ks, i < n) : ks.length ≤ n := by
  have e := congrArg List.length (sort_nat nd h)
  rw [len_sortI, List.length_map, List.length_map] at e
  rw [e]
  exact Nat.le_trans (List.length_filter_le _ _) (by simp)
def dic (ks : List Nat) (g : Nat → Int) : List (D × D) := ks.map fun (i : Nat) => (.int (i : Int), .int (g i))
theorem val_dic {g : Nat → Int} {i : Nat} : ∀ {ks : List Nat}, valE dkey (dic ks g) (.inl (i : Int)) = if i ∈ ks then some (.int (g i)) else none
  | [] => rfl
  | k :: ks => by
    have ih := val_dic (g := g) (i := i) (ks := ks)
    by_cases h : k = i
    · subst h
      simp [dic, valE, dkey]
    · have h1 : ¬ (k : Int) = (i : Int) := by omega
      have h2 : ¬ i = k := fun z => h z.symm
      simp only [dic, valE, dkey, List.map_cons] at ih ⊢
      simp [h1, h2, ih, List.find?_cons]
      simpa using ih
theorem put_dic {g : Nat → Int} {i : Nat} {a : Int} {ks : List Nat} : putE dkey (dic ks g) (.inl (i : Int)) (.int i) (.int a) = dic (if i ∈ ks then ks else ks ++ [i]) (fun j => if j = i then a else g j) := by
  have hany : ((dic ks g).any fun e => decide (dkey e.1 = some (.inl (i : Int)))) = decide (i ∈ ks) := by
    rw [Bool.eq_iff_iff]
    simp only [dic, List.any_map, List.any_eq_true, Function.comp, dkey, decide_eq_true_eq, Option.some.injEq, Sum.inl.injEq]
    constructor
    · rintro ⟨k, hk, e⟩
      have : k = i := by omega
      exact this ▸ hk
    · exact fun h => ⟨i, h, rfl⟩
  unfold putE
  rw [hany]
  by_cases h : i ∈ ks
  · simp only [h, decide_true, if_true]
    simp only [dic, List.map_map]
    refine List.map_congr_left fun k _ => ?_
    by_cases hk : k = i
    · subst hk; simp [dkey]
    · have h1 : ¬ (k : Int) = (i : Int) := by omega
      simp [dkey, h1, hk]
  · simp only [h, decide_false, Bool.false_eq_true, if_false]
    simp only [dic, List.map_append, List.map_cons, List.map_nil, if_true]
    congr 1
    refine List.map_congr_left fun k hk => ?_
    have : ¬ k = i := fun z => h (z ▸ hk)
    simp [this]
theorem getF_dic {ks : List Nat} {g : Nat → Int} {i : Nat} : getF (.dict (dic ks g)) (.int i) = some (if i ∈ ks then some (.int (g i)) else none) := by
  rw [← val_dic]
  cases ks <;> rfl
theorem setF_dic {ks : List Nat} {g : Nat → Int} {i : Nat} {a : Int} (h : ks.length < sizeLine) : setF (.dict (dic ks g)) (.int i) (.int a) = some (.dict (dic (if i ∈ ks then ks else ks ++ [i]) fun j => if j = i then a else g j)) := by
  rw [← put_dic]
  have hl : (dic ks g).length < sizeLine := by simpa [dic] using h
  cases ks with
  | nil => simp [setF, dic, dkey, sizeLine]
  | cons k ks =>
    have e : setF (.dict (dic (k :: ks) g)) (.int i) (.int a) = if (dic (k :: ks) g).length < sizeLine then some (.dict (putE dkey (dic (k :: ks) g) (.inl (i : Int)) (.int i) (.int a))) else none := rfl
    rw [e, if_pos hl]
/-- the dict is the partial function f on what is below n -/
def Dc (n : Nat) (es : List (D × D)) (f : Nat → Option Int) : Prop := ∃ ks g, es = dic ks g ∧ ks.Nodup ∧ (∀ i ∈ ks, i < n) ∧ ∀ i, f i = if i ∈ ks then some (g i) else none
section
variable {n : Nat} {es : List (D × D)} {f : Nat → Option Int}
theorem Dc.get (h : Dc n es f) (i : Nat) : getF (.dict es) (.int i) = some ((f i).map .int) := by
  obtain ⟨ks, g, rfl, _, _, e⟩ := h
  rw [getF_dic, e]
  split <;> rfl
theorem Dc.set (h : Dc n es f) (hn : n < sizeLine) {i : Nat} (hi : i < n) (a : Int) : ∃ es', setF (.dict es) (.int i) (.int a) = some (.dict es') ∧ Dc n es' fun j => if j = i then some a else f j := by
  obtain ⟨ks, g, rfl, nd, lt, e⟩ := h
  refine ⟨_, setF_dic (Nat.lt_of_le_of_lt (few_nat nd lt) hn), _, _, rfl, ?_, fun j hj => ?_, fun j => ?_⟩
  · split
    · exact nd
    · rename_i h
      exact List.nodup_append.mpr ⟨nd, by simp, fun a ha b hb z => by simp at hb; subst hb; exact h (z ▸ ha)⟩
  · split at hj
    · exact lt j hj
    · rcases List.mem_append.mp hj with q | q
      · exact lt j q
      · simp at q; omega
  · by_cases hj : j = i
    · subst hj
      by_cases h : j ∈ ks <;> simp [h]
    · by_cases h : i ∈ ks <;> simp [h, hj, e]
theorem Dc.emp : Dc n [] fun _ => none := ⟨[], fun _ => 0, rfl, .nil, fun i h => (nomatch h), fun i => rfl⟩
theorem Dc.keys (h : Dc n es f) (hn : n < 64) : biF .sorted [.dict es] = some (.list (((List.range n).filter fun i => (f i).isSome).map fun (i : Nat) => PyData.int (i : Int)), true) := by
  obtain ⟨ks, g, rfl, nd, lt, e⟩ := h
  rw [sorted_d, if_pos (by simp only [dic, List.length_map]; exact Nat.lt_of_le_of_lt (few_nat nd lt) hn)]
  have hi : ∀ l : List Nat, intsF ((dic l g).map (·.1)) = some (l.map Int.ofNat) := fun l => by
    induction l with
    | nil => rfl
    | cons k l ih =>
      simp only [dic, List.map_cons, List.map_map] at ih ⊢
      show (intsF _).map _ = _
      rw [ih]
      rfl
  rw [hi, Option.map_some, sort_nat nd lt]
  congr 3
  rw [List.map_map]
  have e2 : ((List.range n).filter fun i => decide (i ∈ ks)) = (List.range n).filter fun i => (f i).isSome := List.filter_congr fun i _ => by rw [e]; split <;> simp_all
  rw [e2]
  rfl
theorem Dc.len (h : Dc n es f) : es.length ≤ n := by
  obtain ⟨ks, g, rfl, nd, lt, e⟩ := h
  simp only [dic, List.length_map]
  exact few_nat nd lt
end
theorem pairs_on : ∀ l : List (Nat × Int), pairsF (l.map prP) = some (l.map fun p => (.inl (p.1 : Int), .int p.2))
  | [] => rfl
  | p :: l => by
    show (match dkey (.int p.1), pairsF (l.map prP) with
      | some kk, some ps => some ((kk, PyData.int p.2) :: ps)
      | _, _ => none) = _
    rw [pairs_on l]
    rfl
/-- a later one lies over an earlier one -/
def lay (f g : Nat → Option Int) : Nat → Option Int := fun i => (g i).orElse fun _ => f i
theorem merge_on {n : Nat} (hn : n < sizeLine) : ∀ (l : List (Nat × Int)) (es : List (D × D)) (f : Nat → Option Int), (∀ p ∈ l, p.1 < n) → Dc n es f → ∃ f', Dc n ((l.map fun p => ((.inl (p.1 : Int) : Key), PyData.int p.2)).foldl (fun es p => putE dkey es p.1 (kD p.1) p.2) es) f' ∧
    ∀ j, f' j = match (l.filter fun p => decide (p.1 = j)).getLast? with
      | some p => some p.2
      | none => f j
  | [], es, f, _, h => ⟨f, h, fun j => rfl⟩
  | p :: l, es, f, hl, h => by
    obtain ⟨es', e, h'⟩ := h.set hn (hl p List.mem_cons_self) p.2
    obtain ⟨ks, g, rfl, nd, lt, ef⟩ := id h
    have e2 : putE dkey (dic ks g) (.inl (p.1 : Int)) (kD (.inl (p.1 : Int))) (.int p.2) = es' := by
      rw [setF_dic (Nat.lt_of_le_of_lt (few_nat nd lt) hn), ← put_dic] at e
      exact PyData.dict.inj (Option.some.inj e)
    obtain ⟨f', d', q⟩ := merge_on hn l es' _ (fun r hr => hl r (List.mem_cons_of_mem _ hr)) h'
    refine ⟨f', by rw [List.map_cons, List.foldl_cons, e2]; exact d', fun j => ?_⟩
    rw [q, List.filter_cons]
    by_cases hj : p.1 = j
    · simp only [hj, decide_true, if_true]
      cases hq : (l.filter fun p => decide (p.1 = j)) with
      | nil => simp [hj]
      | cons a r => simp [List.getLast?_cons]
    · simp only [hj, decide_false, Bool.false_eq_true, if_false]
      cases (l.filter fun p => decide (p.1 = j)).getLast? with
      | none => exact if_neg fun z : j = p.1 => hj z.symm
      | some r => rfl
/-- dict(edit) -/
theorem dict_ed {n : Nat} (hn : n < sizeLine) (f : Nat → Option Int) : ∃ es, pairsF (edL n f) = some ((on n f).map fun p => (.inl (p.1 : Int), .int p.2)) ∧ mergeE ((on n f).map fun p => (.inl (p.1 : Int), .int p.2)) = es ∧ Dc n es fun i => if i < n then f i else none := by
  obtain ⟨f', d', q⟩ := merge_on hn (on n f) [] _ (fun p hp => (mem_on.mp hp).1) (Dc.emp (n := n))
  refine ⟨_, pairs_on _, rfl, ?_⟩
  have e : f' = fun i => if i < n then f i else none := by
    funext j
    rw [q]
    cases hq : ((on n f).filter fun p => decide (p.1 = j)).getLast? with
    | none =>
      have hn2 : ((on n f).filter fun p => decide (p.1 = j)) = [] := List.getLast?_eq_none_iff.mp hq
      by_cases hj : j < n
      · rw [if_pos hj]
        cases hf : f j with
        | none => rfl
        | some a =>
          have : (j, a) ∈ (on n f).filter fun p => decide (p.1 = j) := List.mem_filter.mpr ⟨mem_on.mpr ⟨hj, hf⟩, by simp⟩
          rw [hn2] at this
          cases this
      · rw [if_neg hj]
    | some p =>
      have hm := List.mem_of_getLast? hq
      obtain ⟨h1, h2⟩ := List.mem_filter.mp hm
      have h2 : p.1 = j := by simpa using h2
      obtain ⟨h3, h4⟩ := mem_on.mp h1
      subst h2
      rw [if_pos h3, h4]
  rw [e] at d'
  exact d'
theorem shaped_i {i : Int} : SeqAt.shaped (.int i) = true := lay_shaped rfl (by simp [PyData.depth])
@[simp] theorem rdC_ii {i j : Int} : rdC .Eq (.int i) (.int j) = some (.bool (decide (i = j))) := by
  simp only [rdC, shaped_i, and_self, if_true]
  have e : PyData.eqv (.int i) (.int j) = decide (i = j) := by by_cases h : i = j <;> simp [PyData.eqv, h]
  rw [e]
@[simp] theorem rdC_nii {i j : Int} : rdC .NotEq (.int i) (.int j) = some (.bool (!decide (i = j))) := by
  simp only [rdC, shaped_i, and_self, if_true]
  have e : PyData.eqv (.int i) (.int j) = decide (i = j) := by by_cases h : i = j <;> simp [PyData.eqv, h]
  rw [e]
@[simp] theorem rdC_int {x : D} {ds : List D} : rdC .In x (.tuple ds) = if SeqAt.shaped x = true ∧ SeqAt.shaped (.tuple ds) = true then some (.bool (ds.any fun z => PyData.eqv z x)) else none := by
  simp only [rdC, inF, xorF, bl]
  split <;> rfl
@[simp] theorem rdC_inl {x : D} {ds : List D} : rdC .In x (.list ds) = if SeqAt.shaped x = true ∧ SeqAt.shaped (.list ds) = true then some (.bool (ds.any fun z => PyData.eqv z x)) else none := by
  simp only [rdC, inF, xorF, bl]
  split <;> rfl
@[simp] theorem rdI_t {xs : List D} {i : Int} : rdI (.tuple xs) (.int i) = if xs.length ≤ sizeLine then atI xs i else none := (rfl)
@[simp] theorem rdI_l {xs : List D} {i : Int} : rdI (.list xs) (.int i) = if xs.length ≤ sizeLine then atI xs i else none := (rfl)
def rdV : Option Sl → Option D
  | some (some (d, _)) => if d.hasDict = true then none else some d
  | _ => none
@[simp] theorem rdV_s {d : D} {b : Bool} : rdV (some (some (d, b))) = if d.hasDict = true then none else some d := (rfl)
def rdB (f : D → D → Option D) : Option D → Option D → Option D
  | some x, some y => f x y
  | _, _ => none
@[simp] theorem rdB_s {f : D → D → Option D} {x y : D} : rdB f (some x) (some y) = f x y := (rfl)
def rdO (y : Option D) : Option D → Option D
  | some (.bool true) => some (.bool true)
  | some (.bool false) => y
  | _ => none
@[simp] theorem rdO_s {y : Option D} {b : Bool} : rdO y (some (.bool b)) = if b = true then some (.bool true) else y := by cases b <;> rfl
section
variable {ρ : En}
@[simp] theorem rdE_var {i : Nat} : rdE ρ (.var i) = rdV ρ[i]? := by
  simp only [rdE]
  cases ρ[i]? with
  | none => rfl
  | some s => cases s <;> rfl
@[simp] theorem rdE_ix {a b : RE} : rdE ρ (.ix a b) = rdB rdI (rdE ρ a) (rdE ρ b) := by
  simp only [rdE]
  cases rdE ρ a <;> cases rdE ρ b <;> rfl
@[simp] theorem rdE_cmp {op : CmpOp} {a b : RE} : rdE ρ (.cmp op a b) = rdB (rdC op) (rdE ρ a) (rdE ρ b) := by
  simp only [rdE]
  cases rdE ρ a <;> cases rdE ρ b <;> rfl
@[simp] theorem rdE_or {a b : RE} : rdE ρ (.or a b) = rdO (rdE ρ b) (rdE ρ a) := by
  simp only [rdE]
  cases rdE ρ a with
  | none => rfl
  | some d =>
    cases d with
    | bool k => cases k <;> rfl
    | _ => rfl
end
theorem ints_nodict : ∀ ns : List Int, PyData.hasDictAll (ns.map .int) = false
  | [] => rfl
  | n :: ns => by simp [PyData.hasDictAll, PyData.hasDict, ints_nodict ns]
@[simp] theorem nd_int {i : Int} : PyData.hasDict (.int i) = false := (rfl)
@[simp] theorem nd_ti {ns : List Int} : PyData.hasDict (.tuple (ns.map .int)) = false := by simp only [PyData.hasDict, ints_nodict]
@[simp] theorem nd_li {ns : List Int} : PyData.hasDict (.list (ns.map .int)) = false := by simp only [PyData.hasDict, ints_nodict]
@[simp] theorem nd_pr {i : Nat} {a : Int} : PyData.hasDict (pr i a) = false := (rfl)
theorem prs_nodict : ∀ l : List (Nat × Int), PyData.hasDictAll (l.map prP) = false
  | [] => rfl
  | p :: l => by simp [PyData.hasDictAll, prP, prs_nodict l]
@[simp] theorem nd_ed {n : Nat} {f : Nat → Option Int} : PyData.hasDict (ed n f) = false := by simp only [ed, edL, PyData.hasDict, prs_nodict]
/-- laid over, one by one -/
def overL (F : Nat → Option Int) (l : List (Nat × Int)) : Nat → Option Int := l.foldl (fun F p => fun j => if j = p.1 then some p.2 else F j) F
theorem on_succ {n : Nat} {f : Nat → Option Int} : on (n + 1) f = on n f ++ ((f n).map fun a => (n, a)).toList := by
  unfold on
  rw [List.range_succ, List.filterMap_append]
  cases h : f n <;> simp [h]
theorem over_on {g F : Nat → Option Int} {j : Nat} : ∀ {n : Nat}, overL F (on n g) j = if j < n then lay F g j else F j
  | 0 => by simp [overL, on]
  | n + 1 => by
    have ih := over_on (g := g) (F := F) (j := j) (n := n)
    rw [on_succ]
    unfold overL at ih ⊢
    rw [List.foldl_append]
    cases hg : g n with
    | none =>
      simp only [Option.map_none, Option.toList_none, List.foldl_nil, ih]
      by_cases hj : j = n
      · subst hj; simp [lay, hg]
      · have e : (j < n + 1) = (j < n) := by simp; omega
        simp only [e]
    | some a =>
      simp only [Option.map_some, Option.toList_some, List.foldl_cons, List.foldl_nil, ih]
      by_cases hj : j = n
      · subst hj; simp [lay, hg]
      · have e : (j < n + 1) = (j < n) := by simp; omega
        simp only [hj, if_false, e]
@[simp] theorem atI_0 {α : Type} {x : α} {xs : List α} : atI (x :: xs) 0 = some x := atI_nat (j := 0) rfl
@[simp] theorem atI_1 {α : Type} {x y : α} {xs : List α} : atI (x :: y :: xs) 1 = some y := atI_nat (j := 1) rfl
@[simp] theorem atI_2 {α : Type} {x y z : α} {xs : List α} : atI (x :: y :: z :: xs) 2 = some z := atI_nat (j := 2) rfl
@[simp] theorem eqv_nilT {xs : List D} : PyData.eqv (.tuple xs) (.tuple []) = xs.isEmpty := by cases xs <;> simp [PyData.eqv, PyData.eqvAll]
end Mv

namespace Lk00
open PySem PySem.Spec L2 Mv
open PyProof.Rows hiding St
def top (i : Nat) : Stmt := PySem.Challenge.pw_campsapart_k00_sizes_pages_edits_made.main.body.getD i (.Pass ⟨0, 0, 0, 0⟩)
abbrev dx0 : Dx := { x := "is_between", st := top 8, N := ["thing", "least", "most"], ps := ["thing", "least", "most"], P := [0, 1, 2] }
abbrev dx1 : Dx := { x := "is_below", st := top 9, N := ["thing", "bound"], ps := ["thing", "bound"], P := [0, 1] }
abbrev dx2 : Dx := { x := "wrong_size", st := top 10, N := ["thing", "index", "size"], ps := ["thing"], P := [0] }
abbrev dx3 : Dx := { x := "is_sizes", st := top 11, N := ["thing"], ps := ["thing"], P := [0] }
abbrev dx4 : Dx := { x := "made_sizes", st := top 12, N := ["thing", "place"], ps := ["thing"], P := [0] }
abbrev dx5 : Dx := { x := "wrong_worth", st := top 13, N := ["sizes", "thing", "setting", "worth"], ps := ["sizes", "thing"], P := [0, 1] }
abbrev dx6 : Dx := { x := "is_page", st := top 14, N := ["sizes", "thing"], ps := ["sizes", "thing"], P := [0, 1] }
abbrev dx7 : Dx := { x := "made_page", st := top 15, N := ["sizes", "thing", "place"], ps := ["sizes", "thing"], P := [0, 1] }
abbrev dx8 : Dx := { x := "is_setting", st := top 16, N := ["sizes", "thing"], ps := ["sizes", "thing"], P := [0, 1] }
abbrev dx9 : Dx := { x := "is_pair", st := top 18, N := ["sizes", "thing", "setting", "worth"], ps := ["sizes", "thing"], P := [0, 1] }
abbrev dx10 : Dx := { x := "wrong_pair", st := top 19, N := ["sizes", "thing", "last", "index", "pair"], ps := ["sizes", "thing"], P := [0, 1] }
abbrev dx11 : Dx := { x := "is_edit", st := top 20, N := ["sizes", "thing"], ps := ["sizes", "thing"], P := [0, 1] }
abbrev dx12 : Dx := { x := "made_edit", st := top 21, N := ["sizes", "thing", "place"], ps := ["sizes", "thing"], P := [0, 1] }
abbrev dx13 : Dx := { x := "_law_pool", st := top 23, N := ["script", "k", "cell", "big", "mixed"], ps := ["script", "k"], P := [0, 1] }
abbrev dx14 : Dx := { x := "_law_take", st := top 24, N := ["jar", "top", "drawn"], ps := ["jar", "top"], P := [0, 1] }
abbrev dx15 : Dx := { x := "_law_one", st := top 25, N := ["jar", "things"], ps := ["jar", "things"], P := [0, 1] }
abbrev dx16 : Dx := { x := "_law_mixed", st := top 26, N := ["jar", "things", "left_over", "found", "place"], ps := ["jar", "things"], P := [0, 1] }
abbrev dx17 : Dx := { x := "_law_any_page", st := top 27, N := ["jar", "sizes", "size"], ps := ["jar", "sizes"], P := [0, 1] }
abbrev dx18 : Dx := { x := "_law_any_edit", st := top 28, N := ["jar", "sizes", "rare", "i"], ps := ["jar", "sizes", "rare"], P := [0, 1, 2] }
abbrev dx19 : Dx := { x := "_law_heard", st := top 29, N := ["call", "error", "kinds"], ps := ["call"], P := [0], th := some "call" }
abbrev dx20 : Dx := { x := "_law_refused", st := top 30, N := ["word", "at"], ps := ["word", "at"], P := [0, 1] }
abbrev dx21 : Dx := { x := "_law_is_number", st := top 31, N := ["thing", "low", "high"], ps := ["thing", "low", "high"], P := [0, 1, 2] }
abbrev dx22 : Dx := { x := "_law_sizes_due", st := top 32, N := ["thing", "wrong", "k"], ps := ["thing"], P := [0] }
abbrev dx23 : Dx := { x := "_law_page_due", st := top 33, N := ["sizes", "thing", "there", "wrong", "k"], ps := ["sizes", "thing"], P := [0, 1] }
abbrev dx24 : Dx := { x := "_law_is_part", st := top 34, N := ["sizes", "low", "pair"], ps := ["sizes", "low", "pair"], P := [0, 1, 2] }
abbrev dx25 : Dx := { x := "_law_edit_due", st := top 35, N := ["sizes", "thing", "there", "low", "k"], ps := ["sizes", "thing"], P := [0, 1] }
abbrev dx26 : Dx := { x := "_law_put_at", st := top 36, N := ["jar", "row", "odd_ones", "at"], ps := ["jar", "row", "odd_ones"], P := [0, 1, 2] }
abbrev dx27 : Dx := { x := "_law_nested", st := top 37, N := ["jar", "found", "turn"], ps := ["jar"], P := [0] }
abbrev dx28 : Dx := { x := "_law_odd", st := top 38, N := ["jar"], ps := ["jar"], P := [0] }
abbrev dx29 : Dx := { x := "_law_sizes_row", st := top 39, N := ["jar", "many", "i"], ps := ["jar", "many"], P := [0, 1] }
abbrev dx30 : Dx := { x := "_law_sizes_thing", st := top 40, N := ["jar", "way", "odd", "many", "row"], ps := ["jar"], P := [0] }
abbrev dx31 : Dx := { x := "_law_page_thing", st := top 41, N := ["jar", "sizes", "way", "odd", "row"], ps := ["jar", "sizes"], P := [0, 1] }
abbrev dx32 : Dx := { x := "_law_odd_pairs", st := top 42, N := ["jar", "sizes", "i", "a", "beyond", "found"], ps := ["jar", "sizes"], P := [0, 1] }
abbrev dx33 : Dx := { x := "_law_edit_thing", st := top 43, N := ["jar", "sizes", "way", "row", "odd", "at"], ps := ["jar", "sizes"], P := [0, 1] }
abbrev dx34 : Dx := { x := "_law_is_like", st := top 44, N := ["heard", "judged", "due"], ps := ["heard", "judged", "due"], P := [0, 1, 2] }
abbrev dx35 : Dx := { x := "_law_sizes_right", st := top 45, N := ["thing", "due"], ps := ["thing"], P := [0], tab := some (some "_law_sizes_right.<locals>.<lambda>") }
abbrev dx36 : Dx := { x := "_law_page_right", st := top 46, N := ["sizes", "thing", "due"], ps := ["sizes", "thing"], P := [0, 1], tab := some (some "_law_page_right.<locals>.<lambda>") }
abbrev dx37 : Dx := { x := "_law_edit_right", st := top 47, N := ["sizes", "thing", "due"], ps := ["sizes", "thing"], P := [0, 1], tab := some (some "_law_edit_right.<locals>.<lambda>") }
abbrev dx38 : Dx := { x := "law", st := top 48, N := ["script", "jar", "turn", "thing", "sizes", "page", "edit", "given_sizes"], ps := ["script"], P := [0] }
abbrev theKi : List (Str × List Str × List Nat) := [("is_sizes", ["thing"], [0]), ("is_page", ["thing"], [0, 1]), ("is_edit", ["thing"], [0, 1]), ("made_sizes", ["thing"], [0]), ("made_page", ["thing", "sizes"], [1, 0]), ("made_edit", ["thing", "sizes"], [1, 0])]
abbrev theBn : List Str := ["ValueError", "bool", "enumerate", "int", "isinstance", "len", "list", "max", "range", "repr", "super", "tuple"]
abbrev theXc : List (Str × Nat) := [("BadSizes", 1), ("BadPage", 2), ("BadEdit", 3)]
abbrev theXt : List (Str × List Nat × List Nat) := [("Refused", [1, 2, 3], []), ("BadSizes", [1], [2, 3]), ("BadPage", [2], [1, 3]), ("BadEdit", [3], [1, 2]), ("ValueError", [1, 2, 3], [])]
abbrev theGi : List (Str × Int) := [("MOST_SETTINGS", 24), ("MOST_WORTHS", 6)]
abbrev theFh : List Nat := []
def ir0 : IB := (.cons (.ret (.and (.isi .int (.var 0)) (.and (.not (.isi .bool (.var 0))) (.chain .LtE .LtE (.var 1) (.var 0) (.var 2))))) .nil)
def ir1 : IB := (.cons (.ret (.call 0 (.cons (.var 0) (.cons (.lit (.int 0)) (.cons (.bin .Sub (.var 1) (.lit (.int 1))) .nil))))) .nil)
def ir2 : IB := (.cons (.iff (.or (.not (.tr (.isi .tuple (.var 0)))) (.not (.tr (.call 0 (.cons (.bi .len (.cons (.var 0) .nil)) (.cons (.lit (.int 1)) (.cons (.lit (.int 24)) .nil))))))) (.cons (.ret (.un .USub (.lit (.int 1)))) .nil) .nil) (.cons (.for_ (.tup [1, 2]) (.enum (.var 0)) (.cons (.iff (.not (.tr (.call 0 (.cons (.var 2) (.cons (.lit (.int 1)) (.cons (.lit (.int 6)) .nil)))))) (.cons (.ret (.var 1)) .nil) .nil) .nil)) (.cons (.ret (.lit .none)) .nil)))
def ir3 : IB := (.cons (.ret (.cmp .Is (.call 2 (.cons (.var 0) .nil)) (.lit .none))) .nil)
def ir4 : IB := (.cons (.asg (.name 1) (.call 2 (.cons (.var 0) .nil))) (.cons (.iff (.tb (.cmp .IsNot (.var 1) (.lit .none))) (.cons (.raise_ 1 (.var 1)) .nil) .nil) (.cons (.ret (.var 0)) .nil)))
def ir5 : IB := (.cons (.iff (.or (.not (.tr (.isi .tuple (.var 1)))) (.tb (.cmp .NotEq (.bi .len (.cons (.var 1) .nil)) (.bi .len (.cons (.var 0) .nil))))) (.cons (.ret (.un .USub (.lit (.int 1)))) .nil) .nil) (.cons (.for_ (.tup [2, 3]) (.enum (.var 1)) (.cons (.iff (.not (.tr (.call 1 (.cons (.var 3) (.cons (.ix (.var 0) (.var 2)) .nil))))) (.cons (.ret (.var 2)) .nil) .nil) .nil)) (.cons (.ret (.lit .none)) .nil)))
def ir6 : IB := (.cons (.ret (.and (.call 3 (.cons (.var 0) .nil)) (.cmp .Is (.call 5 (.cons (.var 0) (.cons (.var 1) .nil))) (.lit .none)))) .nil)
def ir7 : IB := (.cons (.asg (.name 2) (.call 5 (.cons (.call 4 (.cons (.var 0) .nil)) (.cons (.var 1) .nil)))) (.cons (.iff (.tb (.cmp .IsNot (.var 2) (.lit .none))) (.cons (.raise_ 2 (.var 2)) .nil) .nil) (.cons (.ret (.var 1)) .nil)))
def ir8 : IB := (.cons (.ret (.call 1 (.cons (.var 1) (.cons (.bi .len (.cons (.var 0) .nil)) .nil)))) .nil)
def ir9 : IB := (.cons (.iff (.or (.not (.tr (.isi .tuple (.var 1)))) (.tb (.cmp .NotEq (.bi .len (.cons (.var 1) .nil)) (.lit (.int 2))))) (.cons (.ret (.lit (.bool false))) .nil) .nil) (.cons (.asg (.tup [2, 3]) (.var 1)) (.cons (.ret (.and (.call 8 (.cons (.var 0) (.cons (.var 2) .nil))) (.call 1 (.cons (.var 3) (.cons (.ix (.var 0) (.var 2)) .nil))))) .nil)))
def ir10 : IB := (.cons (.iff (.not (.tr (.isi .tuple (.var 1)))) (.cons (.ret (.un .USub (.lit (.int 1)))) .nil) .nil) (.cons (.asg (.name 2) (.un .USub (.lit (.int 1)))) (.cons (.for_ (.tup [3, 4]) (.enum (.var 1)) (.cons (.iff (.or (.not (.tr (.call 9 (.cons (.var 0) (.cons (.var 4) .nil))))) (.tb (.cmp .LtE (.ix (.var 4) (.lit (.int 0))) (.var 2)))) (.cons (.ret (.var 3)) .nil) .nil) (.cons (.asg (.name 2) (.ix (.var 4) (.lit (.int 0)))) .nil))) (.cons (.ret (.lit .none)) .nil))))
def ir11 : IB := (.cons (.ret (.and (.call 3 (.cons (.var 0) .nil)) (.cmp .Is (.call 10 (.cons (.var 0) (.cons (.var 1) .nil))) (.lit .none)))) .nil)
def ir12 : IB := (.cons (.asg (.name 2) (.call 10 (.cons (.call 4 (.cons (.var 0) .nil)) (.cons (.var 1) .nil)))) (.cons (.iff (.tb (.cmp .IsNot (.var 2) (.lit .none))) (.cons (.raise_ 3 (.var 2)) .nil) .nil) (.cons (.ret (.var 1)) .nil)))
def ir13 : IB := (.cons (.asg (.name 2) (.lit (.int 0))) (.cons (.iff (.tb (.cmp .Lt (.var 1) (.bi .len (.cons (.var 0) .nil)))) (.cons (.asg (.name 2) (.ix (.var 0) (.var 1))) .nil) (.cons (.iff (.tb (.cmp .NotEq (.var 0) (.lst .nil))) (.cons (.asg (.name 2) (.ix (.var 0) (.lit (.int 0)))) .nil) .nil) .nil)) (.cons (.asg (.name 3) (.bi .max2 (.cons (.bi .int (.cons (.var 2) .nil)) (.cons (.bi .int (.cons (.bin .Sub (.un .USub (.lit (.int 1))) (.var 2)) .nil)) .nil)))) (.cons (.asg (.name 4) (.bin .Mod (.bi .int (.cons (.bin .Mult (.bin .Add (.bin .Add (.bin .Add (.bin .Mod (.bi .int (.cons (.var 3) .nil)) (.lit (.int 2147483629))) (.bin .Mult (.bin .Mult (.lit (.int 7919)) (.var 1)) (.var 1))) (.bin .Mult (.lit (.int 31)) (.var 1))) (.lit (.int 17))) (.lit (.int 48271))) .nil)) (.lit (.int 2147483647)))) (.cons (.ret (.lst (.cons (.bin .Mult (.var 3) (.bi .int (.cons (.and (.cmp .GtE (.var 3) (.bin .Pow (.lit (.int 10)) (.lit (.int 18)))) (.cmp .Lt (.var 1) (.bi .len (.cons (.var 0) .nil)))) .nil))) (.cons (.var 4) .nil)))) .nil)))))
def ir14 : IB := (.cons (.iff (.tb (.cmp .Gt (.ix (.var 0) (.lit (.int 0))) (.lit (.int 0)))) (.cons (.asg (.name 2) (.bin .Mod (.bi .int (.cons (.ix (.var 0) (.lit (.int 0))) .nil)) (.var 1))) (.cons (.setix 0 (.lit (.int 0)) (.bin .FloorDiv (.ix (.var 0) (.lit (.int 0))) (.var 1))) (.cons (.ret (.var 2)) .nil))) .nil) (.cons (.setix 0 (.lit (.int 1)) (.bin .Mod (.bi .int (.cons (.bin .Add (.bin .Mult (.ix (.var 0) (.lit (.int 1))) (.lit (.int 39373))) (.lit (.int 7))) .nil)) (.lit (.int 2147483647)))) (.cons (.ret (.bin .Mod (.bi .int (.cons (.bin .FloorDiv (.bin .Mod (.bi .int (.cons (.bin .Mult (.ix (.var 0) (.lit (.int 1))) (.ix (.var 0) (.lit (.int 1)))) .nil)) (.lit (.int 2147483629))) (.lit (.int 32))) .nil)) (.var 1))) .nil)))
def ir15 : IB := (.cons (.ret (.ix (.var 1) (.call 14 (.cons (.var 0) (.cons (.bi .len (.cons (.var 1) .nil)) .nil))))) .nil)
def ir16 : IB := (.cons (.par [2, 3] (.cons (.bi .list (.cons (.var 1) .nil)) (.cons (.lst .nil) .nil))) (.cons (.for_ (.name 4) (.range1 (.bi .len (.cons (.var 1) .nil))) (.cons (.expr (.mut .append 3 (.cons (.mut .popAt 2 (.cons (.call 14 (.cons (.var 0) (.cons (.bi .len (.cons (.var 2) .nil)) .nil))) .nil)) .nil))) .nil)) (.cons (.ret (.var 3)) .nil)))
def ir17 : IB := (.cons (.ret (.bi .tuple (.cons (.lc [2] (.name 2) (.seq (.var 1)) .yes (.call 14 (.cons (.var 0) (.cons (.var 2) .nil)))) .nil))) .nil)
def ir18 : IB := (.cons (.ret (.bi .tuple (.cons (.lc [3] (.name 3) (.range1 (.bi .len (.cons (.var 1) .nil))) (.tb (.cmp .Eq (.call 14 (.cons (.var 0) (.cons (.var 2) .nil))) (.lit (.int 0)))) (.tup (.cons (.var 3) (.cons (.call 14 (.cons (.var 0) (.cons (.ix (.var 1) (.var 3)) .nil))) .nil)))) .nil))) .nil)
def ir19 : IB := (.cons (.try_ (.cons (.ret (.tup (.cons (.lit (.str "told")) (.cons .thk .nil)))) .nil) (.cons [1, 2, 3] [] (some 1) (.cons (.asg (.name 2) (.tup (.cons (.exi [1] [2, 3]) (.cons (.exi [2] [1, 3]) (.cons (.exi [3] [1, 2]) .nil))))) (.cons (.ret (.tup (.cons (.lit (.str "refused")) (.cons (.var 2) (.cons (.exi [1, 2, 3] []) (.cons .exw .nil)))))) .nil)) .nil)) .nil)
def ir20 : IB := (.cons (.ret (.tup (.cons (.lit (.str "refused")) (.cons (.tup (.cons (.cmp .Eq (.var 0) (.lit (.str "sizes"))) (.cons (.cmp .Eq (.var 0) (.lit (.str "page"))) (.cons (.cmp .Eq (.var 0) (.lit (.str "edit"))) .nil)))) (.cons (.lit (.bool true)) (.cons (.var 1) .nil)))))) .nil)
def ir21 : IB := (.cons (.ret (.and (.isi .int (.var 0)) (.and (.not (.isi .bool (.var 0))) (.chain .LtE .Lt (.var 1) (.var 0) (.var 2))))) .nil)
def ir22 : IB := (.cons (.iff (.or (.not (.tr (.isi .tuple (.var 0)))) (.not (.tb (.chain .LtE .LtE (.lit (.int 1)) (.bi .len (.cons (.var 0) .nil)) (.lit (.int 24)))))) (.cons (.ret (.call 20 (.cons (.lit (.str "sizes")) (.cons (.un .USub (.lit (.int 1))) .nil)))) .nil) .nil) (.cons (.asg (.name 1) (.lc [2] (.name 2) (.range1 (.bi .len (.cons (.var 0) .nil))) (.not (.tr (.call 21 (.cons (.ix (.var 0) (.var 2)) (.cons (.lit (.int 1)) (.cons (.lit (.int 7)) .nil)))))) (.var 2))) (.cons (.ret (.ite (.tb (.cmp .NotEq (.var 1) (.lst .nil))) (.call 20 (.cons (.lit (.str "sizes")) (.cons (.ix (.var 1) (.lit (.int 0))) .nil))) (.tup (.cons (.lit (.str "told")) (.cons (.var 0) .nil))))) .nil)))
def ir23 : IB := (.cons (.asg (.name 2) (.call 22 (.cons (.var 0) .nil))) (.cons (.iff (.tb (.cmp .Eq (.ix (.var 2) (.lit (.int 0))) (.lit (.str "refused")))) (.cons (.ret (.var 2)) .nil) .nil) (.cons (.iff (.or (.not (.tr (.isi .tuple (.var 1)))) (.tb (.cmp .NotEq (.bi .len (.cons (.var 1) .nil)) (.bi .len (.cons (.var 0) .nil))))) (.cons (.ret (.call 20 (.cons (.lit (.str "page")) (.cons (.un .USub (.lit (.int 1))) .nil)))) .nil) .nil) (.cons (.asg (.name 3) (.lc [4] (.name 4) (.range1 (.bi .len (.cons (.var 1) .nil))) (.not (.tr (.call 21 (.cons (.ix (.var 1) (.var 4)) (.cons (.lit (.int 0)) (.cons (.ix (.var 0) (.var 4)) .nil)))))) (.var 4))) (.cons (.ret (.ite (.tb (.cmp .NotEq (.var 3) (.lst .nil))) (.call 20 (.cons (.lit (.str "page")) (.cons (.ix (.var 3) (.lit (.int 0))) .nil))) (.tup (.cons (.lit (.str "told")) (.cons (.var 1) .nil))))) .nil)))))
def ir24 : IB := (.cons (.iff (.or (.not (.tr (.isi .tuple (.var 2)))) (.or (.tb (.cmp .NotEq (.bi .len (.cons (.var 2) .nil)) (.lit (.int 2)))) (.not (.tr (.call 21 (.cons (.ix (.var 2) (.lit (.int 0))) (.cons (.var 1) (.cons (.bi .len (.cons (.var 0) .nil)) .nil)))))))) (.cons (.ret (.lit (.bool false))) .nil) .nil) (.cons (.ret (.call 21 (.cons (.ix (.var 2) (.lit (.int 1))) (.cons (.lit (.int 0)) (.cons (.ix (.var 0) (.ix (.var 2) (.lit (.int 0)))) .nil))))) .nil))
def ir25 : IB := (.cons (.asg (.name 2) (.call 22 (.cons (.var 0) .nil))) (.cons (.iff (.tb (.cmp .Eq (.ix (.var 2) (.lit (.int 0))) (.lit (.str "refused")))) (.cons (.ret (.var 2)) .nil) .nil) (.cons (.iff (.not (.tr (.isi .tuple (.var 1)))) (.cons (.ret (.call 20 (.cons (.lit (.str "edit")) (.cons (.un .USub (.lit (.int 1))) .nil)))) .nil) .nil) (.cons (.asg (.name 3) (.lit (.int 0))) (.cons (.for_ (.name 4) (.range1 (.bi .len (.cons (.var 1) .nil))) (.cons (.iff (.not (.tr (.call 24 (.cons (.var 0) (.cons (.var 3) (.cons (.ix (.var 1) (.var 4)) .nil)))))) (.cons (.ret (.call 20 (.cons (.lit (.str "edit")) (.cons (.var 4) .nil)))) .nil) .nil) (.cons (.asg (.name 3) (.bin .Add (.ix (.ix (.var 1) (.var 4)) (.lit (.int 0))) (.lit (.int 1)))) .nil))) (.cons (.ret (.tup (.cons (.lit (.str "told")) (.cons (.var 1) .nil)))) .nil))))))
def ir26 : IB := (.cons (.iff (.tb (.cmp .Eq (.var 1) (.tup .nil))) (.cons (.ret (.var 1)) .nil) .nil) (.cons (.asg (.name 3) (.call 14 (.cons (.var 0) (.cons (.bi .len (.cons (.var 1) .nil)) .nil)))) (.cons (.ret (.bin .Add (.bin .Add (.sl (.var 1) .none (.some (.var 3))) (.tup (.cons (.call 15 (.cons (.var 0) (.cons (.var 2) .nil))) .nil))) (.sl (.var 1) (.some (.bin .Add (.var 3) (.lit (.int 1)))) .none))) .nil)))
def ir27 : IB := (.cons (.asg (.name 1) (.call 14 (.cons (.var 0) (.cons (.lit (.int 6)) .nil)))) (.cons (.for_ (.name 2) (.range1 (.bin .Add (.lit (.int 1)) (.call 14 (.cons (.var 0) (.cons (.lit (.int 40)) .nil))))) (.cons (.asg (.name 1) (.tup (.cons (.var 1) .nil))) .nil)) (.cons (.ret (.var 1)) .nil)))
def ir28 : IB := (.cons (.ret (.call 15 (.cons (.var 0) (.cons (.lst (.cons (.lit .none) (.cons (.lit (.bool true)) (.cons (.lit (.bool false)) (.cons (.lit (.str "")) (.cons (.lit (.str "12")) (.cons (.lit (.str "ab")) (.cons (.lit (.int 0)) (.cons (.lit (.int 2)) (.cons (.un .USub (.lit (.int 1))) (.cons (.bin .Pow (.lit (.int 10)) (.lit (.int 30))) (.cons (.tup .nil) (.cons (.call 27 (.cons (.var 0) .nil)) .nil))))))))))))) .nil)))) .nil)
def ir29 : IB := (.cons (.ret (.bi .tuple (.cons (.lc [2] (.name 2) (.range1 (.var 1)) .yes (.bin .Add (.lit (.int 1)) (.call 14 (.cons (.var 0) (.cons (.lit (.int 6)) .nil))))) .nil))) .nil)
def ir30 : IB := (.cons (.par [1, 2] (.cons (.call 14 (.cons (.var 0) (.cons (.lit (.int 8)) .nil))) (.cons (.lst (.cons (.lit (.int 0)) (.cons (.lit (.int 7)) (.cons (.un .USub (.lit (.int 1))) (.cons (.lit (.bool true)) (.cons (.lit (.bool false)) (.cons (.lit .none) (.cons (.lit (.str "2")) (.cons (.tup (.cons (.lit (.int 2)) .nil)) (.cons (.bin .Pow (.lit (.int 10)) (.lit (.int 30))) (.cons (.lit (.int 6)) (.cons (.lit (.int 1)) (.cons (.call 27 (.cons (.var 0) .nil)) .nil))))))))))))) .nil))) (.cons (.asg (.name 3) (.ite (.tb (.cmp .Eq (.call 14 (.cons (.var 0) (.cons (.lit (.int 2)) .nil))) (.lit (.int 0)))) (.call 15 (.cons (.var 0) (.cons (.lst (.cons (.lit (.int 1)) (.cons (.lit (.int 2)) (.cons (.lit (.int 3)) (.cons (.lit (.int 24)) .nil))))) .nil))) (.bin .Add (.lit (.int 1)) (.call 14 (.cons (.var 0) (.cons (.lit (.int 24)) .nil)))))) (.cons (.asg (.name 4) (.call 29 (.cons (.var 0) (.cons (.var 3) .nil)))) (.cons (.iff (.tb (.cmp .Eq (.var 1) (.lit (.int 0)))) (.cons (.ret (.call 28 (.cons (.var 0) .nil))) .nil) .nil) (.cons (.iff (.tb (.cmp .Eq (.var 1) (.lit (.int 1)))) (.cons (.ret (.call 29 (.cons (.var 0) (.cons (.call 15 (.cons (.var 0) (.cons (.lst (.cons (.lit (.int 0)) (.cons (.lit (.int 25)) (.cons (.lit (.int 26)) (.cons (.lit (.int 24)) .nil))))) .nil))) .nil)))) .nil) .nil) (.cons (.iff (.tb (.cmp .Lt (.var 1) (.lit (.int 4)))) (.cons (.asg (.name 4) (.call 26 (.cons (.var 0) (.cons (.var 4) (.cons (.var 2) .nil))))) .nil) .nil) (.cons (.ret (.ite (.tb (.cmp .Eq (.var 1) (.lit (.int 3)))) (.call 26 (.cons (.var 0) (.cons (.var 4) (.cons (.var 2) .nil)))) (.var 4))) .nil)))))))
def ir31 : IB := (.cons (.asg (.name 2) (.call 14 (.cons (.var 0) (.cons (.lit (.int 8)) .nil)))) (.cons (.asg (.name 3) (.bin .Add (.lst (.cons (.un .USub (.lit (.int 1))) (.cons (.lit (.bool true)) (.cons (.lit (.bool false)) (.cons (.lit .none) (.cons (.lit (.str "0")) (.cons (.tup (.cons (.lit (.int 0)) .nil)) (.cons (.bin .Pow (.lit (.int 10)) (.lit (.int 30))) (.cons (.lit (.int 0)) (.cons (.lit (.int 5)) (.cons (.lit (.int 6)) (.cons (.call 27 (.cons (.var 0) .nil)) .nil)))))))))))) (.bi .list (.cons (.var 1) .nil)))) (.cons (.asg (.name 4) (.call 17 (.cons (.var 0) (.cons (.var 1) .nil)))) (.cons (.iff (.tb (.cmp .Eq (.var 2) (.lit (.int 0)))) (.cons (.ret (.call 28 (.cons (.var 0) .nil))) .nil) .nil) (.cons (.iff (.tb (.cmp .Eq (.var 2) (.lit (.int 1)))) (.cons (.ret (.call 15 (.cons (.var 0) (.cons (.lst (.cons (.bin .Add (.var 4) (.tup (.cons (.lit (.int 0)) .nil))) (.cons (.sl (.var 4) (.some (.lit (.int 1))) .none) (.cons (.sl (.var 4) .none (.some (.un .USub (.lit (.int 1))))) (.cons (.bin .Add (.var 4) (.var 4)) .nil))))) .nil)))) .nil) .nil) (.cons (.iff (.tb (.cmp .Lt (.var 2) (.lit (.int 4)))) (.cons (.asg (.name 4) (.call 26 (.cons (.var 0) (.cons (.var 4) (.cons (.var 3) .nil))))) .nil) .nil) (.cons (.ret (.ite (.tb (.cmp .Eq (.var 2) (.lit (.int 3)))) (.call 26 (.cons (.var 0) (.cons (.var 4) (.cons (.var 3) .nil)))) (.var 4))) .nil)))))))
def ir32 : IB := (.cons (.asg (.name 2) (.call 14 (.cons (.var 0) (.cons (.bi .len (.cons (.var 1) .nil)) .nil)))) (.cons (.par [3, 4] (.cons (.call 14 (.cons (.var 0) (.cons (.ix (.var 1) (.var 2)) .nil))) (.cons (.bi .len (.cons (.var 1) .nil)) .nil))) (.cons (.asg (.name 5) (.lst (.cons (.tup (.cons (.var 2) .nil)) (.cons (.tup (.cons (.var 2) (.cons (.var 3) (.cons (.var 3) .nil)))) (.cons (.tup .nil) (.cons (.lit .none) (.cons (.lit (.int 5)) (.cons (.lit (.str "01")) (.cons (.lit (.bool true)) (.cons (.tup (.cons (.var 2) (.cons (.ix (.var 1) (.var 2)) .nil))) (.cons (.tup (.cons (.var 2) (.cons (.un .USub (.lit (.int 1))) .nil))) (.cons (.tup (.cons (.var 2) (.cons (.lit .none) .nil))) (.cons (.tup (.cons (.var 2) (.cons (.lit (.str "0")) .nil))) (.cons (.tup (.cons (.var 2) (.cons (.tup (.cons (.var 3) .nil)) .nil))) .nil)))))))))))))) (.cons (.expr (.mut .extend 5 (.cons (.lst (.cons (.tup (.cons (.var 4) (.cons (.lit (.int 0)) .nil))) (.cons (.tup (.cons (.un .USub (.lit (.int 1))) (.cons (.lit (.int 0)) .nil))) (.cons (.tup (.cons (.lit (.bool true)) (.cons (.lit (.int 0)) .nil))) (.cons (.tup (.cons (.lit (.bool false)) (.cons (.lit (.int 0)) .nil))) (.cons (.tup (.cons (.var 2) (.cons (.lit (.bool true)) .nil))) (.cons (.tup (.cons (.var 2) (.cons (.lit (.bool false)) .nil))) (.cons (.tup (.cons (.lit .none) (.cons (.var 3) .nil))) (.cons (.tup (.cons (.lit (.str "0")) (.cons (.var 3) .nil))) (.cons (.tup (.cons (.var 2) (.cons (.var 3) .nil))) .nil)))))))))) .nil))) (.cons (.expr (.mut .extend 5 (.cons (.lst (.cons (.tup (.cons (.var 2) (.cons (.bin .Pow (.lit (.int 10)) (.lit (.int 30))) .nil))) (.cons (.tup (.cons (.bin .Pow (.lit (.int 10)) (.lit (.int 30))) (.cons (.var 3) .nil))) (.cons (.tup (.cons (.lit (.int 0)) (.cons (.lit (.int 0)) .nil))) (.cons (.tup (.cons (.bin .Sub (.var 4) (.lit (.int 1))) (.cons (.lit (.int 0)) .nil))) (.cons (.tup (.cons (.tup (.cons (.var 2) (.cons (.var 3) .nil))) (.cons (.tup (.cons (.var 2) (.cons (.var 3) .nil))) .nil))) (.cons (.call 27 (.cons (.var 0) .nil)) .nil))))))) .nil))) (.cons (.ret (.var 5)) .nil))))))
def ir33 : IB := (.cons (.par [2, 3] (.cons (.call 14 (.cons (.var 0) (.cons (.lit (.int 9)) .nil))) (.cons (.call 18 (.cons (.var 0) (.cons (.var 1) (.cons (.bin .Add (.lit (.int 1)) (.call 14 (.cons (.var 0) (.cons (.lit (.int 3)) .nil)))) .nil)))) .nil))) (.cons (.asg (.name 4) (.call 32 (.cons (.var 0) (.cons (.var 1) .nil)))) (.cons (.iff (.tb (.cmp .Eq (.var 2) (.lit (.int 0)))) (.cons (.ret (.call 28 (.cons (.var 0) .nil))) .nil) .nil) (.cons (.iff (.tb (.cmp .Eq (.var 2) (.lit (.int 1)))) (.cons (.asg (.name 5) (.call 14 (.cons (.var 0) (.cons (.bin .Add (.bi .len (.cons (.var 3) .nil)) (.lit (.int 1))) .nil)))) (.cons (.ret (.bin .Add (.bin .Add (.sl (.var 3) .none (.some (.var 5))) (.tup (.cons (.call 15 (.cons (.var 0) (.cons (.var 4) .nil))) .nil))) (.sl (.var 3) (.some (.var 5)) .none))) .nil)) .nil) (.cons (.iff (.tb (.cmp .Eq (.var 2) (.lit (.int 2)))) (.cons (.ret (.bi .tuple (.cons (.call 16 (.cons (.var 0) (.cons (.bi .list (.cons (.var 3) .nil)) .nil))) .nil))) .nil) .nil) (.cons (.iff (.tb (.cmp .Lt (.var 2) (.lit (.int 5)))) (.cons (.asg (.name 3) (.call 26 (.cons (.var 0) (.cons (.var 3) (.cons (.var 4) .nil))))) .nil) .nil) (.cons (.ret (.ite (.tb (.cmp .Eq (.var 2) (.lit (.int 4)))) (.call 26 (.cons (.var 0) (.cons (.var 3) (.cons (.var 4) .nil)))) (.var 3))) .nil)))))))
def ir34 : IB := (.cons (.ret (.and (.cmp .Eq (.bi .repr (.cons (.var 0) .nil)) (.bi .repr (.cons (.var 2) .nil))) (.cmp .Eq (.bi .repr (.cons (.var 1) .nil)) (.bi .repr (.cons (.cmp .Eq (.ix (.var 2) (.lit (.int 0))) (.lit (.str "told"))) .nil))))) .nil)
def ir35 : IB := (.cons (.asg (.name 1) (.call 22 (.cons (.var 0) .nil))) (.cons (.iff (.not (.tr (.call 34 (.cons (.lamc 19 (.call 4 (.cons (.var 0) .nil))) (.cons (.call 3 (.cons (.var 0) .nil)) (.cons (.var 1) .nil)))))) (.cons (.ret (.lit (.bool false))) .nil) .nil) (.cons (.ret (.call 34 (.cons (.lamc 19 (.callp 4 [0] (.cons (.var 0) .nil))) (.cons (.callp 3 [0] (.cons (.var 0) .nil)) (.cons (.var 1) .nil))))) .nil)))
def ir36 : IB := (.cons (.asg (.name 2) (.call 23 (.cons (.var 0) (.cons (.var 1) .nil)))) (.cons (.iff (.not (.tr (.call 34 (.cons (.lamc 19 (.call 7 (.cons (.var 0) (.cons (.var 1) .nil)))) (.cons (.call 6 (.cons (.var 0) (.cons (.var 1) .nil))) (.cons (.var 2) .nil)))))) (.cons (.ret (.lit (.bool false))) .nil) .nil) (.cons (.ret (.call 34 (.cons (.lamc 19 (.callp 7 [1, 0] (.cons (.var 1) (.cons (.var 0) .nil)))) (.cons (.callp 6 [0, 1] (.cons (.var 0) (.cons (.var 1) .nil))) (.cons (.var 2) .nil))))) .nil)))
def ir37 : IB := (.cons (.asg (.name 2) (.call 25 (.cons (.var 0) (.cons (.var 1) .nil)))) (.cons (.iff (.not (.tr (.call 34 (.cons (.lamc 19 (.call 12 (.cons (.var 0) (.cons (.var 1) .nil)))) (.cons (.call 11 (.cons (.var 0) (.cons (.var 1) .nil))) (.cons (.var 2) .nil)))))) (.cons (.ret (.lit (.bool false))) .nil) .nil) (.cons (.ret (.call 34 (.cons (.lamc 19 (.callp 12 [1, 0] (.cons (.var 1) (.cons (.var 0) .nil)))) (.cons (.callp 11 [0, 1] (.cons (.var 0) (.cons (.var 1) .nil))) (.cons (.var 2) .nil))))) .nil)))
def ir38 : IB := (.cons (.asg (.name 1) (.call 13 (.cons (.var 0) (.cons (.lit (.int 0)) .nil)))) (.cons (.for_ (.name 2) (.range1 (.lit (.int 3))) (.cons (.asg (.name 3) (.call 30 (.cons (.var 1) .nil))) (.cons (.iff (.not (.tr (.call 35 (.cons (.var 3) .nil)))) (.cons (.ret (.lit (.bool false))) .nil) .nil) (.cons (.asg (.name 4) (.call 29 (.cons (.var 1) (.cons (.bin .Add (.lit (.int 1)) (.call 14 (.cons (.var 1) (.cons (.call 15 (.cons (.var 1) (.cons (.lst (.cons (.lit (.int 3)) (.cons (.lit (.int 6)) (.cons (.lit (.int 24)) .nil)))) .nil))) .nil)))) .nil)))) (.cons (.par [5, 6] (.cons (.call 31 (.cons (.var 1) (.cons (.var 4) .nil))) (.cons (.call 33 (.cons (.var 1) (.cons (.var 4) .nil))) .nil))) (.cons (.asg (.name 7) (.ite (.tb (.cmp .Eq (.call 14 (.cons (.var 1) (.cons (.lit (.int 4)) .nil))) (.lit (.int 0)))) (.var 3) (.var 4))) (.cons (.iff (.or (.not (.tr (.call 36 (.cons (.var 7) (.cons (.var 5) .nil))))) (.not (.tr (.call 37 (.cons (.var 7) (.cons (.var 6) .nil)))))) (.cons (.ret (.lit (.bool false))) .nil) .nil) (.cons (.iff (.or (.not (.tr (.call 37 (.cons (.var 4) (.cons (.call 18 (.cons (.var 1) (.cons (.var 4) (.cons (.lit (.int 2)) .nil)))) .nil))))) (.not (.tr (.call 37 (.cons (.var 4) (.cons (.tup .nil) .nil)))))) (.cons (.ret (.lit (.bool false))) .nil) .nil) .nil)))))))) (.cons (.ret (.lit (.bool true))) .nil)))
def lib : Lib := { ds := [dx0, dx1, dx2, dx3, dx4, dx5, dx6, dx7, dx8, dx9, dx10, dx11, dx12, dx13, dx14, dx15, dx16, dx17, dx18, dx19, dx20, dx21, dx22, dx23, dx24, dx25, dx26, dx27, dx28, dx29, dx30, dx31, dx32, dx33, dx34, dx35, dx36, dx37, dx38], ki := theKi, bn := theBn, xc := theXc, xt := theXt, gi := theGi, fh := theFh, ir := [ir0, ir1, ir2, ir3, ir4, ir5, ir6, ir7, ir8, ir9, ir10, ir11, ir12, ir13, ir14, ir15, ir16, ir17, ir18, ir19, ir20, ir21, ir22, ir23, ir24, ir25, ir26, ir27, ir28, ir29, ir30, ir31, ir32, ir33, ir34, ir35, ir36, ir37, ir38] }
abbrev fd0 : Fd := { np := 3, nn := 3, P := [0, 1, 2], body := ir0 }
theorem tb0 : lib.tb 0 = some fd0 := rfl
abbrev fd1 : Fd := { np := 2, nn := 2, P := [0, 1], body := ir1 }
theorem tb1 : lib.tb 1 = some fd1 := rfl
abbrev fd2 : Fd := { np := 1, nn := 3, P := [0], body := ir2 }
theorem tb2 : lib.tb 2 = some fd2 := rfl
abbrev fd3 : Fd := { np := 1, nn := 1, P := [0], body := ir3 }
theorem tb3 : lib.tb 3 = some fd3 := rfl
abbrev fd4 : Fd := { np := 1, nn := 2, P := [0], body := ir4 }
theorem tb4 : lib.tb 4 = some fd4 := rfl
abbrev fd5 : Fd := { np := 2, nn := 4, P := [0, 1], body := ir5 }
theorem tb5 : lib.tb 5 = some fd5 := rfl
abbrev fd6 : Fd := { np := 2, nn := 2, P := [0, 1], body := ir6 }
theorem tb6 : lib.tb 6 = some fd6 := rfl
abbrev fd7 : Fd := { np := 2, nn := 3, P := [0, 1], body := ir7 }
theorem tb7 : lib.tb 7 = some fd7 := rfl
abbrev fd8 : Fd := { np := 2, nn := 2, P := [0, 1], body := ir8 }
theorem tb8 : lib.tb 8 = some fd8 := rfl
abbrev fd9 : Fd := { np := 2, nn := 4, P := [0, 1], body := ir9 }
theorem tb9 : lib.tb 9 = some fd9 := rfl
abbrev fd10 : Fd := { np := 2, nn := 5, P := [0, 1], body := ir10 }
theorem tb10 : lib.tb 10 = some fd10 := rfl
abbrev fd11 : Fd := { np := 2, nn := 2, P := [0, 1], body := ir11 }
theorem tb11 : lib.tb 11 = some fd11 := rfl
abbrev fd12 : Fd := { np := 2, nn := 3, P := [0, 1], body := ir12 }
theorem tb12 : lib.tb 12 = some fd12 := rfl
abbrev fd13 : Fd := { np := 2, nn := 5, P := [0, 1], body := ir13 }
theorem tb13 : lib.tb 13 = some fd13 := rfl
abbrev fd14 : Fd := { np := 2, nn := 3, P := [0, 1], body := ir14 }
theorem tb14 : lib.tb 14 = some fd14 := rfl
abbrev fd15 : Fd := { np := 2, nn := 2, P := [0, 1], body := ir15 }
theorem tb15 : lib.tb 15 = some fd15 := rfl
abbrev fd16 : Fd := { np := 2, nn := 5, P := [0, 1], body := ir16 }
theorem tb16 : lib.tb 16 = some fd16 := rfl
abbrev fd17 : Fd := { np := 2, nn := 3, P := [0, 1], body := ir17 }
theorem tb17 : lib.tb 17 = some fd17 := rfl
abbrev fd18 : Fd := { np := 3, nn := 4, P := [0, 1, 2], body := ir18 }
theorem tb18 : lib.tb 18 = some fd18 := rfl
abbrev fd19 : Fd := { np := 1, nn := 3, P := [0], body := ir19 }
theorem tb19 : lib.tb 19 = some fd19 := rfl
abbrev fd20 : Fd := { np := 2, nn := 2, P := [0, 1], body := ir20 }
theorem tb20 : lib.tb 20 = some fd20 := rfl
abbrev fd21 : Fd := { np := 3, nn := 3, P := [0, 1, 2], body := ir21 }
theorem tb21 : lib.tb 21 = some fd21 := rfl
abbrev fd22 : Fd := { np := 1, nn := 3, P := [0], body := ir22 }
theorem tb22 : lib.tb 22 = some fd22 := rfl
abbrev fd23 : Fd := { np := 2, nn := 5, P := [0, 1], body := ir23 }
theorem tb23 : lib.tb 23 = some fd23 := rfl
abbrev fd24 : Fd := { np := 3, nn := 3, P := [0, 1, 2], body := ir24 }
theorem tb24 : lib.tb 24 = some fd24 := rfl
abbrev fd25 : Fd := { np := 2, nn := 5, P := [0, 1], body := ir25 }
theorem tb25 : lib.tb 25 = some fd25 := rfl
abbrev fd26 : Fd := { np := 3, nn := 4, P := [0, 1, 2], body := ir26 }
theorem tb26 : lib.tb 26 = some fd26 := rfl
abbrev fd27 : Fd := { np := 1, nn := 3, P := [0], body := ir27 }
theorem tb27 : lib.tb 27 = some fd27 := rfl
abbrev fd28 : Fd := { np := 1, nn := 1, P := [0], body := ir28 }
theorem tb28 : lib.tb 28 = some fd28 := rfl
abbrev fd29 : Fd := { np := 2, nn := 3, P := [0, 1], body := ir29 }
theorem tb29 : lib.tb 29 = some fd29 := rfl
abbrev fd30 : Fd := { np := 1, nn := 5, P := [0], body := ir30 }
theorem tb30 : lib.tb 30 = some fd30 := rfl
abbrev fd31 : Fd := { np := 2, nn := 5, P := [0, 1], body := ir31 }
theorem tb31 : lib.tb 31 = some fd31 := rfl
abbrev fd32 : Fd := { np := 2, nn := 6, P := [0, 1], body := ir32 }
theorem tb32 : lib.tb 32 = some fd32 := rfl
abbrev fd33 : Fd := { np := 2, nn := 6, P := [0, 1], body := ir33 }
theorem tb33 : lib.tb 33 = some fd33 := rfl
abbrev fd34 : Fd := { np := 3, nn := 3, P := [0, 1, 2], body := ir34 }
theorem tb34 : lib.tb 34 = some fd34 := rfl
abbrev fd35 : Fd := { np := 1, nn := 2, P := [0], body := ir35, lam := true }
theorem tb35 : lib.tb 35 = some fd35 := rfl
abbrev fd36 : Fd := { np := 2, nn := 3, P := [0, 1], body := ir36, lam := true }
theorem tb36 : lib.tb 36 = some fd36 := rfl
abbrev fd37 : Fd := { np := 2, nn := 3, P := [0, 1], body := ir37, lam := true }
theorem tb37 : lib.tb 37 = some fd37 := rfl
abbrev fd38 : Fd := { np := 1, nn := 8, P := [0], body := ir38 }
theorem tb38 : lib.tb 38 = some fd38 := rfl
theorem same0 : (comp fuel).B (lib.ct dx0) (defBody dx0.st) = some ir0 := by kernel_rfl
theorem same1 : (comp fuel).B (lib.ct dx1) (defBody dx1.st) = some ir1 := by kernel_rfl
theorem same2 : (comp fuel).B (lib.ct dx2) (defBody dx2.st) = some ir2 := by kernel_rfl
theorem same3 : (comp fuel).B (lib.ct dx3) (defBody dx3.st) = some ir3 := by kernel_rfl
theorem same4 : (comp fuel).B (lib.ct dx4) (defBody dx4.st) = some ir4 := by kernel_rfl
theorem same5 : (comp fuel).B (lib.ct dx5) (defBody dx5.st) = some ir5 := by kernel_rfl
theorem same6 : (comp fuel).B (lib.ct dx6) (defBody dx6.st) = some ir6 := by kernel_rfl
theorem same7 : (comp fuel).B (lib.ct dx7) (defBody dx7.st) = some ir7 := by kernel_rfl
theorem same8 : (comp fuel).B (lib.ct dx8) (defBody dx8.st) = some ir8 := by kernel_rfl
theorem same9 : (comp fuel).B (lib.ct dx9) (defBody dx9.st) = some ir9 := by kernel_rfl
theorem same10 : (comp fuel).B (lib.ct dx10) (defBody dx10.st) = some ir10 := by kernel_rfl
theorem same11 : (comp fuel).B (lib.ct dx11) (defBody dx11.st) = some ir11 := by kernel_rfl
theorem same12 : (comp fuel).B (lib.ct dx12) (defBody dx12.st) = some ir12 := by kernel_rfl
theorem same13 : (comp fuel).B (lib.ct dx13) (defBody dx13.st) = some ir13 := by kernel_rfl
theorem same14 : (comp fuel).B (lib.ct dx14) (defBody dx14.st) = some ir14 := by kernel_rfl
theorem same15 : (comp fuel).B (lib.ct dx15) (defBody dx15.st) = some ir15 := by kernel_rfl
theorem same16 : (comp fuel).B (lib.ct dx16) (defBody dx16.st) = some ir16 := by kernel_rfl
theorem same17 : (comp fuel).B (lib.ct dx17) (defBody dx17.st) = some ir17 := by kernel_rfl
theorem same18 : (comp fuel).B (lib.ct dx18) (defBody dx18.st) = some ir18 := by kernel_rfl
theorem same19 : (comp fuel).B (lib.ct dx19) (defBody dx19.st) = some ir19 := by kernel_rfl
theorem same20 : (comp fuel).B (lib.ct dx20) (defBody dx20.st) = some ir20 := by kernel_rfl
theorem same21 : (comp fuel).B (lib.ct dx21) (defBody dx21.st) = some ir21 := by kernel_rfl
theorem same22 : (comp fuel).B (lib.ct dx22) (defBody dx22.st) = some ir22 := by kernel_rfl
theorem same23 : (comp fuel).B (lib.ct dx23) (defBody dx23.st) = some ir23 := by kernel_rfl
theorem same24 : (comp fuel).B (lib.ct dx24) (defBody dx24.st) = some ir24 := by kernel_rfl
theorem same25 : (comp fuel).B (lib.ct dx25) (defBody dx25.st) = some ir25 := by kernel_rfl
theorem same26 : (comp fuel).B (lib.ct dx26) (defBody dx26.st) = some ir26 := by kernel_rfl
theorem same27 : (comp fuel).B (lib.ct dx27) (defBody dx27.st) = some ir27 := by kernel_rfl
theorem same28 : (comp fuel).B (lib.ct dx28) (defBody dx28.st) = some ir28 := by kernel_rfl
theorem same29 : (comp fuel).B (lib.ct dx29) (defBody dx29.st) = some ir29 := by kernel_rfl
theorem same30 : (comp fuel).B (lib.ct dx30) (defBody dx30.st) = some ir30 := by kernel_rfl
theorem same31 : (comp fuel).B (lib.ct dx31) (defBody dx31.st) = some ir31 := by kernel_rfl
theorem same32 : (comp fuel).B (lib.ct dx32) (defBody dx32.st) = some ir32 := by kernel_rfl
theorem same33 : (comp fuel).B (lib.ct dx33) (defBody dx33.st) = some ir33 := by kernel_rfl
theorem same34 : (comp fuel).B (lib.ct dx34) (defBody dx34.st) = some ir34 := by kernel_rfl
theorem same35 : (comp fuel).B (lib.ct dx35) (defBody dx35.st) = some ir35 := by kernel_rfl
theorem same36 : (comp fuel).B (lib.ct dx36) (defBody dx36.st) = some ir36 := by kernel_rfl
theorem same37 : (comp fuel).B (lib.ct dx37) (defBody dx37.st) = some ir37 := by kernel_rfl
theorem same38 : (comp fuel).B (lib.ct dx38) (defBody dx38.st) = some ir38 := by kernel_rfl
theorem same : Same lib := by
  refine ⟨by decide +kernel, ?_, by decide, fun f hf d hd => ?_, by decide +kernel⟩
  · show [(comp fuel).B (lib.ct dx0) (defBody dx0.st), (comp fuel).B (lib.ct dx1) (defBody dx1.st), (comp fuel).B (lib.ct dx2) (defBody dx2.st), (comp fuel).B (lib.ct dx3) (defBody dx3.st), (comp fuel).B (lib.ct dx4) (defBody dx4.st), (comp fuel).B (lib.ct dx5) (defBody dx5.st), (comp fuel).B (lib.ct dx6) (defBody dx6.st), (comp fuel).B (lib.ct dx7) (defBody dx7.st), (comp fuel).B (lib.ct dx8) (defBody dx8.st), (comp fuel).B (lib.ct dx9) (defBody dx9.st), (comp fuel).B (lib.ct dx10) (defBody dx10.st), (comp fuel).B (lib.ct dx11) (defBody dx11.st), (comp fuel).B (lib.ct dx12) (defBody dx12.st), (comp fuel).B (lib.ct dx13) (defBody dx13.st), (comp fuel).B (lib.ct dx14) (defBody dx14.st), (comp fuel).B (lib.ct dx15) (defBody dx15.st), (comp fuel).B (lib.ct dx16) (defBody dx16.st), (comp fuel).B (lib.ct dx17) (defBody dx17.st), (comp fuel).B (lib.ct dx18) (defBody dx18.st), (comp fuel).B (lib.ct dx19) (defBody dx19.st), (comp fuel).B (lib.ct dx20) (defBody dx20.st), (comp fuel).B (lib.ct dx21) (defBody dx21.st), (comp fuel).B (lib.ct dx22) (defBody dx22.st), (comp fuel).B (lib.ct dx23) (defBody dx23.st), (comp fuel).B (lib.ct dx24) (defBody dx24.st), (comp fuel).B (lib.ct dx25) (defBody dx25.st), (comp fuel).B (lib.ct dx26) (defBody dx26.st), (comp fuel).B (lib.ct dx27) (defBody dx27.st), (comp fuel).B (lib.ct dx28) (defBody dx28.st), (comp fuel).B (lib.ct dx29) (defBody dx29.st), (comp fuel).B (lib.ct dx30) (defBody dx30.st), (comp fuel).B (lib.ct dx31) (defBody dx31.st), (comp fuel).B (lib.ct dx32) (defBody dx32.st), (comp fuel).B (lib.ct dx33) (defBody dx33.st), (comp fuel).B (lib.ct dx34) (defBody dx34.st), (comp fuel).B (lib.ct dx35) (defBody dx35.st), (comp fuel).B (lib.ct dx36) (defBody dx36.st), (comp fuel).B (lib.ct dx37) (defBody dx37.st), (comp fuel).B (lib.ct dx38) (defBody dx38.st)] = _
    rw [same0, same1, same2, same3, same4, same5, same6, same7, same8, same9, same10, same11, same12, same13, same14, same15, same16, same17, same18, same19, same20, same21, same22, same23, same24, same25, same26, same27, same28, same29, same30, same31, same32, same33, same34, same35, same36, same37, same38]
    rfl
  · have hf : f ∈ theFh := hf
    exact nomatch hf
section
variable {K : PySem.W.Frag} {mg : Str → Option Value} {h : Heap}
theorem b0 {fa : Addr} {fd : FuncData} (F : Fun K dx0.x dx0.x dx0.st fa fd) : Binds K fd dx0.ps [] := F.binds fun _ _ _ _ _ _ us hl => match us, hl with | [_, _, _], _ => rfl
theorem b1 {fa : Addr} {fd : FuncData} (F : Fun K dx1.x dx1.x dx1.st fa fd) : Binds K fd dx1.ps [] := F.binds fun _ _ _ _ _ _ us hl => match us, hl with | [_, _], _ => rfl
theorem b2 {fa : Addr} {fd : FuncData} (F : Fun K dx2.x dx2.x dx2.st fa fd) : Binds K fd dx2.ps [] := F.binds fun _ _ _ _ _ _ us hl => match us, hl with | [_], _ => rfl
theorem b3 {fa : Addr} {fd : FuncData} (F : Fun K dx3.x dx3.x dx3.st fa fd) : Binds K fd dx3.ps [] := F.binds fun _ _ _ _ _ _ us hl => match us, hl with | [_], _ => rfl
theorem b4 {fa : Addr} {fd : FuncData} (F : Fun K dx4.x dx4.x dx4.st fa fd) : Binds K fd dx4.ps [] := F.binds fun _ _ _ _ _ _ us hl => match us, hl with | [_], _ => rfl
theorem b5 {fa : Addr} {fd : FuncData} (F : Fun K dx5.x dx5.x dx5.st fa fd) : Binds K fd dx5.ps [] := F.binds fun _ _ _ _ _ _ us hl => match us, hl with | [_, _], _ => rfl
theorem b6 {fa : Addr} {fd : FuncData} (F : Fun K dx6.x dx6.x dx6.st fa fd) : Binds K fd dx6.ps [] := F.binds fun _ _ _ _ _ _ us hl => match us, hl with | [_, _], _ => rfl
theorem b7 {fa : Addr} {fd : FuncData} (F : Fun K dx7.x dx7.x dx7.st fa fd) : Binds K fd dx7.ps [] := F.binds fun _ _ _ _ _ _ us hl => match us, hl with | [_, _], _ => rfl
theorem b8 {fa : Addr} {fd : FuncData} (F : Fun K dx8.x dx8.x dx8.st fa fd) : Binds K fd dx8.ps [] := F.binds fun _ _ _ _ _ _ us hl => match us, hl with | [_, _], _ => rfl
theorem b9 {fa : Addr} {fd : FuncData} (F : Fun K dx9.x dx9.x dx9.st fa fd) : Binds K fd dx9.ps [] := F.binds fun _ _ _ _ _ _ us hl => match us, hl with | [_, _], _ => rfl
theorem b10 {fa : Addr} {fd : FuncData} (F : Fun K dx10.x dx10.x dx10.st fa fd) : Binds K fd dx10.ps [] := F.binds fun _ _ _ _ _ _ us hl => match us, hl with | [_, _], _ => rfl
theorem b11 {fa : Addr} {fd : FuncData} (F : Fun K dx11.x dx11.x dx11.st fa fd) : Binds K fd dx11.ps [] := F.binds fun _ _ _ _ _ _ us hl => match us, hl with | [_, _], _ => rfl
theorem b12 {fa : Addr} {fd : FuncData} (F : Fun K dx12.x dx12.x dx12.st fa fd) : Binds K fd dx12.ps [] := F.binds fun _ _ _ _ _ _ us hl => match us, hl with | [_, _], _ => rfl
theorem b13 {fa : Addr} {fd : FuncData} (F : Fun K dx13.x dx13.x dx13.st fa fd) : Binds K fd dx13.ps [] := F.binds fun _ _ _ _ _ _ us hl => match us, hl with | [_, _], _ => rfl
theorem b14 {fa : Addr} {fd : FuncData} (F : Fun K dx14.x dx14.x dx14.st fa fd) : Binds K fd dx14.ps [] := F.binds fun _ _ _ _ _ _ us hl => match us, hl with | [_, _], _ => rfl
theorem b15 {fa : Addr} {fd : FuncData} (F : Fun K dx15.x dx15.x dx15.st fa fd) : Binds K fd dx15.ps [] := F.binds fun _ _ _ _ _ _ us hl => match us, hl with | [_, _], _ => rfl
theorem b16 {fa : Addr} {fd : FuncData} (F : Fun K dx16.x dx16.x dx16.st fa fd) : Binds K fd dx16.ps [] := F.binds fun _ _ _ _ _ _ us hl => match us, hl with | [_, _], _ => rfl
theorem b17 {fa : Addr} {fd : FuncData} (F : Fun K dx17.x dx17.x dx17.st fa fd) : Binds K fd dx17.ps [] := F.binds fun _ _ _ _ _ _ us hl => match us, hl with | [_, _], _ => rfl
theorem b18 {fa : Addr} {fd : FuncData} (F : Fun K dx18.x dx18.x dx18.st fa fd) : Binds K fd dx18.ps [] := F.binds fun _ _ _ _ _ _ us hl => match us, hl with | [_, _, _], _ => rfl
theorem b19 {fa : Addr} {fd : FuncData} (F : Fun K dx19.x dx19.x dx19.st fa fd) : Binds K fd dx19.ps [] := F.binds fun _ _ _ _ _ _ us hl => match us, hl with | [_], _ => rfl
theorem b20 {fa : Addr} {fd : FuncData} (F : Fun K dx20.x dx20.x dx20.st fa fd) : Binds K fd dx20.ps [] := F.binds fun _ _ _ _ _ _ us hl => match us, hl with | [_, _], _ => rfl
theorem b21 {fa : Addr} {fd : FuncData} (F : Fun K dx21.x dx21.x dx21.st fa fd) : Binds K fd dx21.ps [] := F.binds fun _ _ _ _ _ _ us hl => match us, hl with | [_, _, _], _ => rfl
theorem b22 {fa : Addr} {fd : FuncData} (F : Fun K dx22.x dx22.x dx22.st fa fd) : Binds K fd dx22.ps [] := F.binds fun _ _ _ _ _ _ us hl => match us, hl with | [_], _ => rfl
theorem b23 {fa : Addr} {fd : FuncData} (F : Fun K dx23.x dx23.x dx23.st fa fd) : Binds K fd dx23.ps [] := F.binds fun _ _ _ _ _ _ us hl => match us, hl with | [_, _], _ => rfl
theorem b24 {fa : Addr} {fd : FuncData} (F : Fun K dx24.x dx24.x dx24.st fa fd) : Binds K fd dx24.ps [] := F.binds fun _ _ _ _ _ _ us hl => match us, hl with | [_, _, _], _ => rfl
theorem b25 {fa : Addr} {fd : FuncData} (F : Fun K dx25.x dx25.x dx25.st fa fd) : Binds K fd dx25.ps [] := F.binds fun _ _ _ _ _ _ us hl => match us, hl with | [_, _], _ => rfl
theorem b26 {fa : Addr} {fd : FuncData} (F : Fun K dx26.x dx26.x dx26.st fa fd) : Binds K fd dx26.ps [] := F.binds fun _ _ _ _ _ _ us hl => match us, hl with | [_, _, _], _ => rfl
theorem b27 {fa : Addr} {fd : FuncData} (F : Fun K dx27.x dx27.x dx27.st fa fd) : Binds K fd dx27.ps [] := F.binds fun _ _ _ _ _ _ us hl => match us, hl with | [_], _ => rfl
theorem b28 {fa : Addr} {fd : FuncData} (F : Fun K dx28.x dx28.x dx28.st fa fd) : Binds K fd dx28.ps [] := F.binds fun _ _ _ _ _ _ us hl => match us, hl with | [_], _ => rfl
theorem b29 {fa : Addr} {fd : FuncData} (F : Fun K dx29.x dx29.x dx29.st fa fd) : Binds K fd dx29.ps [] := F.binds fun _ _ _ _ _ _ us hl => match us, hl with | [_, _], _ => rfl
theorem b30 {fa : Addr} {fd : FuncData} (F : Fun K dx30.x dx30.x dx30.st fa fd) : Binds K fd dx30.ps [] := F.binds fun _ _ _ _ _ _ us hl => match us, hl with | [_], _ => rfl
theorem b31 {fa : Addr} {fd : FuncData} (F : Fun K dx31.x dx31.x dx31.st fa fd) : Binds K fd dx31.ps [] := F.binds fun _ _ _ _ _ _ us hl => match us, hl with | [_, _], _ => rfl
theorem b32 {fa : Addr} {fd : FuncData} (F : Fun K dx32.x dx32.x dx32.st fa fd) : Binds K fd dx32.ps [] := F.binds fun _ _ _ _ _ _ us hl => match us, hl with | [_, _], _ => rfl
theorem b33 {fa : Addr} {fd : FuncData} (F : Fun K dx33.x dx33.x dx33.st fa fd) : Binds K fd dx33.ps [] := F.binds fun _ _ _ _ _ _ us hl => match us, hl with | [_, _], _ => rfl
theorem b34 {fa : Addr} {fd : FuncData} (F : Fun K dx34.x dx34.x dx34.st fa fd) : Binds K fd dx34.ps [] := F.binds fun _ _ _ _ _ _ us hl => match us, hl with | [_, _, _], _ => rfl
theorem b35 {fa : Addr} {fd : FuncData} (F : Fun K dx35.x dx35.x dx35.st fa fd) : Binds K fd dx35.ps [] := F.binds fun _ _ _ _ _ _ us hl => match us, hl with | [_], _ => rfl
theorem b36 {fa : Addr} {fd : FuncData} (F : Fun K dx36.x dx36.x dx36.st fa fd) : Binds K fd dx36.ps [] := F.binds fun _ _ _ _ _ _ us hl => match us, hl with | [_, _], _ => rfl
theorem b37 {fa : Addr} {fd : FuncData} (F : Fun K dx37.x dx37.x dx37.st fa fd) : Binds K fd dx37.ps [] := F.binds fun _ _ _ _ _ _ us hl => match us, hl with | [_, _], _ => rfl
theorem b38 {fa : Addr} {fd : FuncData} (F : Fun K dx38.x dx38.x dx38.st fa fd) : Binds K fd dx38.ps [] := F.binds fun _ _ _ _ _ _ us hl => match us, hl with | [_], _ => rfl
theorem k_is_sizes_thing {fa : Addr} {fd : FuncData} (F : Fun K dx3.x dx3.x dx3.st fa fd) : KwB K fd dx3.ps ["thing"] [0] := by
  obtain ⟨oc, od, kV, doc, pm, an, cdv, ct, osl, rfl, lk, hc⟩ := F.ex
  intro s as us ws _ ha hl hp
  match us, hl with
  | [u0], _ =>
  match as, ha with
  | [], _ =>
    cases hp
    exact .of_eq rfl
theorem k_is_page_thing {fa : Addr} {fd : FuncData} (F : Fun K dx6.x dx6.x dx6.st fa fd) : KwB K fd dx6.ps ["thing"] [0, 1] := by
  obtain ⟨oc, od, kV, doc, pm, an, cdv, ct, osl, rfl, lk, hc⟩ := F.ex
  intro s as us ws _ ha hl hp
  match us, hl with
  | [u0], _ =>
  match as, ha with
  | [v0], _ =>
    cases hp
    exact .of_eq rfl
theorem k_is_edit_thing {fa : Addr} {fd : FuncData} (F : Fun K dx11.x dx11.x dx11.st fa fd) : KwB K fd dx11.ps ["thing"] [0, 1] := by
  obtain ⟨oc, od, kV, doc, pm, an, cdv, ct, osl, rfl, lk, hc⟩ := F.ex
  intro s as us ws _ ha hl hp
  match us, hl with
  | [u0], _ =>
  match as, ha with
  | [v0], _ =>
    cases hp
    exact .of_eq rfl
theorem k_made_sizes_thing {fa : Addr} {fd : FuncData} (F : Fun K dx4.x dx4.x dx4.st fa fd) : KwB K fd dx4.ps ["thing"] [0] := by
  obtain ⟨oc, od, kV, doc, pm, an, cdv, ct, osl, rfl, lk, hc⟩ := F.ex
  intro s as us ws _ ha hl hp
  match us, hl with
  | [u0], _ =>
  match as, ha with
  | [], _ =>
    cases hp
    exact .of_eq rfl
theorem k_made_page_thing_sizes {fa : Addr} {fd : FuncData} (F : Fun K dx7.x dx7.x dx7.st fa fd) : KwB K fd dx7.ps ["thing", "sizes"] [1, 0] := by
  obtain ⟨oc, od, kV, doc, pm, an, cdv, ct, osl, rfl, lk, hc⟩ := F.ex
  intro s as us ws _ ha hl hp
  match us, hl with
  | [u0, u1], _ =>
  match as, ha with
  | [], _ =>
    cases hp
    exact .of_eq rfl
theorem k_made_edit_thing_sizes {fa : Addr} {fd : FuncData} (F : Fun K dx12.x dx12.x dx12.st fa fd) : KwB K fd dx12.ps ["thing", "sizes"] [1, 0] := by
  obtain ⟨oc, od, kV, doc, pm, an, cdv, ct, osl, rfl, lk, hc⟩ := F.ex
  intro s as us ws _ ha hl hp
  match us, hl with
  | [u0, u1], _ =>
  match as, ha with
  | [], _ =>
    cases hp
    exact .of_eq rfl
variable {f0 : Addr} {od0 an0 : Option Addr} {sl0 : Array (Option Value)} {oc0 kV0 dc0 pm0 cd0 ct0 : Value}
variable {f1 : Addr} {od1 an1 : Option Addr} {sl1 : Array (Option Value)} {oc1 kV1 dc1 pm1 cd1 ct1 : Value}
variable {f2 : Addr} {od2 an2 : Option Addr} {sl2 : Array (Option Value)} {oc2 kV2 dc2 pm2 cd2 ct2 : Value}
variable {f3 : Addr} {od3 an3 : Option Addr} {sl3 : Array (Option Value)} {oc3 kV3 dc3 pm3 cd3 ct3 : Value}
variable {f4 : Addr} {od4 an4 : Option Addr} {sl4 : Array (Option Value)} {oc4 kV4 dc4 pm4 cd4 ct4 : Value}
variable {f5 : Addr} {od5 an5 : Option Addr} {sl5 : Array (Option Value)} {oc5 kV5 dc5 pm5 cd5 ct5 : Value}
variable {f6 : Addr} {od6 an6 : Option Addr} {sl6 : Array (Option Value)} {oc6 kV6 dc6 pm6 cd6 ct6 : Value}
variable {f7 : Addr} {od7 an7 : Option Addr} {sl7 : Array (Option Value)} {oc7 kV7 dc7 pm7 cd7 ct7 : Value}
variable {f8 : Addr} {od8 an8 : Option Addr} {sl8 : Array (Option Value)} {oc8 kV8 dc8 pm8 cd8 ct8 : Value}
variable {f9 : Addr} {od9 an9 : Option Addr} {sl9 : Array (Option Value)} {oc9 kV9 dc9 pm9 cd9 ct9 : Value}
variable {f10 : Addr} {od10 an10 : Option Addr} {sl10 : Array (Option Value)} {oc10 kV10 dc10 pm10 cd10 ct10 : Value}
variable {f11 : Addr} {od11 an11 : Option Addr} {sl11 : Array (Option Value)} {oc11 kV11 dc11 pm11 cd11 ct11 : Value}
variable {f12 : Addr} {od12 an12 : Option Addr} {sl12 : Array (Option Value)} {oc12 kV12 dc12 pm12 cd12 ct12 : Value}
variable {f13 : Addr} {od13 an13 : Option Addr} {sl13 : Array (Option Value)} {oc13 kV13 dc13 pm13 cd13 ct13 : Value}
variable {f14 : Addr} {od14 an14 : Option Addr} {sl14 : Array (Option Value)} {oc14 kV14 dc14 pm14 cd14 ct14 : Value}
variable {f15 : Addr} {od15 an15 : Option Addr} {sl15 : Array (Option Value)} {oc15 kV15 dc15 pm15 cd15 ct15 : Value}
variable {f16 : Addr} {od16 an16 : Option Addr} {sl16 : Array (Option Value)} {oc16 kV16 dc16 pm16 cd16 ct16 : Value}
variable {f17 : Addr} {od17 an17 : Option Addr} {sl17 : Array (Option Value)} {oc17 kV17 dc17 pm17 cd17 ct17 : Value}
variable {f18 : Addr} {od18 an18 : Option Addr} {sl18 : Array (Option Value)} {oc18 kV18 dc18 pm18 cd18 ct18 : Value}
variable {f19 : Addr} {od19 an19 : Option Addr} {sl19 : Array (Option Value)} {oc19 kV19 dc19 pm19 cd19 ct19 : Value}
variable {f20 : Addr} {od20 an20 : Option Addr} {sl20 : Array (Option Value)} {oc20 kV20 dc20 pm20 cd20 ct20 : Value}
variable {f21 : Addr} {od21 an21 : Option Addr} {sl21 : Array (Option Value)} {oc21 kV21 dc21 pm21 cd21 ct21 : Value}
variable {f22 : Addr} {od22 an22 : Option Addr} {sl22 : Array (Option Value)} {oc22 kV22 dc22 pm22 cd22 ct22 : Value}
variable {f23 : Addr} {od23 an23 : Option Addr} {sl23 : Array (Option Value)} {oc23 kV23 dc23 pm23 cd23 ct23 : Value}
variable {f24 : Addr} {od24 an24 : Option Addr} {sl24 : Array (Option Value)} {oc24 kV24 dc24 pm24 cd24 ct24 : Value}
variable {f25 : Addr} {od25 an25 : Option Addr} {sl25 : Array (Option Value)} {oc25 kV25 dc25 pm25 cd25 ct25 : Value}
variable {f26 : Addr} {od26 an26 : Option Addr} {sl26 : Array (Option Value)} {oc26 kV26 dc26 pm26 cd26 ct26 : Value}
variable {f27 : Addr} {od27 an27 : Option Addr} {sl27 : Array (Option Value)} {oc27 kV27 dc27 pm27 cd27 ct27 : Value}
variable {f28 : Addr} {od28 an28 : Option Addr} {sl28 : Array (Option Value)} {oc28 kV28 dc28 pm28 cd28 ct28 : Value}
variable {f29 : Addr} {od29 an29 : Option Addr} {sl29 : Array (Option Value)} {oc29 kV29 dc29 pm29 cd29 ct29 : Value}
variable {f30 : Addr} {od30 an30 : Option Addr} {sl30 : Array (Option Value)} {oc30 kV30 dc30 pm30 cd30 ct30 : Value}
variable {f31 : Addr} {od31 an31 : Option Addr} {sl31 : Array (Option Value)} {oc31 kV31 dc31 pm31 cd31 ct31 : Value}
variable {f32 : Addr} {od32 an32 : Option Addr} {sl32 : Array (Option Value)} {oc32 kV32 dc32 pm32 cd32 ct32 : Value}
variable {f33 : Addr} {od33 an33 : Option Addr} {sl33 : Array (Option Value)} {oc33 kV33 dc33 pm33 cd33 ct33 : Value}
variable {f34 : Addr} {od34 an34 : Option Addr} {sl34 : Array (Option Value)} {oc34 kV34 dc34 pm34 cd34 ct34 : Value}
variable {f35 : Addr} {od35 an35 : Option Addr} {sl35 : Array (Option Value)} {oc35 kV35 dc35 pm35 cd35 ct35 : Value}
variable {f36 : Addr} {od36 an36 : Option Addr} {sl36 : Array (Option Value)} {oc36 kV36 dc36 pm36 cd36 ct36 : Value}
variable {f37 : Addr} {od37 an37 : Option Addr} {sl37 : Array (Option Value)} {oc37 kV37 dc37 pm37 cd37 ct37 : Value}
variable {f38 : Addr} {od38 an38 : Option Addr} {sl38 : Array (Option Value)} {oc38 kV38 dc38 pm38 cd38 ct38 : Value}
variable {tc35 tp35 : Addr} {tv35 : Value} {to35 : Option Addr} {ts35 : Array (Option Value)} {tw35 : Array Value}
variable {tc36 tp36 : Addr} {tv36 : Value} {to36 : Option Addr} {ts36 : Array (Option Value)} {tw36 : Array Value}
variable {tc37 tp37 : Addr} {tv37 : Value} {to37 : Option Addr} {ts37 : Array (Option Value)} {tw37 : Array Value}
variable {C1 : Addr}
variable {C2 : Addr}
variable {C3 : Addr}
variable {fI D0 : Addr}
variable {cv0 : Value}
variable {cv1 : Value}
variable {cv2 : Value}
variable {cv3 : Value}
variable {cv4 : Value}
variable {nm1 qn1 : Str} {N1 : Addr} {bs1 bm1 : List Value} {sn1 : List Str} {sub1 : List Value} {ab1 : Bool} {col1 : Option Bool} {dd1 : Option Addr} {ka1 kb1 kc1 kd1 ke1 : Option Value}
variable {nm2 qn2 : Str} {N2 : Addr} {bs2 bm2 : List Value} {sn2 : List Str} {sub2 : List Value} {ab2 : Bool} {col2 : Option Bool} {dd2 : Option Addr} {ka2 kb2 kc2 kd2 ke2 : Option Value}
variable {nm3 qn3 : Str} {N3 : Addr} {bs3 bm3 : List Value} {sn3 : List Str} {sub3 : List Value} {ab3 : Bool} {col3 : Option Bool} {dd3 : Option Addr} {ka3 kb3 kc3 kd3 ke3 : Option Value}
variable {T0 : Addr}
variable {T1 : Addr}
variable {T2 : Addr}
variable {T3 : Addr}
variable {PR : Program}
theorem here (X : K.In h) (G : h.Ns mainGlobals mg)
    (a0 : PySem.W.nsIn K mainGlobals "is_between" = some (some (.ref f0))) (l0 : K.lookup f0 = some ⟨oc0, od0, .func (PySem.W.fnOf "is_between" "is_between" (defArgs dx0.st) (defBody dx0.st) (defScope dx0.st) .none kV0 dc0 pm0 an0 cd0 ct0), sl0⟩) (c0 : PySem.W.codeIn K cd0 "is_between" = true) (k0 : PySem.W.keepIn K (.ref f0) = true)
    (a1 : PySem.W.nsIn K mainGlobals "is_below" = some (some (.ref f1))) (l1 : K.lookup f1 = some ⟨oc1, od1, .func (PySem.W.fnOf "is_below" "is_below" (defArgs dx1.st) (defBody dx1.st) (defScope dx1.st) .none kV1 dc1 pm1 an1 cd1 ct1), sl1⟩) (c1 : PySem.W.codeIn K cd1 "is_below" = true) (k1 : PySem.W.keepIn K (.ref f1) = true)
    (a2 : PySem.W.nsIn K mainGlobals "wrong_size" = some (some (.ref f2))) (l2 : K.lookup f2 = some ⟨oc2, od2, .func (PySem.W.fnOf "wrong_size" "wrong_size" (defArgs dx2.st) (defBody dx2.st) (defScope dx2.st) .none kV2 dc2 pm2 an2 cd2 ct2), sl2⟩) (c2 : PySem.W.codeIn K cd2 "wrong_size" = true) (k2 : PySem.W.keepIn K (.ref f2) = true)
    (a3 : PySem.W.nsIn K mainGlobals "is_sizes" = some (some (.ref f3))) (l3 : K.lookup f3 = some ⟨oc3, od3, .func (PySem.W.fnOf "is_sizes" "is_sizes" (defArgs dx3.st) (defBody dx3.st) (defScope dx3.st) .none kV3 dc3 pm3 an3 cd3 ct3), sl3⟩) (c3 : PySem.W.codeIn K cd3 "is_sizes" = true) (k3 : PySem.W.keepIn K (.ref f3) = true)
    (a4 : PySem.W.nsIn K mainGlobals "made_sizes" = some (some (.ref f4))) (l4 : K.lookup f4 = some ⟨oc4, od4, .func (PySem.W.fnOf "made_sizes" "made_sizes" (defArgs dx4.st) (defBody dx4.st) (defScope dx4.st) .none kV4 dc4 pm4 an4 cd4 ct4), sl4⟩) (c4 : PySem.W.codeIn K cd4 "made_sizes" = true) (k4 : PySem.W.keepIn K (.ref f4) = true)
    (a5 : PySem.W.nsIn K mainGlobals "wrong_worth" = some (some (.ref f5))) (l5 : K.lookup f5 = some ⟨oc5, od5, .func (PySem.W.fnOf "wrong_worth" "wrong_worth" (defArgs dx5.st) (defBody dx5.st) (defScope dx5.st) .none kV5 dc5 pm5 an5 cd5 ct5), sl5⟩) (c5 : PySem.W.codeIn K cd5 "wrong_worth" = true) (k5 : PySem.W.keepIn K (.ref f5) = true)
    (a6 : PySem.W.nsIn K mainGlobals "is_page" = some (some (.ref f6))) (l6 : K.lookup f6 = some ⟨oc6, od6, .func (PySem.W.fnOf "is_page" "is_page" (defArgs dx6.st) (defBody dx6.st) (defScope dx6.st) .none kV6 dc6 pm6 an6 cd6 ct6), sl6⟩) (c6 : PySem.W.codeIn K cd6 "is_page" = true) (k6 : PySem.W.keepIn K (.ref f6) = true)
    (a7 : PySem.W.nsIn K mainGlobals "made_page" = some (some (.ref f7))) (l7 : K.lookup f7 = some ⟨oc7, od7, .func (PySem.W.fnOf "made_page" "made_page" (defArgs dx7.st) (defBody dx7.st) (defScope dx7.st) .none kV7 dc7 pm7 an7 cd7 ct7), sl7⟩) (c7 : PySem.W.codeIn K cd7 "made_page" = true) (k7 : PySem.W.keepIn K (.ref f7) = true)
    (a8 : PySem.W.nsIn K mainGlobals "is_setting" = some (some (.ref f8))) (l8 : K.lookup f8 = some ⟨oc8, od8, .func (PySem.W.fnOf "is_setting" "is_setting" (defArgs dx8.st) (defBody dx8.st) (defScope dx8.st) .none kV8 dc8 pm8 an8 cd8 ct8), sl8⟩) (c8 : PySem.W.codeIn K cd8 "is_setting" = true) (k8 : PySem.W.keepIn K (.ref f8) = true)
    (a9 : PySem.W.nsIn K mainGlobals "is_pair" = some (some (.ref f9))) (l9 : K.lookup f9 = some ⟨oc9, od9, .func (PySem.W.fnOf "is_pair" "is_pair" (defArgs dx9.st) (defBody dx9.st) (defScope dx9.st) .none kV9 dc9 pm9 an9 cd9 ct9), sl9⟩) (c9 : PySem.W.codeIn K cd9 "is_pair" = true) (k9 : PySem.W.keepIn K (.ref f9) = true)
    (a10 : PySem.W.nsIn K mainGlobals "wrong_pair" = some (some (.ref f10))) (l10 : K.lookup f10 = some ⟨oc10, od10, .func (PySem.W.fnOf "wrong_pair" "wrong_pair" (defArgs dx10.st) (defBody dx10.st) (defScope dx10.st) .none kV10 dc10 pm10 an10 cd10 ct10), sl10⟩) (c10 : PySem.W.codeIn K cd10 "wrong_pair" = true) (k10 : PySem.W.keepIn K (.ref f10) = true)
    (a11 : PySem.W.nsIn K mainGlobals "is_edit" = some (some (.ref f11))) (l11 : K.lookup f11 = some ⟨oc11, od11, .func (PySem.W.fnOf "is_edit" "is_edit" (defArgs dx11.st) (defBody dx11.st) (defScope dx11.st) .none kV11 dc11 pm11 an11 cd11 ct11), sl11⟩) (c11 : PySem.W.codeIn K cd11 "is_edit" = true) (k11 : PySem.W.keepIn K (.ref f11) = true)
    (a12 : PySem.W.nsIn K mainGlobals "made_edit" = some (some (.ref f12))) (l12 : K.lookup f12 = some ⟨oc12, od12, .func (PySem.W.fnOf "made_edit" "made_edit" (defArgs dx12.st) (defBody dx12.st) (defScope dx12.st) .none kV12 dc12 pm12 an12 cd12 ct12), sl12⟩) (c12 : PySem.W.codeIn K cd12 "made_edit" = true) (k12 : PySem.W.keepIn K (.ref f12) = true)
    (a13 : PySem.W.nsIn K mainGlobals "_law_pool" = some (some (.ref f13))) (l13 : K.lookup f13 = some ⟨oc13, od13, .func (PySem.W.fnOf "_law_pool" "_law_pool" (defArgs dx13.st) (defBody dx13.st) (defScope dx13.st) .none kV13 dc13 pm13 an13 cd13 ct13), sl13⟩) (c13 : PySem.W.codeIn K cd13 "_law_pool" = true) (k13 : PySem.W.keepIn K (.ref f13) = true)
    (a14 : PySem.W.nsIn K mainGlobals "_law_take" = some (some (.ref f14))) (l14 : K.lookup f14 = some ⟨oc14, od14, .func (PySem.W.fnOf "_law_take" "_law_take" (defArgs dx14.st) (defBody dx14.st) (defScope dx14.st) .none kV14 dc14 pm14 an14 cd14 ct14), sl14⟩) (c14 : PySem.W.codeIn K cd14 "_law_take" = true) (k14 : PySem.W.keepIn K (.ref f14) = true)
    (a15 : PySem.W.nsIn K mainGlobals "_law_one" = some (some (.ref f15))) (l15 : K.lookup f15 = some ⟨oc15, od15, .func (PySem.W.fnOf "_law_one" "_law_one" (defArgs dx15.st) (defBody dx15.st) (defScope dx15.st) .none kV15 dc15 pm15 an15 cd15 ct15), sl15⟩) (c15 : PySem.W.codeIn K cd15 "_law_one" = true) (k15 : PySem.W.keepIn K (.ref f15) = true)
    (a16 : PySem.W.nsIn K mainGlobals "_law_mixed" = some (some (.ref f16))) (l16 : K.lookup f16 = some ⟨oc16, od16, .func (PySem.W.fnOf "_law_mixed" "_law_mixed" (defArgs dx16.st) (defBody dx16.st) (defScope dx16.st) .none kV16 dc16 pm16 an16 cd16 ct16), sl16⟩) (c16 : PySem.W.codeIn K cd16 "_law_mixed" = true) (k16 : PySem.W.keepIn K (.ref f16) = true)
    (a17 : PySem.W.nsIn K mainGlobals "_law_any_page" = some (some (.ref f17))) (l17 : K.lookup f17 = some ⟨oc17, od17, .func (PySem.W.fnOf "_law_any_page" "_law_any_page" (defArgs dx17.st) (defBody dx17.st) (defScope dx17.st) .none kV17 dc17 pm17 an17 cd17 ct17), sl17⟩) (c17 : PySem.W.codeIn K cd17 "_law_any_page" = true) (k17 : PySem.W.keepIn K (.ref f17) = true)
    (a18 : PySem.W.nsIn K mainGlobals "_law_any_edit" = some (some (.ref f18))) (l18 : K.lookup f18 = some ⟨oc18, od18, .func (PySem.W.fnOf "_law_any_edit" "_law_any_edit" (defArgs dx18.st) (defBody dx18.st) (defScope dx18.st) .none kV18 dc18 pm18 an18 cd18 ct18), sl18⟩) (c18 : PySem.W.codeIn K cd18 "_law_any_edit" = true) (k18 : PySem.W.keepIn K (.ref f18) = true)
    (a19 : PySem.W.nsIn K mainGlobals "_law_heard" = some (some (.ref f19))) (l19 : K.lookup f19 = some ⟨oc19, od19, .func (PySem.W.fnOf "_law_heard" "_law_heard" (defArgs dx19.st) (defBody dx19.st) (defScope dx19.st) .none kV19 dc19 pm19 an19 cd19 ct19), sl19⟩) (c19 : PySem.W.codeIn K cd19 "_law_heard" = true) (k19 : PySem.W.keepIn K (.ref f19) = true)
    (a20 : PySem.W.nsIn K mainGlobals "_law_refused" = some (some (.ref f20))) (l20 : K.lookup f20 = some ⟨oc20, od20, .func (PySem.W.fnOf "_law_refused" "_law_refused" (defArgs dx20.st) (defBody dx20.st) (defScope dx20.st) .none kV20 dc20 pm20 an20 cd20 ct20), sl20⟩) (c20 : PySem.W.codeIn K cd20 "_law_refused" = true) (k20 : PySem.W.keepIn K (.ref f20) = true)
    (a21 : PySem.W.nsIn K mainGlobals "_law_is_number" = some (some (.ref f21))) (l21 : K.lookup f21 = some ⟨oc21, od21, .func (PySem.W.fnOf "_law_is_number" "_law_is_number" (defArgs dx21.st) (defBody dx21.st) (defScope dx21.st) .none kV21 dc21 pm21 an21 cd21 ct21), sl21⟩) (c21 : PySem.W.codeIn K cd21 "_law_is_number" = true) (k21 : PySem.W.keepIn K (.ref f21) = true)
    (a22 : PySem.W.nsIn K mainGlobals "_law_sizes_due" = some (some (.ref f22))) (l22 : K.lookup f22 = some ⟨oc22, od22, .func (PySem.W.fnOf "_law_sizes_due" "_law_sizes_due" (defArgs dx22.st) (defBody dx22.st) (defScope dx22.st) .none kV22 dc22 pm22 an22 cd22 ct22), sl22⟩) (c22 : PySem.W.codeIn K cd22 "_law_sizes_due" = true) (k22 : PySem.W.keepIn K (.ref f22) = true)
    (a23 : PySem.W.nsIn K mainGlobals "_law_page_due" = some (some (.ref f23))) (l23 : K.lookup f23 = some ⟨oc23, od23, .func (PySem.W.fnOf "_law_page_due" "_law_page_due" (defArgs dx23.st) (defBody dx23.st) (defScope dx23.st) .none kV23 dc23 pm23 an23 cd23 ct23), sl23⟩) (c23 : PySem.W.codeIn K cd23 "_law_page_due" = true) (k23 : PySem.W.keepIn K (.ref f23) = true)
    (a24 : PySem.W.nsIn K mainGlobals "_law_is_part" = some (some (.ref f24))) (l24 : K.lookup f24 = some ⟨oc24, od24, .func (PySem.W.fnOf "_law_is_part" "_law_is_part" (defArgs dx24.st) (defBody dx24.st) (defScope dx24.st) .none kV24 dc24 pm24 an24 cd24 ct24), sl24⟩) (c24 : PySem.W.codeIn K cd24 "_law_is_part" = true) (k24 : PySem.W.keepIn K (.ref f24) = true)
    (a25 : PySem.W.nsIn K mainGlobals "_law_edit_due" = some (some (.ref f25))) (l25 : K.lookup f25 = some ⟨oc25, od25, .func (PySem.W.fnOf "_law_edit_due" "_law_edit_due" (defArgs dx25.st) (defBody dx25.st) (defScope dx25.st) .none kV25 dc25 pm25 an25 cd25 ct25), sl25⟩) (c25 : PySem.W.codeIn K cd25 "_law_edit_due" = true) (k25 : PySem.W.keepIn K (.ref f25) = true)
    (a26 : PySem.W.nsIn K mainGlobals "_law_put_at" = some (some (.ref f26))) (l26 : K.lookup f26 = some ⟨oc26, od26, .func (PySem.W.fnOf "_law_put_at" "_law_put_at" (defArgs dx26.st) (defBody dx26.st) (defScope dx26.st) .none kV26 dc26 pm26 an26 cd26 ct26), sl26⟩) (c26 : PySem.W.codeIn K cd26 "_law_put_at" = true) (k26 : PySem.W.keepIn K (.ref f26) = true)
    (a27 : PySem.W.nsIn K mainGlobals "_law_nested" = some (some (.ref f27))) (l27 : K.lookup f27 = some ⟨oc27, od27, .func (PySem.W.fnOf "_law_nested" "_law_nested" (defArgs dx27.st) (defBody dx27.st) (defScope dx27.st) .none kV27 dc27 pm27 an27 cd27 ct27), sl27⟩) (c27 : PySem.W.codeIn K cd27 "_law_nested" = true) (k27 : PySem.W.keepIn K (.ref f27) = true)
    (a28 : PySem.W.nsIn K mainGlobals "_law_odd" = some (some (.ref f28))) (l28 : K.lookup f28 = some ⟨oc28, od28, .func (PySem.W.fnOf "_law_odd" "_law_odd" (defArgs dx28.st) (defBody dx28.st) (defScope dx28.st) .none kV28 dc28 pm28 an28 cd28 ct28), sl28⟩) (c28 : PySem.W.codeIn K cd28 "_law_odd" = true) (k28 : PySem.W.keepIn K (.ref f28) = true)
    (a29 : PySem.W.nsIn K mainGlobals "_law_sizes_row" = some (some (.ref f29))) (l29 : K.lookup f29 = some ⟨oc29, od29, .func (PySem.W.fnOf "_law_sizes_row" "_law_sizes_row" (defArgs dx29.st) (defBody dx29.st) (defScope dx29.st) .none kV29 dc29 pm29 an29 cd29 ct29), sl29⟩) (c29 : PySem.W.codeIn K cd29 "_law_sizes_row" = true) (k29 : PySem.W.keepIn K (.ref f29) = true)
    (a30 : PySem.W.nsIn K mainGlobals "_law_sizes_thing" = some (some (.ref f30))) (l30 : K.lookup f30 = some ⟨oc30, od30, .func (PySem.W.fnOf "_law_sizes_thing" "_law_sizes_thing" (defArgs dx30.st) (defBody dx30.st) (defScope dx30.st) .none kV30 dc30 pm30 an30 cd30 ct30), sl30⟩) (c30 : PySem.W.codeIn K cd30 "_law_sizes_thing" = true) (k30 : PySem.W.keepIn K (.ref f30) = true)
    (a31 : PySem.W.nsIn K mainGlobals "_law_page_thing" = some (some (.ref f31))) (l31 : K.lookup f31 = some ⟨oc31, od31, .func (PySem.W.fnOf "_law_page_thing" "_law_page_thing" (defArgs dx31.st) (defBody dx31.st) (defScope dx31.st) .none kV31 dc31 pm31 an31 cd31 ct31), sl31⟩) (c31 : PySem.W.codeIn K cd31 "_law_page_thing" = true) (k31 : PySem.W.keepIn K (.ref f31) = true)
    (a32 : PySem.W.nsIn K mainGlobals "_law_odd_pairs" = some (some (.ref f32))) (l32 : K.lookup f32 = some ⟨oc32, od32, .func (PySem.W.fnOf "_law_odd_pairs" "_law_odd_pairs" (defArgs dx32.st) (defBody dx32.st) (defScope dx32.st) .none kV32 dc32 pm32 an32 cd32 ct32), sl32⟩) (c32 : PySem.W.codeIn K cd32 "_law_odd_pairs" = true) (k32 : PySem.W.keepIn K (.ref f32) = true)
    (a33 : PySem.W.nsIn K mainGlobals "_law_edit_thing" = some (some (.ref f33))) (l33 : K.lookup f33 = some ⟨oc33, od33, .func (PySem.W.fnOf "_law_edit_thing" "_law_edit_thing" (defArgs dx33.st) (defBody dx33.st) (defScope dx33.st) .none kV33 dc33 pm33 an33 cd33 ct33), sl33⟩) (c33 : PySem.W.codeIn K cd33 "_law_edit_thing" = true) (k33 : PySem.W.keepIn K (.ref f33) = true)
    (a34 : PySem.W.nsIn K mainGlobals "_law_is_like" = some (some (.ref f34))) (l34 : K.lookup f34 = some ⟨oc34, od34, .func (PySem.W.fnOf "_law_is_like" "_law_is_like" (defArgs dx34.st) (defBody dx34.st) (defScope dx34.st) .none kV34 dc34 pm34 an34 cd34 ct34), sl34⟩) (c34 : PySem.W.codeIn K cd34 "_law_is_like" = true) (k34 : PySem.W.keepIn K (.ref f34) = true)
    (a35 : PySem.W.nsIn K mainGlobals "_law_sizes_right" = some (some (.ref f35))) (l35 : K.lookup f35 = some ⟨oc35, od35, .func (PySem.W.fnOf "_law_sizes_right" "_law_sizes_right" (defArgs dx35.st) (defBody dx35.st) (defScope dx35.st) .none kV35 dc35 pm35 an35 (.ref tc35) ct35), sl35⟩) (c35 : PySem.W.codeIn K (.ref tc35) "_law_sizes_right" = true) (k35 : PySem.W.keepIn K (.ref f35) = true)
    (a36 : PySem.W.nsIn K mainGlobals "_law_page_right" = some (some (.ref f36))) (l36 : K.lookup f36 = some ⟨oc36, od36, .func (PySem.W.fnOf "_law_page_right" "_law_page_right" (defArgs dx36.st) (defBody dx36.st) (defScope dx36.st) .none kV36 dc36 pm36 an36 (.ref tc36) ct36), sl36⟩) (c36 : PySem.W.codeIn K (.ref tc36) "_law_page_right" = true) (k36 : PySem.W.keepIn K (.ref f36) = true)
    (a37 : PySem.W.nsIn K mainGlobals "_law_edit_right" = some (some (.ref f37))) (l37 : K.lookup f37 = some ⟨oc37, od37, .func (PySem.W.fnOf "_law_edit_right" "_law_edit_right" (defArgs dx37.st) (defBody dx37.st) (defScope dx37.st) .none kV37 dc37 pm37 an37 (.ref tc37) ct37), sl37⟩) (c37 : PySem.W.codeIn K (.ref tc37) "_law_edit_right" = true) (k37 : PySem.W.keepIn K (.ref f37) = true)
    (a38 : PySem.W.nsIn K mainGlobals "law" = some (some (.ref f38))) (l38 : K.lookup f38 = some ⟨oc38, od38, .func (PySem.W.fnOf "law" "law" (defArgs dx38.st) (defBody dx38.st) (defScope dx38.st) .none kV38 dc38 pm38 an38 cd38 ct38), sl38⟩) (c38 : PySem.W.codeIn K cd38 "law" = true) (k38 : PySem.W.keepIn K (.ref f38) = true)
    (t35 : K.lookup tc35 = some ⟨tv35, to35, .fields tw35, ts35⟩) (v35 : tw35[11]? = some (.ref tp35)) (u35 : K.lookup tp35 = none)
    (t36 : K.lookup tc36 = some ⟨tv36, to36, .fields tw36, ts36⟩) (v36 : tw36[11]? = some (.ref tp36)) (u36 : K.lookup tp36 = none)
    (t37 : K.lookup tc37 = some ⟨tv37, to37, .fields tw37, ts37⟩) (v37 : tw37[11]? = some (.ref tp37)) (u37 : K.lookup tp37 = none)
    (z0 : PySem.W.nsIn K mainGlobals "ValueError" = some none)
    (z1 : PySem.W.nsIn K mainGlobals "bool" = some none)
    (z2 : PySem.W.nsIn K mainGlobals "enumerate" = some none)
    (z3 : PySem.W.nsIn K mainGlobals "int" = some none)
    (z4 : PySem.W.nsIn K mainGlobals "isinstance" = some none)
    (z5 : PySem.W.nsIn K mainGlobals "len" = some none)
    (z6 : PySem.W.nsIn K mainGlobals "list" = some none)
    (z7 : PySem.W.nsIn K mainGlobals "max" = some none)
    (z8 : PySem.W.nsIn K mainGlobals "range" = some none)
    (z9 : PySem.W.nsIn K mainGlobals "repr" = some none)
    (z10 : PySem.W.nsIn K mainGlobals "super" = some none)
    (z11 : PySem.W.nsIn K mainGlobals "tuple" = some none)
    {gt0 : Tok} (jj0 : PySem.W.nsIn K mainGlobals "MOST_SETTINGS" = some (some (.int (24) gt0)))
    {gt1 : Tok} (jj1 : PySem.W.nsIn K mainGlobals "MOST_WORTHS" = some (some (.int (6) gt1)))
    (eD : PySem.W.nsIn K mainGlobals "Refused" = some (some (.ref D0)))
    (e1 : PySem.W.nsIn K mainGlobals "BadSizes" = some (some (.ref C1)))
    (e2 : PySem.W.nsIn K mainGlobals "BadPage" = some (some (.ref C2)))
    (e3 : PySem.W.nsIn K mainGlobals "BadEdit" = some (some (.ref C3)))
    (fi : PySem.W.findIn K (.ref C1) "__init__" = some (some (.ref fI)))
    (iF : InitF K PR fI D0)
    (o1 : K.lookup C1 = some (PySem.excClassObj nm1 qn1 C1 N1 bs1 bm1 true sn1 sub1 ab1 col1 dd1 ka1 kb1 kc1 kd1 ke1 "ValueError.__new__")) (r1 : PySem.HandSPX.refsVE bm1 = true) (x1 : excB K C1 fI D0 = true)
    (o2 : K.lookup C2 = some (PySem.excClassObj nm2 qn2 C2 N2 bs2 bm2 true sn2 sub2 ab2 col2 dd2 ka2 kb2 kc2 kd2 ke2 "ValueError.__new__")) (r2 : PySem.HandSPX.refsVE bm2 = true) (x2 : excB K C2 fI D0 = true)
    (o3 : K.lookup C3 = some (PySem.excClassObj nm3 qn3 C3 N3 bs3 bm3 true sn3 sub3 ab3 col3 dd3 ka3 kb3 kc3 kd3 ke3 "ValueError.__new__")) (r3 : PySem.HandSPX.refsVE bm3 = true) (x3 : excB K C3 fI D0 = true)
    (h0 : PySem.W.nsIn K mainGlobals "Refused" = some (some (.ref T0)))
    (m0y1 : PySem.W.exmOne K (.ref C1) (.ref T0) = some true ∧ PySem.W.kitOne K (.ref C1) (.ref T0) = some true)
    (m0y2 : PySem.W.exmOne K (.ref C2) (.ref T0) = some true ∧ PySem.W.kitOne K (.ref C2) (.ref T0) = some true)
    (m0y3 : PySem.W.exmOne K (.ref C3) (.ref T0) = some true ∧ PySem.W.kitOne K (.ref C3) (.ref T0) = some true)
    (h1 : PySem.W.nsIn K mainGlobals "BadSizes" = some (some (.ref T1)))
    (m1y1 : PySem.W.exmOne K (.ref C1) (.ref T1) = some true ∧ PySem.W.kitOne K (.ref C1) (.ref T1) = some true)
    (m1n2 : PySem.W.exmOne K (.ref C2) (.ref T1) = some false ∧ PySem.W.kitOne K (.ref C2) (.ref T1) = some false)
    (m1n3 : PySem.W.exmOne K (.ref C3) (.ref T1) = some false ∧ PySem.W.kitOne K (.ref C3) (.ref T1) = some false)
    (h2 : PySem.W.nsIn K mainGlobals "BadPage" = some (some (.ref T2)))
    (m2y2 : PySem.W.exmOne K (.ref C2) (.ref T2) = some true ∧ PySem.W.kitOne K (.ref C2) (.ref T2) = some true)
    (m2n1 : PySem.W.exmOne K (.ref C1) (.ref T2) = some false ∧ PySem.W.kitOne K (.ref C1) (.ref T2) = some false)
    (m2n3 : PySem.W.exmOne K (.ref C3) (.ref T2) = some false ∧ PySem.W.kitOne K (.ref C3) (.ref T2) = some false)
    (h3 : PySem.W.nsIn K mainGlobals "BadEdit" = some (some (.ref T3)))
    (m3y3 : PySem.W.exmOne K (.ref C3) (.ref T3) = some true ∧ PySem.W.kitOne K (.ref C3) (.ref T3) = some true)
    (m3n1 : PySem.W.exmOne K (.ref C1) (.ref T3) = some false ∧ PySem.W.kitOne K (.ref C1) (.ref T3) = some false)
    (m3n2 : PySem.W.exmOne K (.ref C2) (.ref T3) = some false ∧ PySem.W.kitOne K (.ref C2) (.ref T3) = some false)
    (h4 : PySem.W.nsIn K mainGlobals "ValueError" = some none)
    (m4y1 : PySem.W.exmOne K (.ref C1) (.type "ValueError") = some true ∧ PySem.W.kitOne K (.ref C1) (.type "ValueError") = some true)
    (m4y2 : PySem.W.exmOne K (.ref C2) (.type "ValueError") = some true ∧ PySem.W.kitOne K (.ref C2) (.type "ValueError") = some true)
    (m4y3 : PySem.W.exmOne K (.ref C3) (.type "ValueError") = some true ∧ PySem.W.kitOne K (.ref C3) (.type "ValueError") = some true)
    (uq : (([(tc35, tp35, some ("_law_sizes_right.<locals>.<lambda>" : Str)), (tc36, tp36, some ("_law_page_right.<locals>.<lambda>" : Str)), (tc37, tp37, some ("_law_edit_right.<locals>.<lambda>" : Str))] : List (Addr × Addr × Option Str)).all fun p => ([(tc35, tp35, some ("_law_sizes_right.<locals>.<lambda>" : Str)), (tc36, tp36, some ("_law_page_right.<locals>.<lambda>" : Str)), (tc37, tp37, some ("_law_edit_right.<locals>.<lambda>" : Str))] : List (Addr × Addr × Option Str)).all fun q => !decide (p.2.1 = q.2.1) || decide (p.2.2 = q.2.2)) = true)
    : ∃ cl : Cl, Here lib K mg PR cl ∧ ∃ fd : FuncData, Fun K dx38.x dx38.x dx38.st f38 fd ∧ TabF K dx38 fd ∧ mg "law" = some (.ref f38) ∧ ∀ (s : Shared) (u : Value), BindsTo s fd ⟨[u], []⟩ [("script", u)] := by
  have F0 : Fun K dx0.x dx0.x dx0.st f0 _ := fun_mk (st := dx0.st) l0 c0 k0
  have F1 : Fun K dx1.x dx1.x dx1.st f1 _ := fun_mk (st := dx1.st) l1 c1 k1
  have F2 : Fun K dx2.x dx2.x dx2.st f2 _ := fun_mk (st := dx2.st) l2 c2 k2
  have F3 : Fun K dx3.x dx3.x dx3.st f3 _ := fun_mk (st := dx3.st) l3 c3 k3
  have F4 : Fun K dx4.x dx4.x dx4.st f4 _ := fun_mk (st := dx4.st) l4 c4 k4
  have F5 : Fun K dx5.x dx5.x dx5.st f5 _ := fun_mk (st := dx5.st) l5 c5 k5
  have F6 : Fun K dx6.x dx6.x dx6.st f6 _ := fun_mk (st := dx6.st) l6 c6 k6
  have F7 : Fun K dx7.x dx7.x dx7.st f7 _ := fun_mk (st := dx7.st) l7 c7 k7
  have F8 : Fun K dx8.x dx8.x dx8.st f8 _ := fun_mk (st := dx8.st) l8 c8 k8
  have F9 : Fun K dx9.x dx9.x dx9.st f9 _ := fun_mk (st := dx9.st) l9 c9 k9
  have F10 : Fun K dx10.x dx10.x dx10.st f10 _ := fun_mk (st := dx10.st) l10 c10 k10
  have F11 : Fun K dx11.x dx11.x dx11.st f11 _ := fun_mk (st := dx11.st) l11 c11 k11
  have F12 : Fun K dx12.x dx12.x dx12.st f12 _ := fun_mk (st := dx12.st) l12 c12 k12
  have F13 : Fun K dx13.x dx13.x dx13.st f13 _ := fun_mk (st := dx13.st) l13 c13 k13
  have F14 : Fun K dx14.x dx14.x dx14.st f14 _ := fun_mk (st := dx14.st) l14 c14 k14
  have F15 : Fun K dx15.x dx15.x dx15.st f15 _ := fun_mk (st := dx15.st) l15 c15 k15
  have F16 : Fun K dx16.x dx16.x dx16.st f16 _ := fun_mk (st := dx16.st) l16 c16 k16
  have F17 : Fun K dx17.x dx17.x dx17.st f17 _ := fun_mk (st := dx17.st) l17 c17 k17
  have F18 : Fun K dx18.x dx18.x dx18.st f18 _ := fun_mk (st := dx18.st) l18 c18 k18
  have F19 : Fun K dx19.x dx19.x dx19.st f19 _ := fun_mk (st := dx19.st) l19 c19 k19
  have F20 : Fun K dx20.x dx20.x dx20.st f20 _ := fun_mk (st := dx20.st) l20 c20 k20
  have F21 : Fun K dx21.x dx21.x dx21.st f21 _ := fun_mk (st := dx21.st) l21 c21 k21
  have F22 : Fun K dx22.x dx22.x dx22.st f22 _ := fun_mk (st := dx22.st) l22 c22 k22
  have F23 : Fun K dx23.x dx23.x dx23.st f23 _ := fun_mk (st := dx23.st) l23 c23 k23
  have F24 : Fun K dx24.x dx24.x dx24.st f24 _ := fun_mk (st := dx24.st) l24 c24 k24
  have F25 : Fun K dx25.x dx25.x dx25.st f25 _ := fun_mk (st := dx25.st) l25 c25 k25
  have F26 : Fun K dx26.x dx26.x dx26.st f26 _ := fun_mk (st := dx26.st) l26 c26 k26
  have F27 : Fun K dx27.x dx27.x dx27.st f27 _ := fun_mk (st := dx27.st) l27 c27 k27
  have F28 : Fun K dx28.x dx28.x dx28.st f28 _ := fun_mk (st := dx28.st) l28 c28 k28
  have F29 : Fun K dx29.x dx29.x dx29.st f29 _ := fun_mk (st := dx29.st) l29 c29 k29
  have F30 : Fun K dx30.x dx30.x dx30.st f30 _ := fun_mk (st := dx30.st) l30 c30 k30
  have F31 : Fun K dx31.x dx31.x dx31.st f31 _ := fun_mk (st := dx31.st) l31 c31 k31
  have F32 : Fun K dx32.x dx32.x dx32.st f32 _ := fun_mk (st := dx32.st) l32 c32 k32
  have F33 : Fun K dx33.x dx33.x dx33.st f33 _ := fun_mk (st := dx33.st) l33 c33 k33
  have F34 : Fun K dx34.x dx34.x dx34.st f34 _ := fun_mk (st := dx34.st) l34 c34 k34
  have F35 : Fun K dx35.x dx35.x dx35.st f35 _ := fun_mk (st := dx35.st) l35 c35 k35
  have F36 : Fun K dx36.x dx36.x dx36.st f36 _ := fun_mk (st := dx36.st) l36 c36 k36
  have F37 : Fun K dx37.x dx37.x dx37.st f37 _ := fun_mk (st := dx37.st) l37 c37 k37
  have F38 : Fun K dx38.x dx38.x dx38.st f38 _ := fun_mk (st := dx38.st) l38 c38 k38
  have T35 : TabF K dx35 _ := tabF_of (d := dx35) a35 l35 rfl t35 v35 u35
  have T36 : TabF K dx36 _ := tabF_of (d := dx36) a36 l36 rfl t36 v36 u36
  have T37 : TabF K dx37 _ := tabF_of (d := dx37) a37 l37 rfl t37 v37 u37
  have TI35 : PySem.W.tabIn K dx35.x = some (tc35, tp35) := tabIn_of a35 l35 rfl t35 v35
  have TI36 : PySem.W.tabIn K dx36.x = some (tc36, tp36) := tabIn_of a36 l36 rfl t36 v36
  have TI37 : PySem.W.tabIn K dx37.x = some (tc37, tp37) := tabIn_of a37 l37 rfl t37 v37
  have TU : tabsOf lib K = [(tc35, tp35, some ("_law_sizes_right.<locals>.<lambda>" : Str)), (tc36, tp36, some ("_law_page_right.<locals>.<lambda>" : Str)), (tc37, tp37, some ("_law_edit_right.<locals>.<lambda>" : Str))] := by simp only [tabsOf, lib, List.filterMap_cons, List.filterMap_nil, Option.map_some, TI35, TI36, TI37]
  refine ⟨fun c => if c = 1 then C1 else if c = 2 then C2 else if c = 3 then C3 else 0, ⟨fun i d e => ?_, uni_of _ TU uq, fun x hx => ?_, fun x n hx => ?_, fun x c hx => ?_, fun x y n hx => ?_⟩, _, F38, (tabF_no rfl), PySem.W.mg_of X G a38, fun s v => .of_eq rfl⟩
  · match i, e with
    | 0, rfl => exact ⟨_, _, F0, (tabF_no rfl), PySem.W.mg_of X G a0, b0 F0, fun ks perm hk => by
        have hk : (("is_between" : Str), ks, perm) ∈ theKi := hk
        rcases List.mem_cons.mp hk with e | hk
        · exact absurd (congrArg Prod.fst e) (show ("is_between" : Str) ≠ "is_sizes" by decide +kernel)
        rcases List.mem_cons.mp hk with e | hk
        · exact absurd (congrArg Prod.fst e) (show ("is_between" : Str) ≠ "is_page" by decide +kernel)
        rcases List.mem_cons.mp hk with e | hk
        · exact absurd (congrArg Prod.fst e) (show ("is_between" : Str) ≠ "is_edit" by decide +kernel)
        rcases List.mem_cons.mp hk with e | hk
        · exact absurd (congrArg Prod.fst e) (show ("is_between" : Str) ≠ "made_sizes" by decide +kernel)
        rcases List.mem_cons.mp hk with e | hk
        · exact absurd (congrArg Prod.fst e) (show ("is_between" : Str) ≠ "made_page" by decide +kernel)
        rcases List.mem_cons.mp hk with e | hk
        · exact absurd (congrArg Prod.fst e) (show ("is_between" : Str) ≠ "made_edit" by decide +kernel)
        exact nomatch hk⟩
    | 1, rfl => exact ⟨_, _, F1, (tabF_no rfl), PySem.W.mg_of X G a1, b1 F1, fun ks perm hk => by
        have hk : (("is_below" : Str), ks, perm) ∈ theKi := hk
        rcases List.mem_cons.mp hk with e | hk
        · exact absurd (congrArg Prod.fst e) (show ("is_below" : Str) ≠ "is_sizes" by decide +kernel)
        rcases List.mem_cons.mp hk with e | hk
        · exact absurd (congrArg Prod.fst e) (show ("is_below" : Str) ≠ "is_page" by decide +kernel)
        rcases List.mem_cons.mp hk with e | hk
        · exact absurd (congrArg Prod.fst e) (show ("is_below" : Str) ≠ "is_edit" by decide +kernel)
        rcases List.mem_cons.mp hk with e | hk
        · exact absurd (congrArg Prod.fst e) (show ("is_below" : Str) ≠ "made_sizes" by decide +kernel)
        rcases List.mem_cons.mp hk with e | hk
        · exact absurd (congrArg Prod.fst e) (show ("is_below" : Str) ≠ "made_page" by decide +kernel)
        rcases List.mem_cons.mp hk with e | hk
        · exact absurd (congrArg Prod.fst e) (show ("is_below" : Str) ≠ "made_edit" by decide +kernel)
        exact nomatch hk⟩
    | 2, rfl => exact ⟨_, _, F2, (tabF_no rfl), PySem.W.mg_of X G a2, b2 F2, fun ks perm hk => by
        have hk : (("wrong_size" : Str), ks, perm) ∈ theKi := hk
        rcases List.mem_cons.mp hk with e | hk
        · exact absurd (congrArg Prod.fst e) (show ("wrong_size" : Str) ≠ "is_sizes" by decide +kernel)
        rcases List.mem_cons.mp hk with e | hk
        · exact absurd (congrArg Prod.fst e) (show ("wrong_size" : Str) ≠ "is_page" by decide +kernel)
        rcases List.mem_cons.mp hk with e | hk
        · exact absurd (congrArg Prod.fst e) (show ("wrong_size" : Str) ≠ "is_edit" by decide +kernel)
        rcases List.mem_cons.mp hk with e | hk
        · exact absurd (congrArg Prod.fst e) (show ("wrong_size" : Str) ≠ "made_sizes" by decide +kernel)
        rcases List.mem_cons.mp hk with e | hk
        · exact absurd (congrArg Prod.fst e) (show ("wrong_size" : Str) ≠ "made_page" by decide +kernel)
        rcases List.mem_cons.mp hk with e | hk
        · exact absurd (congrArg Prod.fst e) (show ("wrong_size" : Str) ≠ "made_edit" by decide +kernel)
        exact nomatch hk⟩
    | 3, rfl => exact ⟨_, _, F3, (tabF_no rfl), PySem.W.mg_of X G a3, b3 F3, fun ks perm hk => by
        have hk : (("is_sizes" : Str), ks, perm) ∈ theKi := hk
        rcases List.mem_cons.mp hk with e | hk
        · cases e; exact k_is_sizes_thing F3
        rcases List.mem_cons.mp hk with e | hk
        · exact absurd (congrArg Prod.fst e) (show ("is_sizes" : Str) ≠ "is_page" by decide +kernel)
        rcases List.mem_cons.mp hk with e | hk
        · exact absurd (congrArg Prod.fst e) (show ("is_sizes" : Str) ≠ "is_edit" by decide +kernel)
        rcases List.mem_cons.mp hk with e | hk
        · exact absurd (congrArg Prod.fst e) (show ("is_sizes" : Str) ≠ "made_sizes" by decide +kernel)
        rcases List.mem_cons.mp hk with e | hk
        · exact absurd (congrArg Prod.fst e) (show ("is_sizes" : Str) ≠ "made_page" by decide +kernel)
        rcases List.mem_cons.mp hk with e | hk
        · exact absurd (congrArg Prod.fst e) (show ("is_sizes" : Str) ≠ "made_edit" by decide +kernel)
        exact nomatch hk⟩
    | 4, rfl => exact ⟨_, _, F4, (tabF_no rfl), PySem.W.mg_of X G a4, b4 F4, fun ks perm hk => by
        have hk : (("made_sizes" : Str), ks, perm) ∈ theKi := hk
        rcases List.mem_cons.mp hk with e | hk
        · exact absurd (congrArg Prod.fst e) (show ("made_sizes" : Str) ≠ "is_sizes" by decide +kernel)
        rcases List.mem_cons.mp hk with e | hk
        · exact absurd (congrArg Prod.fst e) (show ("made_sizes" : Str) ≠ "is_page" by decide +kernel)
        rcases List.mem_cons.mp hk with e | hk
        · exact absurd (congrArg Prod.fst e) (show ("made_sizes" : Str) ≠ "is_edit" by decide +kernel)
        rcases List.mem_cons.mp hk with e | hk
        · cases e; exact k_made_sizes_thing F4
        rcases List.mem_cons.mp hk with e | hk
        · exact absurd (congrArg Prod.fst e) (show ("made_sizes" : Str) ≠ "made_page" by decide +kernel)
        rcases List.mem_cons.mp hk with e | hk
        · exact absurd (congrArg Prod.fst e) (show ("made_sizes" : Str) ≠ "made_edit" by decide +kernel)
        exact nomatch hk⟩
    | 5, rfl => exact ⟨_, _, F5, (tabF_no rfl), PySem.W.mg_of X G a5, b5 F5, fun ks perm hk => by
        have hk : (("wrong_worth" : Str), ks, perm) ∈ theKi := hk
        rcases List.mem_cons.mp hk with e | hk
        · exact absurd (congrArg Prod.fst e) (show ("wrong_worth" : Str) ≠ "is_sizes" by decide +kernel)
        rcases List.mem_cons.mp hk with e | hk
        · exact absurd (congrArg Prod.fst e) (show ("wrong_worth" : Str) ≠ "is_page" by decide +kernel)
        rcases List.mem_cons.mp hk with e | hk
        · exact absurd (congrArg Prod.fst e) (show ("wrong_worth" : Str) ≠ "is_edit" by decide +kernel)
        rcases List.mem_cons.mp hk with e | hk
        · exact absurd (congrArg Prod.fst e) (show ("wrong_worth" : Str) ≠ "made_sizes" by decide +kernel)
        rcases List.mem_cons.mp hk with e | hk
        · exact absurd (congrArg Prod.fst e) (show ("wrong_worth" : Str) ≠ "made_page" by decide +kernel)
        rcases List.mem_cons.mp hk with e | hk
        · exact absurd (congrArg Prod.fst e) (show ("wrong_worth" : Str) ≠ "made_edit" by decide +kernel)
        exact nomatch hk⟩
    | 6, rfl => exact ⟨_, _, F6, (tabF_no rfl), PySem.W.mg_of X G a6, b6 F6, fun ks perm hk => by
        have hk : (("is_page" : Str), ks, perm) ∈ theKi := hk
        rcases List.mem_cons.mp hk with e | hk
        · exact absurd (congrArg Prod.fst e) (show ("is_page" : Str) ≠ "is_sizes" by decide +kernel)
        rcases List.mem_cons.mp hk with e | hk
        · cases e; exact k_is_page_thing F6
        rcases List.mem_cons.mp hk with e | hk
        · exact absurd (congrArg Prod.fst e) (show ("is_page" : Str) ≠ "is_edit" by decide +kernel)
        rcases List.mem_cons.mp hk with e | hk
        · exact absurd (congrArg Prod.fst e) (show ("is_page" : Str) ≠ "made_sizes" by decide +kernel)
        rcases List.mem_cons.mp hk with e | hk
        · exact absurd (congrArg Prod.fst e) (show ("is_page" : Str) ≠ "made_page" by decide +kernel)
        rcases List.mem_cons.mp hk with e | hk
        · exact absurd (congrArg Prod.fst e) (show ("is_page" : Str) ≠ "made_edit" by decide +kernel)
        exact nomatch hk⟩
    | 7, rfl => exact ⟨_, _, F7, (tabF_no rfl), PySem.W.mg_of X G a7, b7 F7, fun ks perm hk => by
        have hk : (("made_page" : Str), ks, perm) ∈ theKi := hk
        rcases List.mem_cons.mp hk with e | hk
        · exact absurd (congrArg Prod.fst e) (show ("made_page" : Str) ≠ "is_sizes" by decide +kernel)
        rcases List.mem_cons.mp hk with e | hk
        · exact absurd (congrArg Prod.fst e) (show ("made_page" : Str) ≠ "is_page" by decide +kernel)
        rcases List.mem_cons.mp hk with e | hk
        · exact absurd (congrArg Prod.fst e) (show ("made_page" : Str) ≠ "is_edit" by decide +kernel)
        rcases List.mem_cons.mp hk with e | hk
        · exact absurd (congrArg Prod.fst e) (show ("made_page" : Str) ≠ "made_sizes" by decide +kernel)
        rcases List.mem_cons.mp hk with e | hk
        · cases e; exact k_made_page_thing_sizes F7
        rcases List.mem_cons.mp hk with e | hk
        · exact absurd (congrArg Prod.fst e) (show ("made_page" : Str) ≠ "made_edit" by decide +kernel)
        exact nomatch hk⟩
    | 8, rfl => exact ⟨_, _, F8, (tabF_no rfl), PySem.W.mg_of X G a8, b8 F8, fun ks perm hk => by
        have hk : (("is_setting" : Str), ks, perm) ∈ theKi := hk
        rcases List.mem_cons.mp hk with e | hk
        · exact absurd (congrArg Prod.fst e) (show ("is_setting" : Str) ≠ "is_sizes" by decide +kernel)
        rcases List.mem_cons.mp hk with e | hk
        · exact absurd (congrArg Prod.fst e) (show ("is_setting" : Str) ≠ "is_page" by decide +kernel)
        rcases List.mem_cons.mp hk with e | hk
        · exact absurd (congrArg Prod.fst e) (show ("is_setting" : Str) ≠ "is_edit" by decide +kernel)
        rcases List.mem_cons.mp hk with e | hk
        · exact absurd (congrArg Prod.fst e) (show ("is_setting" : Str) ≠ "made_sizes" by decide +kernel)
        rcases List.mem_cons.mp hk with e | hk
        · exact absurd (congrArg Prod.fst e) (show ("is_setting" : Str) ≠ "made_page" by decide +kernel)
        rcases List.mem_cons.mp hk with e | hk
        · exact absurd (congrArg Prod.fst e) (show ("is_setting" : Str) ≠ "made_edit" by decide +kernel)
        exact nomatch hk⟩
    | 9, rfl => exact ⟨_, _, F9, (tabF_no rfl), PySem.W.mg_of X G a9, b9 F9, fun ks perm hk => by
        have hk : (("is_pair" : Str), ks, perm) ∈ theKi := hk
        rcases List.mem_cons.mp hk with e | hk
        · exact absurd (congrArg Prod.fst e) (show ("is_pair" : Str) ≠ "is_sizes" by decide +kernel)
        rcases List.mem_cons.mp hk with e | hk
        · exact absurd (congrArg Prod.fst e) (show ("is_pair" : Str) ≠ "is_page" by decide +kernel)
        rcases List.mem_cons.mp hk with e | hk
        · exact absurd (congrArg Prod.fst e) (show ("is_pair" : Str) ≠ "is_edit" by decide +kernel)
        rcases List.mem_cons.mp hk with e | hk
        · exact absurd (congrArg Prod.fst e) (show ("is_pair" : Str) ≠ "made_sizes" by decide +kernel)
        rcases List.mem_cons.mp hk with e | hk
        · exact absurd (congrArg Prod.fst e) (show ("is_pair" : Str) ≠ "made_page" by decide +kernel)
        rcases List.mem_cons.mp hk with e | hk
        · exact absurd (congrArg Prod.fst e) (show ("is_pair" : Str) ≠ "made_edit" by decide +kernel)
        exact nomatch hk⟩
    | 10, rfl => exact ⟨_, _, F10, (tabF_no rfl), PySem.W.mg_of X G a10, b10 F10, fun ks perm hk => by
        have hk : (("wrong_pair" : Str), ks, perm) ∈ theKi := hk
        rcases List.mem_cons.mp hk with e | hk
        · exact absurd (congrArg Prod.fst e) (show ("wrong_pair" : Str) ≠ "is_sizes" by decide +kernel)
        rcases List.mem_cons.mp hk with e | hk
        · exact absurd (congrArg Prod.fst e) (show ("wrong_pair" : Str) ≠ "is_page" by decide +kernel)
        rcases List.mem_cons.mp hk with e | hk
        · exact absurd (congrArg Prod.fst e) (show ("wrong_pair" : Str) ≠ "is_edit" by decide +kernel)
        rcases List.mem_cons.mp hk with e | hk
        · exact absurd (congrArg Prod.fst e) (show ("wrong_pair" : Str) ≠ "made_sizes" by decide +kernel)
        rcases List.mem_cons.mp hk with e | hk
        · exact absurd (congrArg Prod.fst e) (show ("wrong_pair" : Str) ≠ "made_page" by decide +kernel)
        rcases List.mem_cons.mp hk with e | hk
        · exact absurd (congrArg Prod.fst e) (show ("wrong_pair" : Str) ≠ "made_edit" by decide +kernel)
        exact nomatch hk⟩
    | 11, rfl => exact ⟨_, _, F11, (tabF_no rfl), PySem.W.mg_of X G a11, b11 F11, fun ks perm hk => by
        have hk : (("is_edit" : Str), ks, perm) ∈ theKi := hk
        rcases List.mem_cons.mp hk with e | hk
        · exact absurd (congrArg Prod.fst e) (show ("is_edit" : Str) ≠ "is_sizes" by decide +kernel)
        rcases List.mem_cons.mp hk with e | hk
        · exact absurd (congrArg Prod.fst e) (show ("is_edit" : Str) ≠ "is_page" by decide +kernel)
        rcases List.mem_cons.mp hk with e | hk
        · cases e; exact k_is_edit_thing F11
        rcases List.mem_cons.mp hk with e | hk
        · exact absurd (congrArg Prod.fst e) (show ("is_edit" : Str) ≠ "made_sizes" by decide +kernel)
        rcases List.mem_cons.mp hk with e | hk
        · exact absurd (congrArg Prod.fst e) (show ("is_edit" : Str) ≠ "made_page" by decide +kernel)
        rcases List.mem_cons.mp hk with e | hk
        · exact absurd (congrArg Prod.fst e) (show ("is_edit" : Str) ≠ "made_edit" by decide +kernel)
        exact nomatch hk⟩
    | 12, rfl => exact ⟨_, _, F12, (tabF_no rfl), PySem.W.mg_of X G a12, b12 F12, fun ks perm hk => by
        have hk : (("made_edit" : Str), ks, perm) ∈ theKi := hk
        rcases List.mem_cons.mp hk with e | hk
        · exact absurd (congrArg Prod.fst e) (show ("made_edit" : Str) ≠ "is_sizes" by decide +kernel)
        rcases List.mem_cons.mp hk with e | hk
        · exact absurd (congrArg Prod.fst e) (show ("made_edit" : Str) ≠ "is_page" by decide +kernel)
        rcases List.mem_cons.mp hk with e | hk
        · exact absurd (congrArg Prod.fst e) (show ("made_edit" : Str) ≠ "is_edit" by decide +kernel)
        rcases List.mem_cons.mp hk with e | hk
        · exact absurd (congrArg Prod.fst e) (show ("made_edit" : Str) ≠ "made_sizes" by decide +kernel)
        rcases List.mem_cons.mp hk with e | hk
        · exact absurd (congrArg Prod.fst e) (show ("made_edit" : Str) ≠ "made_page" by decide +kernel)
        rcases List.mem_cons.mp hk with e | hk
        · cases e; exact k_made_edit_thing_sizes F12
        exact nomatch hk⟩
    | 13, rfl => exact ⟨_, _, F13, (tabF_no rfl), PySem.W.mg_of X G a13, b13 F13, fun ks perm hk => by
        have hk : (("_law_pool" : Str), ks, perm) ∈ theKi := hk
        rcases List.mem_cons.mp hk with e | hk
        · exact absurd (congrArg Prod.fst e) (show ("_law_pool" : Str) ≠ "is_sizes" by decide +kernel)
        rcases List.mem_cons.mp hk with e | hk
        · exact absurd (congrArg Prod.fst e) (show ("_law_pool" : Str) ≠ "is_page" by decide +kernel)
        rcases List.mem_cons.mp hk with e | hk
        · exact absurd (congrArg Prod.fst e) (show ("_law_pool" : Str) ≠ "is_edit" by decide +kernel)
        rcases List.mem_cons.mp hk with e | hk
        · exact absurd (congrArg Prod.fst e) (show ("_law_pool" : Str) ≠ "made_sizes" by decide +kernel)
        rcases List.mem_cons.mp hk with e | hk
        · exact absurd (congrArg Prod.fst e) (show ("_law_pool" : Str) ≠ "made_page" by decide +kernel)
        rcases List.mem_cons.mp hk with e | hk
        · exact absurd (congrArg Prod.fst e) (show ("_law_pool" : Str) ≠ "made_edit" by decide +kernel)
        exact nomatch hk⟩
    | 14, rfl => exact ⟨_, _, F14, (tabF_no rfl), PySem.W.mg_of X G a14, b14 F14, fun ks perm hk => by
        have hk : (("_law_take" : Str), ks, perm) ∈ theKi := hk
        rcases List.mem_cons.mp hk with e | hk
        · exact absurd (congrArg Prod.fst e) (show ("_law_take" : Str) ≠ "is_sizes" by decide +kernel)
        rcases List.mem_cons.mp hk with e | hk
        · exact absurd (congrArg Prod.fst e) (show ("_law_take" : Str) ≠ "is_page" by decide +kernel)
        rcases List.mem_cons.mp hk with e | hk
        · exact absurd (congrArg Prod.fst e) (show ("_law_take" : Str) ≠ "is_edit" by decide +kernel)
        rcases List.mem_cons.mp hk with e | hk
        · exact absurd (congrArg Prod.fst e) (show ("_law_take" : Str) ≠ "made_sizes" by decide +kernel)
        rcases List.mem_cons.mp hk with e | hk
        · exact absurd (congrArg Prod.fst e) (show ("_law_take" : Str) ≠ "made_page" by decide +kernel)
        rcases List.mem_cons.mp hk with e | hk
        · exact absurd (congrArg Prod.fst e) (show ("_law_take" : Str) ≠ "made_edit" by decide +kernel)
        exact nomatch hk⟩
    | 15, rfl => exact ⟨_, _, F15, (tabF_no rfl), PySem.W.mg_of X G a15, b15 F15, fun ks perm hk => by
        have hk : (("_law_one" : Str), ks, perm) ∈ theKi := hk
        rcases List.mem_cons.mp hk with e | hk
        · exact absurd (congrArg Prod.fst e) (show ("_law_one" : Str) ≠ "is_sizes" by decide +kernel)
        rcases List.mem_cons.mp hk with e | hk
        · exact absurd (congrArg Prod.fst e) (show ("_law_one" : Str) ≠ "is_page" by decide +kernel)
        rcases List.mem_cons.mp hk with e | hk
        · exact absurd (congrArg Prod.fst e) (show ("_law_one" : Str) ≠ "is_edit" by decide +kernel)
        rcases List.mem_cons.mp hk with e | hk
        · exact absurd (congrArg Prod.fst e) (show ("_law_one" : Str) ≠ "made_sizes" by decide +kernel)
        rcases List.mem_cons.mp hk with e | hk
        · exact absurd (congrArg Prod.fst e) (show ("_law_one" : Str) ≠ "made_page" by decide +kernel)
        rcases List.mem_cons.mp hk with e | hk
        · exact absurd (congrArg Prod.fst e) (show ("_law_one" : Str) ≠ "made_edit" by decide +kernel)
        exact nomatch hk⟩
    | 16, rfl => exact ⟨_, _, F16, (tabF_no rfl), PySem.W.mg_of X G a16, b16 F16, fun ks perm hk => by
        have hk : (("_law_mixed" : Str), ks, perm) ∈ theKi := hk
        rcases List.mem_cons.mp hk with e | hk
        · exact absurd (congrArg Prod.fst e) (show ("_law_mixed" : Str) ≠ "is_sizes" by decide +kernel)
        rcases List.mem_cons.mp hk with e | hk
        · exact absurd (congrArg Prod.fst e) (show ("_law_mixed" : Str) ≠ "is_page" by decide +kernel)
        rcases List.mem_cons.mp hk with e | hk
        · exact absurd (congrArg Prod.fst e) (show ("_law_mixed" : Str) ≠ "is_edit" by decide +kernel)
        rcases List.mem_cons.mp hk with e | hk
        · exact absurd (congrArg Prod.fst e) (show ("_law_mixed" : Str) ≠ "made_sizes" by decide +kernel)
        rcases List.mem_cons.mp hk with e | hk
        · exact absurd (congrArg Prod.fst e) (show ("_law_mixed" : Str) ≠ "made_page" by decide +kernel)
        rcases List.mem_cons.mp hk with e | hk
        · exact absurd (congrArg Prod.fst e) (show ("_law_mixed" : Str) ≠ "made_edit" by decide +kernel)
        exact nomatch hk⟩
    | 17, rfl => exact ⟨_, _, F17, (tabF_no rfl), PySem.W.mg_of X G a17, b17 F17, fun ks perm hk => by
        have hk : (("_law_any_page" : Str), ks, perm) ∈ theKi := hk
        rcases List.mem_cons.mp hk with e | hk
        · exact absurd (congrArg Prod.fst e) (show ("_law_any_page" : Str) ≠ "is_sizes" by decide +kernel)
        rcases List.mem_cons.mp hk with e | hk
        · exact absurd (congrArg Prod.fst e) (show ("_law_any_page" : Str) ≠ "is_page" by decide +kernel)
        rcases List.mem_cons.mp hk with e | hk
        · exact absurd (congrArg Prod.fst e) (show ("_law_any_page" : Str) ≠ "is_edit" by decide +kernel)
        rcases List.mem_cons.mp hk with e | hk
        · exact absurd (congrArg Prod.fst e) (show ("_law_any_page" : Str) ≠ "made_sizes" by decide +kernel)
        rcases List.mem_cons.mp hk with e | hk
        · exact absurd (congrArg Prod.fst e) (show ("_law_any_page" : Str) ≠ "made_page" by decide +kernel)
        rcases List.mem_cons.mp hk with e | hk
        · exact absurd (congrArg Prod.fst e) (show ("_law_any_page" : Str) ≠ "made_edit" by decide +kernel)
        exact nomatch hk⟩
    | 18, rfl => exact ⟨_, _, F18, (tabF_no rfl), PySem.W.mg_of X G a18, b18 F18, fun ks perm hk => by
        have hk : (("_law_any_edit" : Str), ks, perm) ∈ theKi := hk
        rcases List.mem_cons.mp hk with e | hk
        · exact absurd (congrArg Prod.fst e) (show ("_law_any_edit" : Str) ≠ "is_sizes" by decide +kernel)
        rcases List.mem_cons.mp hk with e | hk
        · exact absurd (congrArg Prod.fst e) (show ("_law_any_edit" : Str) ≠ "is_page" by decide +kernel)
        rcases List.mem_cons.mp hk with e | hk
        · exact absurd (congrArg Prod.fst e) (show ("_law_any_edit" : Str) ≠ "is_edit" by decide +kernel)
        rcases List.mem_cons.mp hk with e | hk
        · exact absurd (congrArg Prod.fst e) (show ("_law_any_edit" : Str) ≠ "made_sizes" by decide +kernel)
        rcases List.mem_cons.mp hk with e | hk
        · exact absurd (congrArg Prod.fst e) (show ("_law_any_edit" : Str) ≠ "made_page" by decide +kernel)
        rcases List.mem_cons.mp hk with e | hk
        · exact absurd (congrArg Prod.fst e) (show ("_law_any_edit" : Str) ≠ "made_edit" by decide +kernel)
        exact nomatch hk⟩
    | 19, rfl => exact ⟨_, _, F19, (tabF_no rfl), PySem.W.mg_of X G a19, b19 F19, fun ks perm hk => by
        have hk : (("_law_heard" : Str), ks, perm) ∈ theKi := hk
        rcases List.mem_cons.mp hk with e | hk
        · exact absurd (congrArg Prod.fst e) (show ("_law_heard" : Str) ≠ "is_sizes" by decide +kernel)
        rcases List.mem_cons.mp hk with e | hk
        · exact absurd (congrArg Prod.fst e) (show ("_law_heard" : Str) ≠ "is_page" by decide +kernel)
        rcases List.mem_cons.mp hk with e | hk
        · exact absurd (congrArg Prod.fst e) (show ("_law_heard" : Str) ≠ "is_edit" by decide +kernel)
        rcases List.mem_cons.mp hk with e | hk
        · exact absurd (congrArg Prod.fst e) (show ("_law_heard" : Str) ≠ "made_sizes" by decide +kernel)
        rcases List.mem_cons.mp hk with e | hk
        · exact absurd (congrArg Prod.fst e) (show ("_law_heard" : Str) ≠ "made_page" by decide +kernel)
        rcases List.mem_cons.mp hk with e | hk
        · exact absurd (congrArg Prod.fst e) (show ("_law_heard" : Str) ≠ "made_edit" by decide +kernel)
        exact nomatch hk⟩
    | 20, rfl => exact ⟨_, _, F20, (tabF_no rfl), PySem.W.mg_of X G a20, b20 F20, fun ks perm hk => by
        have hk : (("_law_refused" : Str), ks, perm) ∈ theKi := hk
        rcases List.mem_cons.mp hk with e | hk
        · exact absurd (congrArg Prod.fst e) (show ("_law_refused" : Str) ≠ "is_sizes" by decide +kernel)
        rcases List.mem_cons.mp hk with e | hk
        · exact absurd (congrArg Prod.fst e) (show ("_law_refused" : Str) ≠ "is_page" by decide +kernel)
        rcases List.mem_cons.mp hk with e | hk
        · exact absurd (congrArg Prod.fst e) (show ("_law_refused" : Str) ≠ "is_edit" by decide +kernel)
        rcases List.mem_cons.mp hk with e | hk
        · exact absurd (congrArg Prod.fst e) (show ("_law_refused" : Str) ≠ "made_sizes" by decide +kernel)
        rcases List.mem_cons.mp hk with e | hk
        · exact absurd (congrArg Prod.fst e) (show ("_law_refused" : Str) ≠ "made_page" by decide +kernel)
        rcases List.mem_cons.mp hk with e | hk
        · exact absurd (congrArg Prod.fst e) (show ("_law_refused" : Str) ≠ "made_edit" by decide +kernel)
        exact nomatch hk⟩
    | 21, rfl => exact ⟨_, _, F21, (tabF_no rfl), PySem.W.mg_of X G a21, b21 F21, fun ks perm hk => by
        have hk : (("_law_is_number" : Str), ks, perm) ∈ theKi := hk
        rcases List.mem_cons.mp hk with e | hk
        · exact absurd (congrArg Prod.fst e) (show ("_law_is_number" : Str) ≠ "is_sizes" by decide +kernel)
        rcases List.mem_cons.mp hk with e | hk
        · exact absurd (congrArg Prod.fst e) (show ("_law_is_number" : Str) ≠ "is_page" by decide +kernel)
        rcases List.mem_cons.mp hk with e | hk
        · exact absurd (congrArg Prod.fst e) (show ("_law_is_number" : Str) ≠ "is_edit" by decide +kernel)
        rcases List.mem_cons.mp hk with e | hk
        · exact absurd (congrArg Prod.fst e) (show ("_law_is_number" : Str) ≠ "made_sizes" by decide +kernel)
        rcases List.mem_cons.mp hk with e | hk
        · exact absurd (congrArg Prod.fst e) (show ("_law_is_number" : Str) ≠ "made_page" by decide +kernel)
        rcases List.mem_cons.mp hk with e | hk
        · exact absurd (congrArg Prod.fst e) (show ("_law_is_number" : Str) ≠ "made_edit" by decide +kernel)
        exact nomatch hk⟩
    | 22, rfl => exact ⟨_, _, F22, (tabF_no rfl), PySem.W.mg_of X G a22, b22 F22, fun ks perm hk => by
        have hk : (("_law_sizes_due" : Str), ks, perm) ∈ theKi := hk
        rcases List.mem_cons.mp hk with e | hk
        · exact absurd (congrArg Prod.fst e) (show ("_law_sizes_due" : Str) ≠ "is_sizes" by decide +kernel)
        rcases List.mem_cons.mp hk with e | hk
        · exact absurd (congrArg Prod.fst e) (show ("_law_sizes_due" : Str) ≠ "is_page" by decide +kernel)
        rcases List.mem_cons.mp hk with e | hk
        · exact absurd (congrArg Prod.fst e) (show ("_law_sizes_due" : Str) ≠ "is_edit" by decide +kernel)
        rcases List.mem_cons.mp hk with e | hk
        · exact absurd (congrArg Prod.fst e) (show ("_law_sizes_due" : Str) ≠ "made_sizes" by decide +kernel)
        rcases List.mem_cons.mp hk with e | hk
        · exact absurd (congrArg Prod.fst e) (show ("_law_sizes_due" : Str) ≠ "made_page" by decide +kernel)
        rcases List.mem_cons.mp hk with e | hk
        · exact absurd (congrArg Prod.fst e) (show ("_law_sizes_due" : Str) ≠ "made_edit" by decide +kernel)
        exact nomatch hk⟩
    | 23, rfl => exact ⟨_, _, F23, (tabF_no rfl), PySem.W.mg_of X G a23, b23 F23, fun ks perm hk => by
        have hk : (("_law_page_due" : Str), ks, perm) ∈ theKi := hk
        rcases List.mem_cons.mp hk with e | hk
        · exact absurd (congrArg Prod.fst e) (show ("_law_page_due" : Str) ≠ "is_sizes" by decide +kernel)
        rcases List.mem_cons.mp hk with e | hk
        · exact absurd (congrArg Prod.fst e) (show ("_law_page_due" : Str) ≠ "is_page" by decide +kernel)
        rcases List.mem_cons.mp hk with e | hk
        · exact absurd (congrArg Prod.fst e) (show ("_law_page_due" : Str) ≠ "is_edit" by decide +kernel)
        rcases List.mem_cons.mp hk with e | hk
        · exact absurd (congrArg Prod.fst e) (show ("_law_page_due" : Str) ≠ "made_sizes" by decide +kernel)
        rcases List.mem_cons.mp hk with e | hk
        · exact absurd (congrArg Prod.fst e) (show ("_law_page_due" : Str) ≠ "made_page" by decide +kernel)
        rcases List.mem_cons.mp hk with e | hk
        · exact absurd (congrArg Prod.fst e) (show ("_law_page_due" : Str) ≠ "made_edit" by decide +kernel)
        exact nomatch hk⟩
    | 24, rfl => exact ⟨_, _, F24, (tabF_no rfl), PySem.W.mg_of X G a24, b24 F24, fun ks perm hk => by
        have hk : (("_law_is_part" : Str), ks, perm) ∈ theKi := hk
        rcases List.mem_cons.mp hk with e | hk
        · exact absurd (congrArg Prod.fst e) (show ("_law_is_part" : Str) ≠ "is_sizes" by decide +kernel)
        rcases List.mem_cons.mp hk with e | hk
        · exact absurd (congrArg Prod.fst e) (show ("_law_is_part" : Str) ≠ "is_page" by decide +kernel)
        rcases List.mem_cons.mp hk with e | hk
        · exact absurd (congrArg Prod.fst e) (show ("_law_is_part" : Str) ≠ "is_edit" by decide +kernel)
        rcases List.mem_cons.mp hk with e | hk
        · exact absurd (congrArg Prod.fst e) (show ("_law_is_part" : Str) ≠ "made_sizes" by decide +kernel)
        rcases List.mem_cons.mp hk with e | hk
        · exact absurd (congrArg Prod.fst e) (show ("_law_is_part" : Str) ≠ "made_page" by decide +kernel)
        rcases List.mem_cons.mp hk with e | hk
        · exact absurd (congrArg Prod.fst e) (show ("_law_is_part" : Str) ≠ "made_edit" by decide +kernel)
        exact nomatch hk⟩
    | 25, rfl => exact ⟨_, _, F25, (tabF_no rfl), PySem.W.mg_of X G a25, b25 F25, fun ks perm hk => by
        have hk : (("_law_edit_due" : Str), ks, perm) ∈ theKi := hk
        rcases List.mem_cons.mp hk with e | hk
        · exact absurd (congrArg Prod.fst e) (show ("_law_edit_due" : Str) ≠ "is_sizes" by decide +kernel)
        rcases List.mem_cons.mp hk with e | hk
        · exact absurd (congrArg Prod.fst e) (show ("_law_edit_due" : Str) ≠ "is_page" by decide +kernel)
        rcases List.mem_cons.mp hk with e | hk
        · exact absurd (congrArg Prod.fst e) (show ("_law_edit_due" : Str) ≠ "is_edit" by decide +kernel)
        rcases List.mem_cons.mp hk with e | hk
        · exact absurd (congrArg Prod.fst e) (show ("_law_edit_due" : Str) ≠ "made_sizes" by decide +kernel)
        rcases List.mem_cons.mp hk with e | hk
        · exact absurd (congrArg Prod.fst e) (show ("_law_edit_due" : Str) ≠ "made_page" by decide +kernel)
        rcases List.mem_cons.mp hk with e | hk
        · exact absurd (congrArg Prod.fst e) (show ("_law_edit_due" : Str) ≠ "made_edit" by decide +kernel)
        exact nomatch hk⟩
    | 26, rfl => exact ⟨_, _, F26, (tabF_no rfl), PySem.W.mg_of X G a26, b26 F26, fun ks perm hk => by
        have hk : (("_law_put_at" : Str), ks, perm) ∈ theKi := hk
        rcases List.mem_cons.mp hk with e | hk
        · exact absurd (congrArg Prod.fst e) (show ("_law_put_at" : Str) ≠ "is_sizes" by decide +kernel)
        rcases List.mem_cons.mp hk with e | hk
        · exact absurd (congrArg Prod.fst e) (show ("_law_put_at" : Str) ≠ "is_page" by decide +kernel)
        rcases List.mem_cons.mp hk with e | hk
        · exact absurd (congrArg Prod.fst e) (show ("_law_put_at" : Str) ≠ "is_edit" by decide +kernel)
        rcases List.mem_cons.mp hk with e | hk
        · exact absurd (congrArg Prod.fst e) (show ("_law_put_at" : Str) ≠ "made_sizes" by decide +kernel)
        rcases List.mem_cons.mp hk with e | hk
        · exact absurd (congrArg Prod.fst e) (show ("_law_put_at" : Str) ≠ "made_page" by decide +kernel)
        rcases List.mem_cons.mp hk with e | hk
        · exact absurd (congrArg Prod.fst e) (show ("_law_put_at" : Str) ≠ "made_edit" by decide +kernel)
        exact nomatch hk⟩
    | 27, rfl => exact ⟨_, _, F27, (tabF_no rfl), PySem.W.mg_of X G a27, b27 F27, fun ks perm hk => by
        have hk : (("_law_nested" : Str), ks, perm) ∈ theKi := hk
        rcases List.mem_cons.mp hk with e | hk
        · exact absurd (congrArg Prod.fst e) (show ("_law_nested" : Str) ≠ "is_sizes" by decide +kernel)
        rcases List.mem_cons.mp hk with e | hk
        · exact absurd (congrArg Prod.fst e) (show ("_law_nested" : Str) ≠ "is_page" by decide +kernel)
        rcases List.mem_cons.mp hk with e | hk
        · exact absurd (congrArg Prod.fst e) (show ("_law_nested" : Str) ≠ "is_edit" by decide +kernel)
        rcases List.mem_cons.mp hk with e | hk
        · exact absurd (congrArg Prod.fst e) (show ("_law_nested" : Str) ≠ "made_sizes" by decide +kernel)
        rcases List.mem_cons.mp hk with e | hk
        · exact absurd (congrArg Prod.fst e) (show ("_law_nested" : Str) ≠ "made_page" by decide +kernel)
        rcases List.mem_cons.mp hk with e | hk
        · exact absurd (congrArg Prod.fst e) (show ("_law_nested" : Str) ≠ "made_edit" by decide +kernel)
        exact nomatch hk⟩
    | 28, rfl => exact ⟨_, _, F28, (tabF_no rfl), PySem.W.mg_of X G a28, b28 F28, fun ks perm hk => by
        have hk : (("_law_odd" : Str), ks, perm) ∈ theKi := hk
        rcases List.mem_cons.mp hk with e | hk
        · exact absurd (congrArg Prod.fst e) (show ("_law_odd" : Str) ≠ "is_sizes" by decide +kernel)
        rcases List.mem_cons.mp hk with e | hk
        · exact absurd (congrArg Prod.fst e) (show ("_law_odd" : Str) ≠ "is_page" by decide +kernel)
        rcases List.mem_cons.mp hk with e | hk
        · exact absurd (congrArg Prod.fst e) (show ("_law_odd" : Str) ≠ "is_edit" by decide +kernel)
        rcases List.mem_cons.mp hk with e | hk
        · exact absurd (congrArg Prod.fst e) (show ("_law_odd" : Str) ≠ "made_sizes" by decide +kernel)
        rcases List.mem_cons.mp hk with e | hk
        · exact absurd (congrArg Prod.fst e) (show ("_law_odd" : Str) ≠ "made_page" by decide +kernel)
        rcases List.mem_cons.mp hk with e | hk
        · exact absurd (congrArg Prod.fst e) (show ("_law_odd" : Str) ≠ "made_edit" by decide +kernel)
        exact nomatch hk⟩
    | 29, rfl => exact ⟨_, _, F29, (tabF_no rfl), PySem.W.mg_of X G a29, b29 F29, fun ks perm hk => by
        have hk : (("_law_sizes_row" : Str), ks, perm) ∈ theKi := hk
        rcases List.mem_cons.mp hk with e | hk
        · exact absurd (congrArg Prod.fst e) (show ("_law_sizes_row" : Str) ≠ "is_sizes" by decide +kernel)
        rcases List.mem_cons.mp hk with e | hk
        · exact absurd (congrArg Prod.fst e) (show ("_law_sizes_row" : Str) ≠ "is_page" by decide +kernel)
        rcases List.mem_cons.mp hk with e | hk
        · exact absurd (congrArg Prod.fst e) (show ("_law_sizes_row" : Str) ≠ "is_edit" by decide +kernel)
        rcases List.mem_cons.mp hk with e | hk
        · exact absurd (congrArg Prod.fst e) (show ("_law_sizes_row" : Str) ≠ "made_sizes" by decide +kernel)
        rcases List.mem_cons.mp hk with e | hk
        · exact absurd (congrArg Prod.fst e) (show ("_law_sizes_row" : Str) ≠ "made_page" by decide +kernel)
        rcases List.mem_cons.mp hk with e | hk
        · exact absurd (congrArg Prod.fst e) (show ("_law_sizes_row" : Str) ≠ "made_edit" by decide +kernel)
        exact nomatch hk⟩
    | 30, rfl => exact ⟨_, _, F30, (tabF_no rfl), PySem.W.mg_of X G a30, b30 F30, fun ks perm hk => by
        have hk : (("_law_sizes_thing" : Str), ks, perm) ∈ theKi := hk
        rcases List.mem_cons.mp hk with e | hk
        · exact absurd (congrArg Prod.fst e) (show ("_law_sizes_thing" : Str) ≠ "is_sizes" by decide +kernel)
        rcases List.mem_cons.mp hk with e | hk
        · exact absurd (congrArg Prod.fst e) (show ("_law_sizes_thing" : Str) ≠ "is_page" by decide +kernel)
        rcases List.mem_cons.mp hk with e | hk
        · exact absurd (congrArg Prod.fst e) (show ("_law_sizes_thing" : Str) ≠ "is_edit" by decide +kernel)
        rcases List.mem_cons.mp hk with e | hk
        · exact absurd (congrArg Prod.fst e) (show ("_law_sizes_thing" : Str) ≠ "made_sizes" by decide +kernel)
        rcases List.mem_cons.mp hk with e | hk
        · exact absurd (congrArg Prod.fst e) (show ("_law_sizes_thing" : Str) ≠ "made_page" by decide +kernel)
        rcases List.mem_cons.mp hk with e | hk
        · exact absurd (congrArg Prod.fst e) (show ("_law_sizes_thing" : Str) ≠ "made_edit" by decide +kernel)
        exact nomatch hk⟩
    | 31, rfl => exact ⟨_, _, F31, (tabF_no rfl), PySem.W.mg_of X G a31, b31 F31, fun ks perm hk => by
        have hk : (("_law_page_thing" : Str), ks, perm) ∈ theKi := hk
        rcases List.mem_cons.mp hk with e | hk
        · exact absurd (congrArg Prod.fst e) (show ("_law_page_thing" : Str) ≠ "is_sizes" by decide +kernel)
        rcases List.mem_cons.mp hk with e | hk
        · exact absurd (congrArg Prod.fst e) (show ("_law_page_thing" : Str) ≠ "is_page" by decide +kernel)
        rcases List.mem_cons.mp hk with e | hk
        · exact absurd (congrArg Prod.fst e) (show ("_law_page_thing" : Str) ≠ "is_edit" by decide +kernel)
        rcases List.mem_cons.mp hk with e | hk
        · exact absurd (congrArg Prod.fst e) (show ("_law_page_thing" : Str) ≠ "made_sizes" by decide +kernel)
        rcases List.mem_cons.mp hk with e | hk
        · exact absurd (congrArg Prod.fst e) (show ("_law_page_thing" : Str) ≠ "made_page" by decide +kernel)
        rcases List.mem_cons.mp hk with e | hk
        · exact absurd (congrArg Prod.fst e) (show ("_law_page_thing" : Str) ≠ "made_edit" by decide +kernel)
        exact nomatch hk⟩
    | 32, rfl => exact ⟨_, _, F32, (tabF_no rfl), PySem.W.mg_of X G a32, b32 F32, fun ks perm hk => by
        have hk : (("_law_odd_pairs" : Str), ks, perm) ∈ theKi := hk
        rcases List.mem_cons.mp hk with e | hk
        · exact absurd (congrArg Prod.fst e) (show ("_law_odd_pairs" : Str) ≠ "is_sizes" by decide +kernel)
        rcases List.mem_cons.mp hk with e | hk
        · exact absurd (congrArg Prod.fst e) (show ("_law_odd_pairs" : Str) ≠ "is_page" by decide +kernel)
        rcases List.mem_cons.mp hk with e | hk
        · exact absurd (congrArg Prod.fst e) (show ("_law_odd_pairs" : Str) ≠ "is_edit" by decide +kernel)
        rcases List.mem_cons.mp hk with e | hk
        · exact absurd (congrArg Prod.fst e) (show ("_law_odd_pairs" : Str) ≠ "made_sizes" by decide +kernel)
        rcases List.mem_cons.mp hk with e | hk
        · exact absurd (congrArg Prod.fst e) (show ("_law_odd_pairs" : Str) ≠ "made_page" by decide +kernel)
        rcases List.mem_cons.mp hk with e | hk
        · exact absurd (congrArg Prod.fst e) (show ("_law_odd_pairs" : Str) ≠ "made_edit" by decide +kernel)
        exact nomatch hk⟩
    | 33, rfl => exact ⟨_, _, F33, (tabF_no rfl), PySem.W.mg_of X G a33, b33 F33, fun ks perm hk => by
        have hk : (("_law_edit_thing" : Str), ks, perm) ∈ theKi := hk
        rcases List.mem_cons.mp hk with e | hk
        · exact absurd (congrArg Prod.fst e) (show ("_law_edit_thing" : Str) ≠ "is_sizes" by decide +kernel)
        rcases List.mem_cons.mp hk with e | hk
        · exact absurd (congrArg Prod.fst e) (show ("_law_edit_thing" : Str) ≠ "is_page" by decide +kernel)
        rcases List.mem_cons.mp hk with e | hk
        · exact absurd (congrArg Prod.fst e) (show ("_law_edit_thing" : Str) ≠ "is_edit" by decide +kernel)
        rcases List.mem_cons.mp hk with e | hk
        · exact absurd (congrArg Prod.fst e) (show ("_law_edit_thing" : Str) ≠ "made_sizes" by decide +kernel)
        rcases List.mem_cons.mp hk with e | hk
        · exact absurd (congrArg Prod.fst e) (show ("_law_edit_thing" : Str) ≠ "made_page" by decide +kernel)
        rcases List.mem_cons.mp hk with e | hk
        · exact absurd (congrArg Prod.fst e) (show ("_law_edit_thing" : Str) ≠ "made_edit" by decide +kernel)
        exact nomatch hk⟩
    | 34, rfl => exact ⟨_, _, F34, (tabF_no rfl), PySem.W.mg_of X G a34, b34 F34, fun ks perm hk => by
        have hk : (("_law_is_like" : Str), ks, perm) ∈ theKi := hk
        rcases List.mem_cons.mp hk with e | hk
        · exact absurd (congrArg Prod.fst e) (show ("_law_is_like" : Str) ≠ "is_sizes" by decide +kernel)
        rcases List.mem_cons.mp hk with e | hk
        · exact absurd (congrArg Prod.fst e) (show ("_law_is_like" : Str) ≠ "is_page" by decide +kernel)
        rcases List.mem_cons.mp hk with e | hk
        · exact absurd (congrArg Prod.fst e) (show ("_law_is_like" : Str) ≠ "is_edit" by decide +kernel)
        rcases List.mem_cons.mp hk with e | hk
        · exact absurd (congrArg Prod.fst e) (show ("_law_is_like" : Str) ≠ "made_sizes" by decide +kernel)
        rcases List.mem_cons.mp hk with e | hk
        · exact absurd (congrArg Prod.fst e) (show ("_law_is_like" : Str) ≠ "made_page" by decide +kernel)
        rcases List.mem_cons.mp hk with e | hk
        · exact absurd (congrArg Prod.fst e) (show ("_law_is_like" : Str) ≠ "made_edit" by decide +kernel)
        exact nomatch hk⟩
    | 35, rfl => exact ⟨_, _, F35, T35, PySem.W.mg_of X G a35, b35 F35, fun ks perm hk => by
        have hk : (("_law_sizes_right" : Str), ks, perm) ∈ theKi := hk
        rcases List.mem_cons.mp hk with e | hk
        · exact absurd (congrArg Prod.fst e) (show ("_law_sizes_right" : Str) ≠ "is_sizes" by decide +kernel)
        rcases List.mem_cons.mp hk with e | hk
        · exact absurd (congrArg Prod.fst e) (show ("_law_sizes_right" : Str) ≠ "is_page" by decide +kernel)
        rcases List.mem_cons.mp hk with e | hk
        · exact absurd (congrArg Prod.fst e) (show ("_law_sizes_right" : Str) ≠ "is_edit" by decide +kernel)
        rcases List.mem_cons.mp hk with e | hk
        · exact absurd (congrArg Prod.fst e) (show ("_law_sizes_right" : Str) ≠ "made_sizes" by decide +kernel)
        rcases List.mem_cons.mp hk with e | hk
        · exact absurd (congrArg Prod.fst e) (show ("_law_sizes_right" : Str) ≠ "made_page" by decide +kernel)
        rcases List.mem_cons.mp hk with e | hk
        · exact absurd (congrArg Prod.fst e) (show ("_law_sizes_right" : Str) ≠ "made_edit" by decide +kernel)
        exact nomatch hk⟩
    | 36, rfl => exact ⟨_, _, F36, T36, PySem.W.mg_of X G a36, b36 F36, fun ks perm hk => by
        have hk : (("_law_page_right" : Str), ks, perm) ∈ theKi := hk
        rcases List.mem_cons.mp hk with e | hk
        · exact absurd (congrArg Prod.fst e) (show ("_law_page_right" : Str) ≠ "is_sizes" by decide +kernel)
        rcases List.mem_cons.mp hk with e | hk
        · exact absurd (congrArg Prod.fst e) (show ("_law_page_right" : Str) ≠ "is_page" by decide +kernel)
        rcases List.mem_cons.mp hk with e | hk
        · exact absurd (congrArg Prod.fst e) (show ("_law_page_right" : Str) ≠ "is_edit" by decide +kernel)
        rcases List.mem_cons.mp hk with e | hk
        · exact absurd (congrArg Prod.fst e) (show ("_law_page_right" : Str) ≠ "made_sizes" by decide +kernel)
        rcases List.mem_cons.mp hk with e | hk
        · exact absurd (congrArg Prod.fst e) (show ("_law_page_right" : Str) ≠ "made_page" by decide +kernel)
        rcases List.mem_cons.mp hk with e | hk
        · exact absurd (congrArg Prod.fst e) (show ("_law_page_right" : Str) ≠ "made_edit" by decide +kernel)
        exact nomatch hk⟩
    | 37, rfl => exact ⟨_, _, F37, T37, PySem.W.mg_of X G a37, b37 F37, fun ks perm hk => by
        have hk : (("_law_edit_right" : Str), ks, perm) ∈ theKi := hk
        rcases List.mem_cons.mp hk with e | hk
        · exact absurd (congrArg Prod.fst e) (show ("_law_edit_right" : Str) ≠ "is_sizes" by decide +kernel)
        rcases List.mem_cons.mp hk with e | hk
        · exact absurd (congrArg Prod.fst e) (show ("_law_edit_right" : Str) ≠ "is_page" by decide +kernel)
        rcases List.mem_cons.mp hk with e | hk
        · exact absurd (congrArg Prod.fst e) (show ("_law_edit_right" : Str) ≠ "is_edit" by decide +kernel)
        rcases List.mem_cons.mp hk with e | hk
        · exact absurd (congrArg Prod.fst e) (show ("_law_edit_right" : Str) ≠ "made_sizes" by decide +kernel)
        rcases List.mem_cons.mp hk with e | hk
        · exact absurd (congrArg Prod.fst e) (show ("_law_edit_right" : Str) ≠ "made_page" by decide +kernel)
        rcases List.mem_cons.mp hk with e | hk
        · exact absurd (congrArg Prod.fst e) (show ("_law_edit_right" : Str) ≠ "made_edit" by decide +kernel)
        exact nomatch hk⟩
    | 38, rfl => exact ⟨_, _, F38, (tabF_no rfl), PySem.W.mg_of X G a38, b38 F38, fun ks perm hk => by
        have hk : (("law" : Str), ks, perm) ∈ theKi := hk
        rcases List.mem_cons.mp hk with e | hk
        · exact absurd (congrArg Prod.fst e) (show ("law" : Str) ≠ "is_sizes" by decide +kernel)
        rcases List.mem_cons.mp hk with e | hk
        · exact absurd (congrArg Prod.fst e) (show ("law" : Str) ≠ "is_page" by decide +kernel)
        rcases List.mem_cons.mp hk with e | hk
        · exact absurd (congrArg Prod.fst e) (show ("law" : Str) ≠ "is_edit" by decide +kernel)
        rcases List.mem_cons.mp hk with e | hk
        · exact absurd (congrArg Prod.fst e) (show ("law" : Str) ≠ "made_sizes" by decide +kernel)
        rcases List.mem_cons.mp hk with e | hk
        · exact absurd (congrArg Prod.fst e) (show ("law" : Str) ≠ "made_page" by decide +kernel)
        rcases List.mem_cons.mp hk with e | hk
        · exact absurd (congrArg Prod.fst e) (show ("law" : Str) ≠ "made_edit" by decide +kernel)
        exact nomatch hk⟩
  · have hx : x ∈ theBn := hx
    simp only [theBn, List.mem_cons, List.not_mem_nil, or_false] at hx
    rcases hx with rfl | rfl | rfl | rfl | rfl | rfl | rfl | rfl | rfl | rfl | rfl | rfl
    · exact PySem.W.mg_none_of X G z0
    · exact PySem.W.mg_none_of X G z1
    · exact PySem.W.mg_none_of X G z2
    · exact PySem.W.mg_none_of X G z3
    · exact PySem.W.mg_none_of X G z4
    · exact PySem.W.mg_none_of X G z5
    · exact PySem.W.mg_none_of X G z6
    · exact PySem.W.mg_none_of X G z7
    · exact PySem.W.mg_none_of X G z8
    · exact PySem.W.mg_none_of X G z9
    · exact PySem.W.mg_none_of X G z10
    · exact PySem.W.mg_none_of X G z11
  · have hx : theGi.lookup x = some n := hx
    try simp only [theGi, List.lookup_cons] at hx
    split at hx
    · rename_i e; cases hx; cases beq_iff_eq.mp e; exact ⟨_, PySem.W.mg_of X G jj0⟩
    try simp only [theGi, List.lookup_cons] at hx
    split at hx
    · rename_i e; cases hx; cases beq_iff_eq.mp e; exact ⟨_, PySem.W.mg_of X G jj1⟩
    exact nomatch hx
  · have hx : theXc.lookup x = some c := hx
    try simp only [theXc, List.lookup_cons] at hx
    split at hx
    · rename_i e; cases hx; cases beq_iff_eq.mp e; exact ⟨fI, D0, (excB_ok x1 iF o1 r1 (PySem.W.mg_of X G e1)).1⟩
    try simp only [theXc, List.lookup_cons] at hx
    split at hx
    · rename_i e; cases hx; cases beq_iff_eq.mp e; exact ⟨fI, D0, (excB_ok x2 iF o2 r2 (PySem.W.mg_of X G e2)).1⟩
    try simp only [theXc, List.lookup_cons] at hx
    split at hx
    · rename_i e; cases hx; cases beq_iff_eq.mp e; exact ⟨fI, D0, (excB_ok x3 iF o3 r3 (PySem.W.mg_of X G e3)).1⟩
    exact nomatch hx
  · have hx : theXt.lookup x = some (y, n) := hx
    have xcf : ∀ c ∈ [1, 2, 3], XcF K ((fun c => if c = 1 then C1 else if c = 2 then C2 else if c = 3 then C3 else 0 : Cl) c) := fun c hc => by
      simp only [List.mem_cons, List.not_mem_nil, or_false] at hc
      rcases hc with rfl | rfl | rfl
      · exact (excB_ok (x := "BadSizes") x1 iF o1 r1 (PySem.W.mg_of X G e1)).2
      · exact (excB_ok (x := "BadPage") x2 iF o2 r2 (PySem.W.mg_of X G e2)).2
      · exact (excB_ok (x := "BadEdit") x3 iF o3 r3 (PySem.W.mg_of X G e3)).2
    have sub : ∀ {l : List Nat} {c : Nat}, (∀ z ∈ l, z ∈ ([1, 2, 3] : List Nat)) → l.contains c = true → XcF K ((fun c => if c = 1 then C1 else if c = 2 then C2 else if c = 3 then C3 else 0 : Cl) c) := fun h1 h2 => xcf _ (h1 _ (List.contains_iff_mem.mp h2))
    try simp only [theXt, List.lookup_cons] at hx
    split at hx
    · rename_i e; cases hx; cases beq_iff_eq.mp e; exact ⟨_, xtF_ref (PySem.W.mg_of X G h0) (fun c hc => by simp only [List.mem_cons, List.not_mem_nil, or_false] at hc; rcases hc with rfl | rfl | rfl <;> first | exact m0y1 | exact m0y2 | exact m0y3) (fun c hc => nomatch hc), fun c hc => sub (by decide) hc⟩
    try simp only [theXt, List.lookup_cons] at hx
    split at hx
    · rename_i e; cases hx; cases beq_iff_eq.mp e; exact ⟨_, xtF_ref (PySem.W.mg_of X G h1) (fun c hc => by simp only [List.mem_cons, List.not_mem_nil, or_false] at hc; subst hc; exact m1y1) (fun c hc => by simp only [List.mem_cons, List.not_mem_nil, or_false] at hc; rcases hc with rfl | rfl <;> first | exact m1n2 | exact m1n3), fun c hc => sub (by decide) hc⟩
    try simp only [theXt, List.lookup_cons] at hx
    split at hx
    · rename_i e; cases hx; cases beq_iff_eq.mp e; exact ⟨_, xtF_ref (PySem.W.mg_of X G h2) (fun c hc => by simp only [List.mem_cons, List.not_mem_nil, or_false] at hc; subst hc; exact m2y2) (fun c hc => by simp only [List.mem_cons, List.not_mem_nil, or_false] at hc; rcases hc with rfl | rfl <;> first | exact m2n1 | exact m2n3), fun c hc => sub (by decide) hc⟩
    try simp only [theXt, List.lookup_cons] at hx
    split at hx
    · rename_i e; cases hx; cases beq_iff_eq.mp e; exact ⟨_, xtF_ref (PySem.W.mg_of X G h3) (fun c hc => by simp only [List.mem_cons, List.not_mem_nil, or_false] at hc; subst hc; exact m3y3) (fun c hc => by simp only [List.mem_cons, List.not_mem_nil, or_false] at hc; rcases hc with rfl | rfl <;> first | exact m3n1 | exact m3n2), fun c hc => sub (by decide) hc⟩
    try simp only [theXt, List.lookup_cons] at hx
    split at hx
    · rename_i e; cases hx; cases beq_iff_eq.mp e; exact ⟨_, xtF_ty (PySem.W.mg_none_of X G h4) rfl (by decide) (fun c hc => by simp only [List.mem_cons, List.not_mem_nil, or_false] at hc; rcases hc with rfl | rfl | rfl <;> first | exact m4y1 | exact m4y2 | exact m4y3) (fun c hc => nomatch hc), fun c hc => sub (by decide) hc⟩
    exact nomatch hx
theorem mk {fa : Addr} (X : K.In h) (G : h.Ns mainGlobals mg) (hmg : mg "law" = some (.ref fa))
    (a0 : PySem.W.nsIn K mainGlobals "is_between" = some (some (.ref f0))) (l0 : K.lookup f0 = some ⟨oc0, od0, .func (PySem.W.fnOf "is_between" "is_between" (defArgs dx0.st) (defBody dx0.st) (defScope dx0.st) .none kV0 dc0 pm0 an0 cd0 ct0), sl0⟩) (c0 : PySem.W.codeIn K cd0 "is_between" = true) (k0 : PySem.W.keepIn K (.ref f0) = true)
    (a1 : PySem.W.nsIn K mainGlobals "is_below" = some (some (.ref f1))) (l1 : K.lookup f1 = some ⟨oc1, od1, .func (PySem.W.fnOf "is_below" "is_below" (defArgs dx1.st) (defBody dx1.st) (defScope dx1.st) .none kV1 dc1 pm1 an1 cd1 ct1), sl1⟩) (c1 : PySem.W.codeIn K cd1 "is_below" = true) (k1 : PySem.W.keepIn K (.ref f1) = true)
    (a2 : PySem.W.nsIn K mainGlobals "wrong_size" = some (some (.ref f2))) (l2 : K.lookup f2 = some ⟨oc2, od2, .func (PySem.W.fnOf "wrong_size" "wrong_size" (defArgs dx2.st) (defBody dx2.st) (defScope dx2.st) .none kV2 dc2 pm2 an2 cd2 ct2), sl2⟩) (c2 : PySem.W.codeIn K cd2 "wrong_size" = true) (k2 : PySem.W.keepIn K (.ref f2) = true)
    (a3 : PySem.W.nsIn K mainGlobals "is_sizes" = some (some (.ref f3))) (l3 : K.lookup f3 = some ⟨oc3, od3, .func (PySem.W.fnOf "is_sizes" "is_sizes" (defArgs dx3.st) (defBody dx3.st) (defScope dx3.st) .none kV3 dc3 pm3 an3 cd3 ct3), sl3⟩) (c3 : PySem.W.codeIn K cd3 "is_sizes" = true) (k3 : PySem.W.keepIn K (.ref f3) = true)
    (a4 : PySem.W.nsIn K mainGlobals "made_sizes" = some (some (.ref f4))) (l4 : K.lookup f4 = some ⟨oc4, od4, .func (PySem.W.fnOf "made_sizes" "made_sizes" (defArgs dx4.st) (defBody dx4.st) (defScope dx4.st) .none kV4 dc4 pm4 an4 cd4 ct4), sl4⟩) (c4 : PySem.W.codeIn K cd4 "made_sizes" = true) (k4 : PySem.W.keepIn K (.ref f4) = true)
    (a5 : PySem.W.nsIn K mainGlobals "wrong_worth" = some (some (.ref f5))) (l5 : K.lookup f5 = some ⟨oc5, od5, .func (PySem.W.fnOf "wrong_worth" "wrong_worth" (defArgs dx5.st) (defBody dx5.st) (defScope dx5.st) .none kV5 dc5 pm5 an5 cd5 ct5), sl5⟩) (c5 : PySem.W.codeIn K cd5 "wrong_worth" = true) (k5 : PySem.W.keepIn K (.ref f5) = true)
    (a6 : PySem.W.nsIn K mainGlobals "is_page" = some (some (.ref f6))) (l6 : K.lookup f6 = some ⟨oc6, od6, .func (PySem.W.fnOf "is_page" "is_page" (defArgs dx6.st) (defBody dx6.st) (defScope dx6.st) .none kV6 dc6 pm6 an6 cd6 ct6), sl6⟩) (c6 : PySem.W.codeIn K cd6 "is_page" = true) (k6 : PySem.W.keepIn K (.ref f6) = true)
    (a7 : PySem.W.nsIn K mainGlobals "made_page" = some (some (.ref f7))) (l7 : K.lookup f7 = some ⟨oc7, od7, .func (PySem.W.fnOf "made_page" "made_page" (defArgs dx7.st) (defBody dx7.st) (defScope dx7.st) .none kV7 dc7 pm7 an7 cd7 ct7), sl7⟩) (c7 : PySem.W.codeIn K cd7 "made_page" = true) (k7 : PySem.W.keepIn K (.ref f7) = true)
    (a8 : PySem.W.nsIn K mainGlobals "is_setting" = some (some (.ref f8))) (l8 : K.lookup f8 = some ⟨oc8, od8, .func (PySem.W.fnOf "is_setting" "is_setting" (defArgs dx8.st) (defBody dx8.st) (defScope dx8.st) .none kV8 dc8 pm8 an8 cd8 ct8), sl8⟩) (c8 : PySem.W.codeIn K cd8 "is_setting" = true) (k8 : PySem.W.keepIn K (.ref f8) = true)
    (a9 : PySem.W.nsIn K mainGlobals "is_pair" = some (some (.ref f9))) (l9 : K.lookup f9 = some ⟨oc9, od9, .func (PySem.W.fnOf "is_pair" "is_pair" (defArgs dx9.st) (defBody dx9.st) (defScope dx9.st) .none kV9 dc9 pm9 an9 cd9 ct9), sl9⟩) (c9 : PySem.W.codeIn K cd9 "is_pair" = true) (k9 : PySem.W.keepIn K (.ref f9) = true)
    (a10 : PySem.W.nsIn K mainGlobals "wrong_pair" = some (some (.ref f10))) (l10 : K.lookup f10 = some ⟨oc10, od10, .func (PySem.W.fnOf "wrong_pair" "wrong_pair" (defArgs dx10.st) (defBody dx10.st) (defScope dx10.st) .none kV10 dc10 pm10 an10 cd10 ct10), sl10⟩) (c10 : PySem.W.codeIn K cd10 "wrong_pair" = true) (k10 : PySem.W.keepIn K (.ref f10) = true)
    (a11 : PySem.W.nsIn K mainGlobals "is_edit" = some (some (.ref f11))) (l11 : K.lookup f11 = some ⟨oc11, od11, .func (PySem.W.fnOf "is_edit" "is_edit" (defArgs dx11.st) (defBody dx11.st) (defScope dx11.st) .none kV11 dc11 pm11 an11 cd11 ct11), sl11⟩) (c11 : PySem.W.codeIn K cd11 "is_edit" = true) (k11 : PySem.W.keepIn K (.ref f11) = true)
    (a12 : PySem.W.nsIn K mainGlobals "made_edit" = some (some (.ref f12))) (l12 : K.lookup f12 = some ⟨oc12, od12, .func (PySem.W.fnOf "made_edit" "made_edit" (defArgs dx12.st) (defBody dx12.st) (defScope dx12.st) .none kV12 dc12 pm12 an12 cd12 ct12), sl12⟩) (c12 : PySem.W.codeIn K cd12 "made_edit" = true) (k12 : PySem.W.keepIn K (.ref f12) = true)
    (a13 : PySem.W.nsIn K mainGlobals "_law_pool" = some (some (.ref f13))) (l13 : K.lookup f13 = some ⟨oc13, od13, .func (PySem.W.fnOf "_law_pool" "_law_pool" (defArgs dx13.st) (defBody dx13.st) (defScope dx13.st) .none kV13 dc13 pm13 an13 cd13 ct13), sl13⟩) (c13 : PySem.W.codeIn K cd13 "_law_pool" = true) (k13 : PySem.W.keepIn K (.ref f13) = true)
    (a14 : PySem.W.nsIn K mainGlobals "_law_take" = some (some (.ref f14))) (l14 : K.lookup f14 = some ⟨oc14, od14, .func (PySem.W.fnOf "_law_take" "_law_take" (defArgs dx14.st) (defBody dx14.st) (defScope dx14.st) .none kV14 dc14 pm14 an14 cd14 ct14), sl14⟩) (c14 : PySem.W.codeIn K cd14 "_law_take" = true) (k14 : PySem.W.keepIn K (.ref f14) = true)
    (a15 : PySem.W.nsIn K mainGlobals "_law_one" = some (some (.ref f15))) (l15 : K.lookup f15 = some ⟨oc15, od15, .func (PySem.W.fnOf "_law_one" "_law_one" (defArgs dx15.st) (defBody dx15.st) (defScope dx15.st) .none kV15 dc15 pm15 an15 cd15 ct15), sl15⟩) (c15 : PySem.W.codeIn K cd15 "_law_one" = true) (k15 : PySem.W.keepIn K (.ref f15) = true)
    (a16 : PySem.W.nsIn K mainGlobals "_law_mixed" = some (some (.ref f16))) (l16 : K.lookup f16 = some ⟨oc16, od16, .func (PySem.W.fnOf "_law_mixed" "_law_mixed" (defArgs dx16.st) (defBody dx16.st) (defScope dx16.st) .none kV16 dc16 pm16 an16 cd16 ct16), sl16⟩) (c16 : PySem.W.codeIn K cd16 "_law_mixed" = true) (k16 : PySem.W.keepIn K (.ref f16) = true)
    (a17 : PySem.W.nsIn K mainGlobals "_law_any_page" = some (some (.ref f17))) (l17 : K.lookup f17 = some ⟨oc17, od17, .func (PySem.W.fnOf "_law_any_page" "_law_any_page" (defArgs dx17.st) (defBody dx17.st) (defScope dx17.st) .none kV17 dc17 pm17 an17 cd17 ct17), sl17⟩) (c17 : PySem.W.codeIn K cd17 "_law_any_page" = true) (k17 : PySem.W.keepIn K (.ref f17) = true)
    (a18 : PySem.W.nsIn K mainGlobals "_law_any_edit" = some (some (.ref f18))) (l18 : K.lookup f18 = some ⟨oc18, od18, .func (PySem.W.fnOf "_law_any_edit" "_law_any_edit" (defArgs dx18.st) (defBody dx18.st) (defScope dx18.st) .none kV18 dc18 pm18 an18 cd18 ct18), sl18⟩) (c18 : PySem.W.codeIn K cd18 "_law_any_edit" = true) (k18 : PySem.W.keepIn K (.ref f18) = true)
    (a19 : PySem.W.nsIn K mainGlobals "_law_heard" = some (some (.ref f19))) (l19 : K.lookup f19 = some ⟨oc19, od19, .func (PySem.W.fnOf "_law_heard" "_law_heard" (defArgs dx19.st) (defBody dx19.st) (defScope dx19.st) .none kV19 dc19 pm19 an19 cd19 ct19), sl19⟩) (c19 : PySem.W.codeIn K cd19 "_law_heard" = true) (k19 : PySem.W.keepIn K (.ref f19) = true)
    (a20 : PySem.W.nsIn K mainGlobals "_law_refused" = some (some (.ref f20))) (l20 : K.lookup f20 = some ⟨oc20, od20, .func (PySem.W.fnOf "_law_refused" "_law_refused" (defArgs dx20.st) (defBody dx20.st) (defScope dx20.st) .none kV20 dc20 pm20 an20 cd20 ct20), sl20⟩) (c20 : PySem.W.codeIn K cd20 "_law_refused" = true) (k20 : PySem.W.keepIn K (.ref f20) = true)
    (a21 : PySem.W.nsIn K mainGlobals "_law_is_number" = some (some (.ref f21))) (l21 : K.lookup f21 = some ⟨oc21, od21, .func (PySem.W.fnOf "_law_is_number" "_law_is_number" (defArgs dx21.st) (defBody dx21.st) (defScope dx21.st) .none kV21 dc21 pm21 an21 cd21 ct21), sl21⟩) (c21 : PySem.W.codeIn K cd21 "_law_is_number" = true) (k21 : PySem.W.keepIn K (.ref f21) = true)
    (a22 : PySem.W.nsIn K mainGlobals "_law_sizes_due" = some (some (.ref f22))) (l22 : K.lookup f22 = some ⟨oc22, od22, .func (PySem.W.fnOf "_law_sizes_due" "_law_sizes_due" (defArgs dx22.st) (defBody dx22.st) (defScope dx22.st) .none kV22 dc22 pm22 an22 cd22 ct22), sl22⟩) (c22 : PySem.W.codeIn K cd22 "_law_sizes_due" = true) (k22 : PySem.W.keepIn K (.ref f22) = true)
    (a23 : PySem.W.nsIn K mainGlobals "_law_page_due" = some (some (.ref f23))) (l23 : K.lookup f23 = some ⟨oc23, od23, .func (PySem.W.fnOf "_law_page_due" "_law_page_due" (defArgs dx23.st) (defBody dx23.st) (defScope dx23.st) .none kV23 dc23 pm23 an23 cd23 ct23), sl23⟩) (c23 : PySem.W.codeIn K cd23 "_law_page_due" = true) (k23 : PySem.W.keepIn K (.ref f23) = true)
    (a24 : PySem.W.nsIn K mainGlobals "_law_is_part" = some (some (.ref f24))) (l24 : K.lookup f24 = some ⟨oc24, od24, .func (PySem.W.fnOf "_law_is_part" "_law_is_part" (defArgs dx24.st) (defBody dx24.st) (defScope dx24.st) .none kV24 dc24 pm24 an24 cd24 ct24), sl24⟩) (c24 : PySem.W.codeIn K cd24 "_law_is_part" = true) (k24 : PySem.W.keepIn K (.ref f24) = true)
    (a25 : PySem.W.nsIn K mainGlobals "_law_edit_due" = some (some (.ref f25))) (l25 : K.lookup f25 = some ⟨oc25, od25, .func (PySem.W.fnOf "_law_edit_due" "_law_edit_due" (defArgs dx25.st) (defBody dx25.st) (defScope dx25.st) .none kV25 dc25 pm25 an25 cd25 ct25), sl25⟩) (c25 : PySem.W.codeIn K cd25 "_law_edit_due" = true) (k25 : PySem.W.keepIn K (.ref f25) = true)
    (a26 : PySem.W.nsIn K mainGlobals "_law_put_at" = some (some (.ref f26))) (l26 : K.lookup f26 = some ⟨oc26, od26, .func (PySem.W.fnOf "_law_put_at" "_law_put_at" (defArgs dx26.st) (defBody dx26.st) (defScope dx26.st) .none kV26 dc26 pm26 an26 cd26 ct26), sl26⟩) (c26 : PySem.W.codeIn K cd26 "_law_put_at" = true) (k26 : PySem.W.keepIn K (.ref f26) = true)
    (a27 : PySem.W.nsIn K mainGlobals "_law_nested" = some (some (.ref f27))) (l27 : K.lookup f27 = some ⟨oc27, od27, .func (PySem.W.fnOf "_law_nested" "_law_nested" (defArgs dx27.st) (defBody dx27.st) (defScope dx27.st) .none kV27 dc27 pm27 an27 cd27 ct27), sl27⟩) (c27 : PySem.W.codeIn K cd27 "_law_nested" = true) (k27 : PySem.W.keepIn K (.ref f27) = true)
    (a28 : PySem.W.nsIn K mainGlobals "_law_odd" = some (some (.ref f28))) (l28 : K.lookup f28 = some ⟨oc28, od28, .func (PySem.W.fnOf "_law_odd" "_law_odd" (defArgs dx28.st) (defBody dx28.st) (defScope dx28.st) .none kV28 dc28 pm28 an28 cd28 ct28), sl28⟩) (c28 : PySem.W.codeIn K cd28 "_law_odd" = true) (k28 : PySem.W.keepIn K (.ref f28) = true)
    (a29 : PySem.W.nsIn K mainGlobals "_law_sizes_row" = some (some (.ref f29))) (l29 : K.lookup f29 = some ⟨oc29, od29, .func (PySem.W.fnOf "_law_sizes_row" "_law_sizes_row" (defArgs dx29.st) (defBody dx29.st) (defScope dx29.st) .none kV29 dc29 pm29 an29 cd29 ct29), sl29⟩) (c29 : PySem.W.codeIn K cd29 "_law_sizes_row" = true) (k29 : PySem.W.keepIn K (.ref f29) = true)
    (a30 : PySem.W.nsIn K mainGlobals "_law_sizes_thing" = some (some (.ref f30))) (l30 : K.lookup f30 = some ⟨oc30, od30, .func (PySem.W.fnOf "_law_sizes_thing" "_law_sizes_thing" (defArgs dx30.st) (defBody dx30.st) (defScope dx30.st) .none kV30 dc30 pm30 an30 cd30 ct30), sl30⟩) (c30 : PySem.W.codeIn K cd30 "_law_sizes_thing" = true) (k30 : PySem.W.keepIn K (.ref f30) = true)
    (a31 : PySem.W.nsIn K mainGlobals "_law_page_thing" = some (some (.ref f31))) (l31 : K.lookup f31 = some ⟨oc31, od31, .func (PySem.W.fnOf "_law_page_thing" "_law_page_thing" (defArgs dx31.st) (defBody dx31.st) (defScope dx31.st) .none kV31 dc31 pm31 an31 cd31 ct31), sl31⟩) (c31 : PySem.W.codeIn K cd31 "_law_page_thing" = true) (k31 : PySem.W.keepIn K (.ref f31) = true)
    (a32 : PySem.W.nsIn K mainGlobals "_law_odd_pairs" = some (some (.ref f32))) (l32 : K.lookup f32 = some ⟨oc32, od32, .func (PySem.W.fnOf "_law_odd_pairs" "_law_odd_pairs" (defArgs dx32.st) (defBody dx32.st) (defScope dx32.st) .none kV32 dc32 pm32 an32 cd32 ct32), sl32⟩) (c32 : PySem.W.codeIn K cd32 "_law_odd_pairs" = true) (k32 : PySem.W.keepIn K (.ref f32) = true)
    (a33 : PySem.W.nsIn K mainGlobals "_law_edit_thing" = some (some (.ref f33))) (l33 : K.lookup f33 = some ⟨oc33, od33, .func (PySem.W.fnOf "_law_edit_thing" "_law_edit_thing" (defArgs dx33.st) (defBody dx33.st) (defScope dx33.st) .none kV33 dc33 pm33 an33 cd33 ct33), sl33⟩) (c33 : PySem.W.codeIn K cd33 "_law_edit_thing" = true) (k33 : PySem.W.keepIn K (.ref f33) = true)
    (a34 : PySem.W.nsIn K mainGlobals "_law_is_like" = some (some (.ref f34))) (l34 : K.lookup f34 = some ⟨oc34, od34, .func (PySem.W.fnOf "_law_is_like" "_law_is_like" (defArgs dx34.st) (defBody dx34.st) (defScope dx34.st) .none kV34 dc34 pm34 an34 cd34 ct34), sl34⟩) (c34 : PySem.W.codeIn K cd34 "_law_is_like" = true) (k34 : PySem.W.keepIn K (.ref f34) = true)
    (a35 : PySem.W.nsIn K mainGlobals "_law_sizes_right" = some (some (.ref f35))) (l35 : K.lookup f35 = some ⟨oc35, od35, .func (PySem.W.fnOf "_law_sizes_right" "_law_sizes_right" (defArgs dx35.st) (defBody dx35.st) (defScope dx35.st) .none kV35 dc35 pm35 an35 (.ref tc35) ct35), sl35⟩) (c35 : PySem.W.codeIn K (.ref tc35) "_law_sizes_right" = true) (k35 : PySem.W.keepIn K (.ref f35) = true)
    (a36 : PySem.W.nsIn K mainGlobals "_law_page_right" = some (some (.ref f36))) (l36 : K.lookup f36 = some ⟨oc36, od36, .func (PySem.W.fnOf "_law_page_right" "_law_page_right" (defArgs dx36.st) (defBody dx36.st) (defScope dx36.st) .none kV36 dc36 pm36 an36 (.ref tc36) ct36), sl36⟩) (c36 : PySem.W.codeIn K (.ref tc36) "_law_page_right" = true) (k36 : PySem.W.keepIn K (.ref f36) = true)
    (a37 : PySem.W.nsIn K mainGlobals "_law_edit_right" = some (some (.ref f37))) (l37 : K.lookup f37 = some ⟨oc37, od37, .func (PySem.W.fnOf "_law_edit_right" "_law_edit_right" (defArgs dx37.st) (defBody dx37.st) (defScope dx37.st) .none kV37 dc37 pm37 an37 (.ref tc37) ct37), sl37⟩) (c37 : PySem.W.codeIn K (.ref tc37) "_law_edit_right" = true) (k37 : PySem.W.keepIn K (.ref f37) = true)
    (a38 : PySem.W.nsIn K mainGlobals "law" = some (some (.ref f38))) (l38 : K.lookup f38 = some ⟨oc38, od38, .func (PySem.W.fnOf "law" "law" (defArgs dx38.st) (defBody dx38.st) (defScope dx38.st) .none kV38 dc38 pm38 an38 cd38 ct38), sl38⟩) (c38 : PySem.W.codeIn K cd38 "law" = true) (k38 : PySem.W.keepIn K (.ref f38) = true)
    (t35 : K.lookup tc35 = some ⟨tv35, to35, .fields tw35, ts35⟩) (v35 : tw35[11]? = some (.ref tp35)) (u35 : K.lookup tp35 = none)
    (t36 : K.lookup tc36 = some ⟨tv36, to36, .fields tw36, ts36⟩) (v36 : tw36[11]? = some (.ref tp36)) (u36 : K.lookup tp36 = none)
    (t37 : K.lookup tc37 = some ⟨tv37, to37, .fields tw37, ts37⟩) (v37 : tw37[11]? = some (.ref tp37)) (u37 : K.lookup tp37 = none)
    (z0 : PySem.W.nsIn K mainGlobals "ValueError" = some none)
    (z1 : PySem.W.nsIn K mainGlobals "bool" = some none)
    (z2 : PySem.W.nsIn K mainGlobals "enumerate" = some none)
    (z3 : PySem.W.nsIn K mainGlobals "int" = some none)
    (z4 : PySem.W.nsIn K mainGlobals "isinstance" = some none)
    (z5 : PySem.W.nsIn K mainGlobals "len" = some none)
    (z6 : PySem.W.nsIn K mainGlobals "list" = some none)
    (z7 : PySem.W.nsIn K mainGlobals "max" = some none)
    (z8 : PySem.W.nsIn K mainGlobals "range" = some none)
    (z9 : PySem.W.nsIn K mainGlobals "repr" = some none)
    (z10 : PySem.W.nsIn K mainGlobals "super" = some none)
    (z11 : PySem.W.nsIn K mainGlobals "tuple" = some none)
    {gt0 : Tok} (jj0 : PySem.W.nsIn K mainGlobals "MOST_SETTINGS" = some (some (.int (24) gt0)))
    {gt1 : Tok} (jj1 : PySem.W.nsIn K mainGlobals "MOST_WORTHS" = some (some (.int (6) gt1)))
    (eD : PySem.W.nsIn K mainGlobals "Refused" = some (some (.ref D0)))
    (e1 : PySem.W.nsIn K mainGlobals "BadSizes" = some (some (.ref C1)))
    (e2 : PySem.W.nsIn K mainGlobals "BadPage" = some (some (.ref C2)))
    (e3 : PySem.W.nsIn K mainGlobals "BadEdit" = some (some (.ref C3)))
    (fi : PySem.W.findIn K (.ref C1) "__init__" = some (some (.ref fI)))
    (iF : InitF K PR fI D0)
    (o1 : K.lookup C1 = some (PySem.excClassObj nm1 qn1 C1 N1 bs1 bm1 true sn1 sub1 ab1 col1 dd1 ka1 kb1 kc1 kd1 ke1 "ValueError.__new__")) (r1 : PySem.HandSPX.refsVE bm1 = true) (x1 : excB K C1 fI D0 = true)
    (o2 : K.lookup C2 = some (PySem.excClassObj nm2 qn2 C2 N2 bs2 bm2 true sn2 sub2 ab2 col2 dd2 ka2 kb2 kc2 kd2 ke2 "ValueError.__new__")) (r2 : PySem.HandSPX.refsVE bm2 = true) (x2 : excB K C2 fI D0 = true)
    (o3 : K.lookup C3 = some (PySem.excClassObj nm3 qn3 C3 N3 bs3 bm3 true sn3 sub3 ab3 col3 dd3 ka3 kb3 kc3 kd3 ke3 "ValueError.__new__")) (r3 : PySem.HandSPX.refsVE bm3 = true) (x3 : excB K C3 fI D0 = true)
    (h0 : PySem.W.nsIn K mainGlobals "Refused" = some (some (.ref T0)))
    (m0y1 : PySem.W.exmOne K (.ref C1) (.ref T0) = some true ∧ PySem.W.kitOne K (.ref C1) (.ref T0) = some true)
    (m0y2 : PySem.W.exmOne K (.ref C2) (.ref T0) = some true ∧ PySem.W.kitOne K (.ref C2) (.ref T0) = some true)
    (m0y3 : PySem.W.exmOne K (.ref C3) (.ref T0) = some true ∧ PySem.W.kitOne K (.ref C3) (.ref T0) = some true)
    (h1 : PySem.W.nsIn K mainGlobals "BadSizes" = some (some (.ref T1)))
    (m1y1 : PySem.W.exmOne K (.ref C1) (.ref T1) = some true ∧ PySem.W.kitOne K (.ref C1) (.ref T1) = some true)
    (m1n2 : PySem.W.exmOne K (.ref C2) (.ref T1) = some false ∧ PySem.W.kitOne K (.ref C2) (.ref T1) = some false)
    (m1n3 : PySem.W.exmOne K (.ref C3) (.ref T1) = some false ∧ PySem.W.kitOne K (.ref C3) (.ref T1) = some false)
    (h2 : PySem.W.nsIn K mainGlobals "BadPage" = some (some (.ref T2)))
    (m2y2 : PySem.W.exmOne K (.ref C2) (.ref T2) = some true ∧ PySem.W.kitOne K (.ref C2) (.ref T2) = some true)
    (m2n1 : PySem.W.exmOne K (.ref C1) (.ref T2) = some false ∧ PySem.W.kitOne K (.ref C1) (.ref T2) = some false)
    (m2n3 : PySem.W.exmOne K (.ref C3) (.ref T2) = some false ∧ PySem.W.kitOne K (.ref C3) (.ref T2) = some false)
    (h3 : PySem.W.nsIn K mainGlobals "BadEdit" = some (some (.ref T3)))
    (m3y3 : PySem.W.exmOne K (.ref C3) (.ref T3) = some true ∧ PySem.W.kitOne K (.ref C3) (.ref T3) = some true)
    (m3n1 : PySem.W.exmOne K (.ref C1) (.ref T3) = some false ∧ PySem.W.kitOne K (.ref C1) (.ref T3) = some false)
    (m3n2 : PySem.W.exmOne K (.ref C2) (.ref T3) = some false ∧ PySem.W.kitOne K (.ref C2) (.ref T3) = some false)
    (h4 : PySem.W.nsIn K mainGlobals "ValueError" = some none)
    (m4y1 : PySem.W.exmOne K (.ref C1) (.type "ValueError") = some true ∧ PySem.W.kitOne K (.ref C1) (.type "ValueError") = some true)
    (m4y2 : PySem.W.exmOne K (.ref C2) (.type "ValueError") = some true ∧ PySem.W.kitOne K (.ref C2) (.type "ValueError") = some true)
    (m4y3 : PySem.W.exmOne K (.ref C3) (.type "ValueError") = some true ∧ PySem.W.kitOne K (.ref C3) (.type "ValueError") = some true)
    (uq : (([(tc35, tp35, some ("_law_sizes_right.<locals>.<lambda>" : Str)), (tc36, tp36, some ("_law_page_right.<locals>.<lambda>" : Str)), (tc37, tp37, some ("_law_edit_right.<locals>.<lambda>" : Str))] : List (Addr × Addr × Option Str)).all fun p => ([(tc35, tp35, some ("_law_sizes_right.<locals>.<lambda>" : Str)), (tc36, tp36, some ("_law_page_right.<locals>.<lambda>" : Str)), (tc37, tp37, some ("_law_edit_right.<locals>.<lambda>" : Str))] : List (Addr × Addr × Option Str)).all fun q => !decide (p.2.1 = q.2.1) || decide (p.2.2 = q.2.2)) = true)
    : ∃ cl : Cl, Here lib K mg PR cl ∧ ∃ fd : FuncData, Fun K dx38.x dx38.x dx38.st fa fd ∧ TabF K dx38 fd ∧ ∀ (s : Shared) (u : Value), BindsTo s fd ⟨[u], []⟩ [("script", u)] := by
  obtain ⟨cl, B, fd, F, T, e, b⟩ := here (PR := PR) X G a0 l0 c0 k0 a1 l1 c1 k1 a2 l2 c2 k2 a3 l3 c3 k3 a4 l4 c4 k4 a5 l5 c5 k5 a6 l6 c6 k6 a7 l7 c7 k7 a8 l8 c8 k8 a9 l9 c9 k9 a10 l10 c10 k10 a11 l11 c11 k11 a12 l12 c12 k12 a13 l13 c13 k13 a14 l14 c14 k14 a15 l15 c15 k15 a16 l16 c16 k16 a17 l17 c17 k17 a18 l18 c18 k18 a19 l19 c19 k19 a20 l20 c20 k20 a21 l21 c21 k21 a22 l22 c22 k22 a23 l23 c23 k23 a24 l24 c24 k24 a25 l25 c25 k25 a26 l26 c26 k26 a27 l27 c27 k27 a28 l28 c28 k28 a29 l29 c29 k29 a30 l30 c30 k30 a31 l31 c31 k31 a32 l32 c32 k32 a33 l33 c33 k33 a34 l34 c34 k34 a35 l35 c35 k35 a36 l36 c36 k36 a37 l37 c37 k37 a38 l38 c38 k38 t35 v35 u35 t36 v36 u36 t37 v37 u37 z0 z1 z2 z3 z4 z5 z6 z7 z8 z9 z10 z11 jj0 jj1 eD e1 e2 e3 fi iF o1 r1 x1 o2 r2 x2 o3 r3 x3 h0 m0y1 m0y2 m0y3 h1 m1y1 m1n2 m1n3 h2 m2y2 m2n1 m2n3 h3 m3y3 m3n1 m3n2 h4 m4y1 m4y2 m4y3 uq
  cases hmg.symm.trans e
  exact ⟨cl, B, fd, F, T, b⟩
end
def pg (xs : List Int) : D := .tuple (xs.map .int)
theorem succ_of {k n : Nat} (h : n + 1 ≤ k) : ∃ m, k = m + 1 ∧ n ≤ m := ⟨k - 1, by omega, by omega⟩
theorem at_pg {xs : List Int} {i : Nat} (h : i < xs.length) : atI (xs.map PyData.int) (i : Int) = some (.int xs[i]) := by
  refine atI_nat (j := i) ?_
  simp [h]
def J (a b : Int) : D := .list [.int a, .int b]
theorem mulOk_l {i j : Int} (h1 : -(2 ^ 64) < i) (h2 : i < 2 ^ 64) : mulOk i j = true := by simp only [mulOk, decide_eq_true h1, decide_eq_true h2]; rfl
theorem mulOk_r {i j : Int} (h1 : -(2 ^ 64) < j) (h2 : j < 2 ^ 64) : mulOk i j = true := by simp only [mulOk, decide_eq_true h1, decide_eq_true h2]; simp
theorem s14 (k : Nat) (a b top : Int) (h0 : 0 < top) (h1 : top < 2 ^ 64) : ∃ r a' b', 0 ≤ r ∧ r < top ∧ den lib.tb (k + 1) 14 [(J a b, true), (.int top, false)] = .ok (.int r) false [some (J a' b', true), some (.int top, false)] := by
  rw [den_s tb14]
  have h2 : top < 2 ^ 200 := by omega
  simp only [Int.reducePow] at h1 h2
  by_cases ha : 0 < a
  · refine ⟨a % top, a / top, b, Int.emod_nonneg _ (by omega), Int.emod_lt_of_pos _ h0, ?_⟩
    simp [ir14, J, atI, ixN, ha, h0, h2]
  · have q1 : mulOk b 39373 = true := mulOk_r (by decide) (by decide)
    have q2 : mulOk ((b * 39373 + 7) % 2147483647) ((b * 39373 + 7) % 2147483647) = true := mulOk_l (by omega) (by omega)
    refine ⟨((b * 39373 + 7) % 2147483647 * ((b * 39373 + 7) % 2147483647)) % 2147483629 / 32 % top, a, (b * 39373 + 7) % 2147483647, Int.emod_nonneg _ (by omega), Int.emod_lt_of_pos _ h0, ?_⟩
    simp [ir14, J, atI, ixN, ha, h0, h2, q1, q2]
/-- any jar -/
def Jr (d : D) : Prop := ∃ a b, d = J a b
theorem take {k : Nat} (hk : 1 ≤ k) {j : D} (hj : Jr j) (top : Int) (h0 : 0 < top) (h1 : top < 2 ^ 64) : ∃ r j', 0 ≤ r ∧ r < top ∧ Jr j' ∧ den lib.tb k 14 [(j, true), (.int top, false)] = .ok (.int r) false [some (j', true), some (.int top, false)] := by
  obtain ⟨k, rfl, _⟩ := succ_of hk
  obtain ⟨a, b, rfl⟩ := hj
  obtain ⟨r, a', b', q1, q2, q3⟩ := s14 k a b top h0 h1
  exact ⟨r, _, q1, q2, ⟨a', b', rfl⟩, q3⟩
theorem one {k : Nat} (hk : 2 ≤ k) {j : D} (hj : Jr j) (xs : List D) (own : Bool) (h0 : 0 < xs.length) (h1 : xs.length < 2 ^ 60) : ∃ (i : Nat) (j' : D), i < xs.length ∧ Jr j' ∧ den lib.tb k 15 [(j, true), (.list xs, own)] = .ok (xs.getD i .none) false [some (j', true), some (.list xs, own)] := by
  obtain ⟨k, rfl, hk'⟩ := succ_of hk
  obtain ⟨r, j', q1, q2, q3, q4⟩ := take hk' hj xs.length (by omega) (by omega)
  obtain ⟨n, rfl⟩ : ∃ n : Nat, r = n := ⟨r.toNat, by omega⟩
  refine ⟨n, j', by omega, q3, ?_⟩
  rw [den_s tb15]
  have hn : n < xs.length := by omega
  have e : atI xs (n : Int) = some (xs.getD n .none) := atI_nat (j := n) (by simp [hn])
  cases own <;> simp [ir15, q4, e]
theorem pool {k : Nat} (hk : 1 ≤ k) (ns : List Int) (i : Nat) (hi : i ≤ 63) (hl : ns.length ≤ 63) : ∃ j, Jr j ∧ den lib.tb k 13 [(.list (ns.map .int), false), (.int i, false)] = .ok j true [some (.list (ns.map .int), false), some (.int i, false)] := by
  obtain ⟨k, rfl, _⟩ := succ_of hk
  rw [den_s tb13]
  have m1 : ∀ x : Int, mulOk x 31 = true := fun x => mulOk_r (by decide) (by decide)
  have m2 : ∀ x : Int, mulOk 31 x = true := fun x => mulOk_l (by decide) (by decide)
  have m3 : ∀ x : Int, mulOk 7919 x = true := fun x => mulOk_l (by decide) (by decide)
  have m4 : ∀ x : Int, mulOk x 48271 = true := fun x => mulOk_r (by decide) (by decide)
  have m5 : ∀ x : Int, mulOk x i = true := fun x => mulOk_r (by omega) (by omega)
  have m6 : ∀ x : Int, mulOk x 0 = true := fun x => mulOk_r (by decide) (by decide)
  have m7 : ∀ x : Int, mulOk x 1 = true := fun x => mulOk_r (by decide) (by decide)
  have at0 : ∀ n : Nat, n < ns.length → atI (ns.map PyData.int) (n : Int) = some (.int (ns.getD n 0)) := fun n h => atI_nat (j := n) (by simp [h])
  suffices h : ∃ a b, runF (den lib.tb k) fd13 [(.list (ns.map .int), false), (.int i, false)] = .ok (.list [.int a, .int b]) true [some (.list (ns.map .int), false), some (.int i, false)] by
    obtain ⟨a, b, e⟩ := h
    exact ⟨_, ⟨a, b, rfl⟩, e⟩
  by_cases h1 : i < ns.length
  · have h1' : (i : Int) < ns.length := by omega
    simp [ir13, h1, h1', at0 i h1, m1, m2, m3, m4, m5, m6, m7]
    split <;> simp [m1, m2, m3, m4, m5, m6, m7]
  · have h1' : ¬ (i : Int) < ns.length := by omega
    by_cases h2 : ns = []
    · subst h2
      have hi0 : ¬ (i : Int) < 0 := by omega
      simp [ir13, hi0, m1, m2, m3, m4, m5, m6, m7]
    · have h3 : 0 < ns.length := by
        cases ns with
        | nil => exact absurd rfl h2
        | cons _ _ => simp
      have e0 := at0 0 h3
      have e0 : atI (ns.map PyData.int) 0 = some (.int (ns.getD 0 0)) := e0
      simp [ir13, h1', h2, h3, e0, m1, m2, m3, m4, m5, m6, m7]

end Lk00

namespace Lk00
open PySem PySem.Spec L2 Mv
open PyProof.Rows hiding St
theorem forL_first {S α : Type} {P : List Nat} {tg : Tg} {b : En → SR} {E : S → En} {fx : α → D} {p : α → Bool} {r : α → D} {o : Bool} : ∀ {l : List α}, (∀ a ∈ l, ∀ s, ∃ s', turnF P tg b (fx a) (E s) = if p a = true then .rt (r a) o (E s') else .nx (E s')) →
    ∀ s, ∃ s', forL P tg b (l.map fx) (E s) = match l.find? p with
      | some a => .rt (r a) o (E s')
      | none => .nx (E s')
  | [], _, s => ⟨s, rfl⟩
  | a :: l, h, s => by
    obtain ⟨s1, h1⟩ := h a List.mem_cons_self s
    cases e : p a with
    | true =>
      rw [e] at h1
      exact ⟨s1, by rw [List.map_cons, forL_cons, h1]; simp [e]⟩
    | false =>
      rw [e] at h1
      obtain ⟨s2, h2⟩ := forL_first (fun b hb => h b (List.mem_cons_of_mem _ hb)) s1
      refine ⟨s2, ?_⟩
      rw [List.map_cons, forL_cons, h1]
      simp only [Bool.false_eq_true, if_false, h2, List.find?_cons, e]
def gt (xs : List D) (i : Nat) : D := xs.getD i .none
theorem enum_gt (xs : List D) : enumD xs = (List.range xs.length).map fun (i : Nat) => .tuple [.int (i : Int), gt xs i] := enumD_eq xs
/-- a whole number from a to b -/
def num (d : D) (a b : Int) : Bool := match d with
  | .int i => decide (a ≤ i) && decide (i ≤ b)
  | _ => false
theorem s0 {k : Nat} (hk : 1 ≤ k) (d : D) (a b : Int) : den lib.tb k 0 [(d, false), (.int a, false), (.int b, false)] = .ok (.bool (num d a b)) false [some (d, false), some (.int a, false), some (.int b, false)] := by
  obtain ⟨k, rfl, _⟩ := succ_of hk
  rw [den_s tb0]
  cases d <;> simp [ir0, num, tyD, isiT]
  split <;> simp_all <;> (intro; omega)
theorem s1 {k : Nat} (hk : 2 ≤ k) (d : D) (b : Int) : den lib.tb k 1 [(d, false), (.int b, false)] = .ok (.bool (num d 0 (b - 1))) false [some (d, false), some (.int b, false)] := by
  obtain ⟨k, rfl, hk'⟩ := succ_of hk
  rw [den_s tb1]
  simp [ir1, s0 hk']
theorem s21 {k : Nat} (hk : 1 ≤ k) (d : D) (a b : Int) : den lib.tb k 21 [(d, false), (.int a, false), (.int b, false)] = .ok (.bool (num d a (b - 1))) false [some (d, false), some (.int a, false), some (.int b, false)] := by
  obtain ⟨k, rfl, _⟩ := succ_of hk
  rw [den_s tb21]
  have e : ∀ i : Int, decide (i < b) = decide (i ≤ b - 1) := fun i => by by_cases h : i < b <;> simp [h] <;> omega
  cases d <;> simp [ir21, num, tyD, isiT, e]
  split <;> simp_all <;> (intro; omega)
/-- the first place that is no size -/
def bad1 (xs : List D) : Option Nat := (List.range xs.length).find? fun i => !num (gt xs i) 1 6
def pl : Option Nat → D
  | some i => .int (i : Int)
  | none => .none
def wsz : D → D
  | .tuple xs => if 1 ≤ xs.length ∧ xs.length ≤ 24 then pl (bad1 xs) else .int (-1)
  | _ => .int (-1)
theorem getD_at {xs : List D} {i : Nat} (h : i < xs.length) : atI xs (i : Int) = some (gt xs i) := atI_nat (j := i) (by simp [gt, h])
theorem s2 {k : Nat} (hk : 2 ≤ k) (d : D) : den lib.tb k 2 [(d, false)] = .ok (wsz d) false [some (d, false)] := by
  obtain ⟨k, rfl, hk'⟩ := succ_of hk
  rw [den_s tb2]
  cases d with
  | tuple xs =>
    obtain ⟨⟨y, z⟩, e⟩ := forL_first (P := [0]) (tg := .tup [1, 2]) (b := dB (den lib.tb k) [0] (match ir2 with | .cons _ (.cons (.for_ _ _ b) _) => b | r => r)) (S := Sl × Sl) (E := fun s => [some (.tuple xs, false), s.1, s.2]) (fx := fun (i : Nat) => .tuple [.int (i : Int), gt xs i])
      (p := fun i => !num (gt xs i) 1 6) (r := fun i => .int (i : Int)) (o := false) (l := List.range xs.length) (fun i hi s => by
        obtain ⟨y, z⟩ := s
        refine ⟨(some (.int i, false), some (gt xs i, false)), ?_⟩
        have f := s0 hk' (gt xs i) 1 6
        cases hb : num (gt xs i) 1 6 <;> (rw [hb] at f; simp [turnF, ir2, f, hb])) (none, none)
    have f := s0 hk' (.int xs.length) 1 24
    have nl : num (.int xs.length) 1 24 = decide (1 ≤ xs.length ∧ xs.length ≤ 24) := by
      simp only [num, Bool.decide_and]
      congr 1 <;> (rw [decide_eq_decide]; omega)
    rw [nl] at f
    by_cases hl : 1 ≤ xs.length ∧ xs.length ≤ 24
    · rw [decide_eq_true hl] at f
      rw [show (List.range xs.length).find? (fun i => !num (gt xs i) 1 6) = bad1 xs from rfl] at e
      simp only [wsz, if_pos hl]
      cases hb : bad1 xs with
      | none =>
        rw [hb] at e
        simp [ir2, tyD, isiT, enum_gt] at e ⊢
        simp [f, enum_gt, e, pl]
      | some i =>
        rw [hb] at e
        simp [ir2, tyD, isiT, enum_gt] at e ⊢
        simp [f, enum_gt, e, pl]
    · rw [decide_eq_false hl] at f
      simp only [wsz, if_neg hl]
      simp [ir2, tyD, isiT, f]
  | _ => simp [ir2, tyD, isiT, wsz]
theorem s3 {k : Nat} (hk : 3 ≤ k) (d : D) : den lib.tb k 3 [(d, false)] = .ok (.bool (isNone (wsz d))) false [some (d, false)] := by
  obtain ⟨k, rfl, hk'⟩ := succ_of hk
  rw [den_s tb3]
  simp [ir3, s2 hk']
theorem s4 {k : Nat} (hk : 3 ≤ k) (d : D) : den lib.tb k 4 [(d, false)] = if isNone (wsz d) = true then .ok d false [some (d, false)] else .ex 1 (wsz d) [some (d, false)] := by
  obtain ⟨k, rfl, hk'⟩ := succ_of hk
  rw [den_s tb4]
  cases h : isNone (wsz d) <;> simp [ir4, s2 hk', h]
end Lk00

namespace Lk00
open PySem PySem.Spec L2 Mv
open PyProof.Rows hiding St
/-- good sizes -/
def Sz (l : List Int) : Prop := (∀ z ∈ l, 1 ≤ z ∧ z ≤ 6) ∧ 1 ≤ l.length ∧ l.length ≤ 24
theorem wsz_ok {d : D} (h : isNone (wsz d) = true) : ∃ ss, Sz ss ∧ d = pg ss := by
  cases d with
  | tuple xs =>
    simp only [wsz] at h
    split at h
    · rename_i hl
      cases hb : bad1 xs with
      | some i => rw [hb] at h; cases h
      | none =>
        have hall := List.find?_eq_none.mp hb
        have each : ∀ x ∈ xs, ∃ z : Int, x = .int z ∧ 1 ≤ z ∧ z ≤ 6 := fun x hx => by
          obtain ⟨i, hi, rfl⟩ := List.getElem_of_mem hx
          have := hall i (List.mem_range.mpr hi)
          simp only [gt, List.getD_eq_getElem?_getD, List.getElem?_eq_getElem hi, Option.getD_some, Bool.not_eq_true', Bool.not_eq_false] at this
          cases q : xs[i] with
          | int z =>
            rw [q] at this
            simp only [num, Bool.and_eq_true, decide_eq_true_eq] at this
            exact ⟨z, rfl, this⟩
          | _ => rw [q] at this; simp [num] at this
        have lst : ∀ l : List D, (∀ x ∈ l, ∃ z : Int, x = .int z ∧ 1 ≤ z ∧ z ≤ 6) → ∃ zs : List Int, l = zs.map .int ∧ ∀ z ∈ zs, 1 ≤ z ∧ z ≤ 6 := by
          intro l
          induction l with
          | nil => intro _; exact ⟨[], rfl, fun z hz => nomatch hz⟩
          | cons x l ih =>
            intro h
            obtain ⟨z, rfl, z1⟩ := h x List.mem_cons_self
            obtain ⟨zs, rfl, h2⟩ := ih fun y hy => h y (List.mem_cons_of_mem _ hy)
            refine ⟨z :: zs, rfl, fun y hy => ?_⟩
            rcases List.mem_cons.mp hy with rfl | hy
            · exact z1
            · exact h2 y hy
        obtain ⟨zs, rfl, h2⟩ := lst xs each
        exact ⟨zs, ⟨h2, by simpa using hl⟩, rfl⟩
    · cases h
  | _ => simp [wsz, isNone] at h
theorem gt_pg {xs : List Int} {i : Nat} (h : i < xs.length) : gt (xs.map .int) i = .int xs[i] := by simp [gt, h]
theorem wsz_good {ss : List Int} (h : Sz ss) : wsz (pg ss) = .none := by
  have hb : bad1 (ss.map .int) = none := List.find?_eq_none.mpr fun i hi => by
    have hi : i < ss.length := by simpa using hi
    have := h.1 ss[i] (List.getElem_mem hi)
    simp [gt_pg hi, num, this]
  simp only [pg, wsz, List.length_map, if_pos h.2, hb, pl]
/-- refused -/
def ref (c : Nat) (at_ : D) : D := .tuple [.str "refused", .tuple [.bool (decide (c = 1)), .bool (decide (c = 2)), .bool (decide (c = 3))], .bool true, at_]
def told (d : D) : D := .tuple [.str "told", d]
theorem s20 {k : Nat} (hk : 1 ≤ k) (d : D) : den lib.tb k 20 [(.str "sizes", false), (d, false)] = .ok (ref 1 d) false [some (.str "sizes", false), some (d, false)] ∧ den lib.tb k 20 [(.str "page", false), (d, false)] = .ok (ref 2 d) false [some (.str "page", false), some (d, false)] ∧
    den lib.tb k 20 [(.str "edit", false), (d, false)] = .ok (ref 3 d) false [some (.str "edit", false), some (d, false)] := by
  obtain ⟨k, rfl, _⟩ := succ_of hk
  rw [den_s tb20, den_s tb20, den_s tb20]
  refine ⟨?_, ?_, ?_⟩ <;> simp [ir20, ref] <;> decide
/-- what is due of sizes -/
def dueS (d : D) : D := if isNone (wsz d) = true then told d else ref 1 (wsz d)
theorem find_filter {α : Type} {p : α → Bool} : ∀ {l : List α}, (l.filter p).head? = l.find? p
  | [] => rfl
  | a :: l => by
    rw [List.filter_cons, List.find?_cons]
    split
    · rename_i h; rw [h]; rfl
    · rename_i h
      rw [find_filter]
      cases e : p a with
      | true => exact absurd e h
      | false => rfl
theorem s22 {k : Nat} (hk : 2 ≤ k) (d : D) : den lib.tb k 22 [(d, false)] = .ok (dueS d) false [some (d, false)] := by
  obtain ⟨k, rfl, hk'⟩ := succ_of hk
  rw [den_s tb22]
  obtain ⟨r1, _, _⟩ := s20 (k := k) hk' (.int (-1))
  cases d with
  | tuple xs =>
    by_cases hl : 1 ≤ xs.length ∧ xs.length ≤ 24
    · have e := lcW_pure (own := [2]) (tg := .name 2) (c := dT (den lib.tb k) (.not (.tr (.call 21 (.cons (.ix (.var 0) (.var 2)) (.cons (.lit (.int 1)) (.cons (.lit (.int 7)) .nil))))))) (e := dE (den lib.tb k) (.var 2)) (f := fun (i : Nat) => PyData.int (i : Int)) (ρ := [some (.tuple xs, false), none, none]) (l := List.range xs.length)
        (g := fun i => if (!num (gt xs i) 1 6) = true then some (.int (i : Int)) else none) (fun i hi => by
          have hi : i < xs.length := List.mem_range.mp hi
          have f := s21 (k := k) hk' (gt xs i) 1 7
          cases hb : num (gt xs i) 1 6 <;> (rw [show (7 : Int) - 1 = 6 from rfl, hb] at f; simp [turnW, getD_at hi, f, hb])) []
      have q1 : (1 : Int) ≤ xs.length := by omega
      have q2 : (xs.length : Int) ≤ 24 := by omega
      have n0 : -4611686018427387904 ≤ (xs.length : Int) := by omega
      have n1 : (xs.length : Int) ≤ 16777216 := by omega
      have hf : bad1 xs = ((List.range xs.length).filter fun i => !num (gt xs i) 1 6).head? := find_filter.symm
      have hm : ((List.range xs.length).filterMap fun i => if (!num (gt xs i) 1 6) = true then some (PyData.int (i : Int)) else none) = ((List.range xs.length).filter fun i => !num (gt xs i) 1 6).map fun (i : Nat) => PyData.int (i : Int) := by
        rw [← List.filterMap_eq_map, List.filterMap_filter]
        rfl
      rw [hm] at e
      have sub : ∀ i ∈ (List.range xs.length).filter fun i => !num (gt xs i) 1 6, i < xs.length := fun i hi => List.mem_range.mp (List.mem_filter.mp hi).1
      have few : ((List.range xs.length).filter fun i => !num (gt xs i) 1 6).length ≤ xs.length := Nat.le_trans (List.length_filter_le _ _) (by simp)
      generalize ((List.range xs.length).filter fun i => !num (gt xs i) 1 6) = F at e hf sub few
      have sh : SeqAt.shaped (.list (F.map fun (i : Nat) => PyData.int (i : Int))) = true := by
        refine sm_shaped (l := [24]) ?_ (by decide)
        simp only [sm, List.length_map, Bool.and_eq_true, decide_eq_true_eq, List.all_eq_true]
        refine ⟨by omega, fun d hd => ?_⟩
        obtain ⟨i, hi, rfl⟩ := List.mem_map.mp hd
        have := sub i hi
        simp only [sm, Bool.and_eq_true, decide_eq_true_eq]
        omega
      cases F with
      | nil =>
        have hw : wsz (.tuple xs) = .none := by simp [wsz, hl, hf, pl]
        simp only [dueS, hw]
        simp at e
        simp [ir22, tyD, isiT, q1, q2, n0, n1, rangeD, e, told, isNone]
      | cons i r =>
        have hw : wsz (.tuple xs) = .int i := by simp [wsz, hl, hf, pl]
        obtain ⟨r2, _, _⟩ := s20 (k := k) hk' (.int i)
        simp only [dueS, hw]
        simp at e sh
        simp [ir22, tyD, isiT, q1, q2, n0, n1, rangeD, e, sh, r2, isNone]
    · have hw : wsz (.tuple xs) = .int (-1) := by simp only [wsz, if_neg hl]
      simp only [dueS, hw]
      have q : ¬ ((1 : Int) ≤ xs.length ∧ (xs.length : Int) ≤ 24) := by omega
      by_cases q1 : (1 : Int) ≤ xs.length
      · have q2 : ¬ (xs.length : Int) ≤ 24 := fun z => q ⟨q1, z⟩
        simp [ir22, tyD, isiT, q1, q2, r1, isNone]
      · simp [ir22, tyD, isiT, q1, r1, isNone]
  | _ => simp [ir22, tyD, isiT, dueS, wsz, r1, isNone]
end Lk00

namespace Mv
open PySem PySem.Spec L2
open PyProof.Rows hiding St
theorem fineA2 {l : List Nat} : ∀ {xs : List D}, (∀ x ∈ xs, Fine l x) → FineA l xs
  | [], _ => ⟨rfl, rfl, rfl, by simp [PyData.weightAll], by simp [PyData.depthAll], rfl⟩
  | x :: xs, q => by
    have f := q x List.mem_cons_self
    have g := fineA2 fun y hy => q y (List.mem_cons_of_mem _ hy)
    refine ⟨by simp [PyData.showableAll, f.a, g.a], by simp [PyData.hasDictAll, f.b, g.b], by simp [PyData.leavesShortAll, f.c, g.c], ?_, ?_, by simp [PyData.canLayAll0, f.f, g.f]⟩
    · have := f.d
      have := g.d
      simp only [PyData.weightAll, List.length_cons, Nat.add_mul, Nat.one_mul]
      omega
    · have := f.e
      have := g.e
      simp only [PyData.depthAll]
      omega
theorem fine_tup {m : Nat} {r : List Nat} {xs : List D} (h1 : xs.length ≤ m) (h2 : ∀ x ∈ xs, Fine r x) : Fine (m :: r) (.tuple xs) := by
  have g := fineA2 h2
  have := Nat.mul_le_mul_right (wt r + 1) h1
  exact ⟨by simpa only [PyData.showable] using g.a, by simpa only [PyData.hasDict] using g.b, by simpa only [PyData.leavesShort] using g.c, by simp only [PyData.weight, wt]; have := g.d; omega, by simp only [PyData.depth, List.length_cons]; have := g.e; omega, by simpa only [PyData.canLay0] using g.f⟩
theorem fine_str {l : List Nat} {x : Str} (hf : (PyData.str x).canLay0 = true) (h : (x.cps.toList.all fun c => decide (c < 16 ^ 8)) = true) (hs : x.cps.size ≤ 41) : Fine l (.str x) :=
  ⟨rfl, rfl, h, Nat.le_trans hs (wt_41 l), by simp [PyData.depth], hf⟩
theorem fine_bool {l : List Nat} {b : Bool} : Fine l (.bool b) := ⟨rfl, rfl, rfl, by simp [PyData.weight], by simp [PyData.depth], rfl⟩
theorem fine_repr {l : List Nat} {d : D} (f : Fine l d) (h1 : wt l ≤ 2 ^ 20) (h2 : l.length ≤ 64) : reprOk d = true := by
  have g := PyData.shown_fits (B := 13) (by decide) (by decide) f.c (Nat.le_trans f.d h1)
  simp only [reprOk, Bool.and_eq_true, decide_eq_true_eq, Bool.not_eq_true']
  exact ⟨⟨⟨f.a, f.b⟩, g⟩, Nat.le_trans f.e h2⟩
end Mv
namespace Lk00
open PySem PySem.Spec L2 Mv
open PyProof.Rows hiding St
theorem lf19 {Φ : Fn} {d : D} {b : Bool} : lamF lib.tb Φ 2000019 [(d, b)] = runT Φ fd19 (decD d) := lamF_at (f := 19) rfl tb19
theorem exiR_i {yes no : List Nat} {ρ : En} {i : Int} {b : Bool} {o : En} : exiR yes no ρ (.ok (.int i) b o) = if yes.contains i.toNat = true then .ok (.val (.bool true) false) ρ else if no.contains i.toNat = true then .ok (.val (.bool false) false) ρ else .bad := (rfl)
theorem h_ok {Φ : Fn} {d : D} : runT Φ fd19 (.ok d false []) = .ok (told d) false [] := by simp [ir19, told]
theorem h_ex {Φ : Fn} {c : Nat} {p : D} (hc : c = 1 ∨ c = 2 ∨ c = 3) : runT Φ fd19 (.ex c p []) = .ok (ref c p) false [] := by
  rcases hc with rfl | rfl | rfl <;> simp [ir19, ref, exiR_i]
theorem hd_ok {Φ : Fn} {d : D} {b : Bool} : lamF lib.tb Φ 2000019 [(.tuple [.none, d], b)] = .ok (told d) false [] := by rw [lf19, decD_ok, h_ok]
theorem hd_1 {Φ : Fn} {p : D} {b : Bool} : lamF lib.tb Φ 2000019 [(.tuple [.int 1, p], b)] = .ok (ref 1 p) false [] := by
  rw [lf19, show decD (.tuple [.int 1, p]) = .ex 1 p [] from decD_ex (c := 1), h_ex (.inl rfl)]
theorem hd_2 {Φ : Fn} {p : D} {b : Bool} : lamF lib.tb Φ 2000019 [(.tuple [.int 2, p], b)] = .ok (ref 2 p) false [] := by
  rw [lf19, show decD (.tuple [.int 2, p]) = .ex 2 p [] from decD_ex (c := 2), h_ex (.inr (.inl rfl))]
theorem hd_3 {Φ : Fn} {p : D} {b : Bool} : lamF lib.tb Φ 2000019 [(.tuple [.int 3, p], b)] = .ok (ref 3 p) false [] := by
  rw [lf19, show decD (.tuple [.int 3, p]) = .ex 3 p [] from decD_ex (c := 3), h_ex (.inr (.inr rfl))]
/-- small places -/
def At (p : D) : Prop := ∃ i : Int, p = .int i ∧ -1 ≤ i ∧ i ≤ 1000000
theorem rep_ref {c : Nat} {p : D} (h : At p) : reprOk (ref c p) = true := by
  obtain ⟨i, rfl, h1, h2⟩ := h
  refine fine_repr (l := [4, 3]) (fine_tup (by simp) fun x hx => ?_) (by decide) (by decide)
  simp only [List.mem_cons, List.not_mem_nil, or_false] at hx
  rcases hx with rfl | rfl | rfl | rfl
  · exact fine_str (by decide +kernel) (by decide +kernel) (by decide +kernel)
  · refine fine_tup (by simp) fun x hx => ?_
    simp only [List.mem_cons, List.not_mem_nil, or_false] at hx
    rcases hx with rfl | rfl | rfl <;> exact fine_bool
  · exact fine_bool
  · exact fine_int (by omega) (by omega)
theorem rep_told {m : Nat} {r : List Nat} {d : D} (h : Fine (m :: r) d) (h1 : wt (2 :: m :: r) ≤ 2 ^ 20) (h2 : (2 :: m :: r).length ≤ 64) : reprOk (told d) = true := by
  refine fine_repr (l := 2 :: m :: r) (fine_tup (by simp) fun x hx => ?_) h1 h2
  simp only [List.mem_cons, List.not_mem_nil, or_false] at hx
  rcases hx with rfl | rfl
  · exact fine_str (by decide +kernel) (by decide +kernel) (by decide +kernel)
  · exact h
theorem fine_sz {ss : List Int} (h : Sz ss) : Fine [24] (pg ss) := by
  refine fine_tup (by simpa using h.2.2) fun x hx => ?_
  obtain ⟨z, hz, rfl⟩ := List.mem_map.mp hx
  have := h.1 z hz
  exact fine_int (by omega) (by omega)
theorem wsz_at {d : D} (h : isNone (wsz d) = false) : At (wsz d) := by
  cases d with
  | tuple xs =>
    simp only [wsz] at h ⊢
    split at h
    · rename_i hl
      rw [if_pos hl]
      cases hb : bad1 xs with
      | none => rw [hb] at h; simp [pl, isNone] at h
      | some i =>
        have := List.mem_range.mp (List.mem_of_find?_eq_some hb)
        exact ⟨i, rfl, by omega, by omega⟩
    · rename_i hl
      rw [if_neg hl]
      exact ⟨-1, rfl, by omega, by omega⟩
  | _ => exact ⟨-1, rfl, by omega, by omega⟩
theorem rep_dueS {d : D} : reprOk (dueS d) = true := by
  unfold dueS
  split
  · rename_i h
    obtain ⟨ss, hs, rfl⟩ := wsz_ok h
    exact rep_told (fine_sz hs) (by decide) (by decide)
  · rename_i h
    exact rep_ref (wsz_at (by simpa using h))
/-- repr(heard) == repr(due) and repr(judged) == repr(due[0] == 'told') -/
theorem s34t {k : Nat} (hk : 1 ≤ k) {d : D} (hr : reprOk (told d) = true) : den lib.tb k 34 [(told d, false), (.bool true, false), (told d, false)] = .ok (.bool true) false [some (told d, false), some (.bool true, false), some (told d, false)] := by
  obtain ⟨k, rfl, _⟩ := succ_of hk
  rw [den_s tb34]
  have rb : ∀ b : Bool, reprOk (.bool b) = true := fun b => fine_repr (l := []) fine_bool (by decide) (by decide)
  simp only [told] at hr ⊢
  simp [ir34, hr, rb]
theorem s34r {k : Nat} (hk : 1 ≤ k) {c : Nat} {p : D} (hr : reprOk (ref c p) = true) : den lib.tb k 34 [(ref c p, false), (.bool false, false), (ref c p, false)] = .ok (.bool true) false [some (ref c p, false), some (.bool false, false), some (ref c p, false)] := by
  obtain ⟨k, rfl, _⟩ := succ_of hk
  rw [den_s tb34]
  have rb : ∀ b : Bool, reprOk (.bool b) = true := fun b => fine_repr (l := []) fine_bool (by decide) (by decide)
  have n : decide (("refused" : Str) = "told") = false := by decide
  simp only [ref] at hr ⊢
  simp [ir34, hr, rb, n]
theorem s35 {k : Nat} (hk : 4 ≤ k) (d : D) : den lib.tb k 35 [(d, false)] = .ok (.bool true) false [some (d, false)] := by
  obtain ⟨k, rfl, hk'⟩ := succ_of hk
  rw [den_sl tb35]
  have e1 := s22 (k := k) (by omega) d
  have e2 := s3 (k := k) (by omega) d
  have e3 := s4 (k := k) (by omega) d
  have r := rep_dueS (d := d)
  cases hn : isNone (wsz d) with
  | true =>
    rw [hn] at e2 e3
    have hd : dueS d = told d := by simp [dueS, hn]
    rw [hd] at e1 r
    have e4 := s34t (k := k) (by omega) r
    simp at e3
    simp [ir35, e1, e2, e3, hd_ok, e4]
  | false =>
    rw [hn] at e2 e3
    have hd : dueS d = ref 1 (wsz d) := by simp [dueS, hn]
    rw [hd] at e1 r
    have e4 := s34r (k := k) (by omega) r
    simp at e3
    simp [ir35, e1, e2, e3, hd_1, e4]
end Lk00

namespace Lk00
open PySem PySem.Spec L2 Mv
open PyProof.Rows hiding St
/-- sizes are good, or not -/
theorem sizes_or (d : D) : (isNone (wsz d) = false) ∨ ∃ ss, Sz ss ∧ d = pg ss := by
  cases h : isNone (wsz d) with
  | false => exact .inl rfl
  | true => exact .inr (wsz_ok h)
def badW (ss : List Int) (xs : List D) : Option Nat := (List.range xs.length).find? fun i => !num (gt xs i) 0 (ss.getD i 0 - 1)
def wwt (ss : List Int) : D → D
  | .tuple xs => if xs.length = ss.length then pl (badW ss xs) else .int (-1)
  | _ => .int (-1)
theorem at_sz {ss : List Int} {i : Nat} (h : i < ss.length) : atI (ss.map PyData.int) (i : Int) = some (.int (ss.getD i 0)) := by
  rw [at_pg h]
  simp [h]
theorem s5 {k : Nat} (hk : 3 ≤ k) {ss : List Int} (d : D) : den lib.tb k 5 [(pg ss, false), (d, false)] = .ok (wwt ss d) false [some (pg ss, false), some (d, false)] := by
  obtain ⟨k, rfl, hk'⟩ := succ_of hk
  rw [den_s tb5]
  cases d with
  | tuple xs =>
    by_cases hl : xs.length = ss.length
    · obtain ⟨⟨y, z⟩, e⟩ := forL_first (P := [0, 1]) (tg := .tup [2, 3]) (b := dB (den lib.tb k) [0, 1] (match ir5 with | .cons _ (.cons (.for_ _ _ b) _) => b | r => r)) (S := Sl × Sl) (E := fun s => [some (pg ss, false), some (.tuple xs, false), s.1, s.2]) (fx := fun (i : Nat) => .tuple [.int (i : Int), gt xs i])
        (p := fun i => !num (gt xs i) 0 (ss.getD i 0 - 1)) (r := fun i => .int (i : Int)) (o := false) (l := List.range xs.length) (fun i hi s => by
          obtain ⟨y, z⟩ := s
          have hi : i < ss.length := by have := List.mem_range.mp hi; omega
          refine ⟨(some (.int i, false), some (gt xs i, false)), ?_⟩
          have f := s1 hk' (gt xs i) (ss.getD i 0)
          have a := at_sz hi
          generalize ss.getD i 0 = w at f a ⊢
          cases hb : num (gt xs i) 0 (w - 1) <;> (rw [hb] at f; simp [turnF, ir5, pg, a, f, hb])) (none, none)
      rw [show (List.range xs.length).find? (fun i => !num (gt xs i) 0 (ss.getD i 0 - 1)) = badW ss xs from rfl] at e
      simp only [wwt, if_pos hl]
      have hl' : (xs.length : Int) = ss.length := by omega
      cases hb : badW ss xs with
      | none =>
        rw [hb] at e
        simp [ir5, pg] at e ⊢
        simp [tyD, isiT, hl', enum_gt, e, pl]
      | some i =>
        rw [hb] at e
        simp [ir5, pg] at e ⊢
        simp [tyD, isiT, hl', enum_gt, e, pl]
    · have hl' : ¬ (xs.length : Int) = ss.length := by omega
      simp only [wwt, if_neg hl]
      simp [ir5, pg, tyD, isiT, hl']
  | _ => simp [ir5, pg, tyD, isiT, wwt]
theorem wwt_at {ss : List Int} (hs : Sz ss) {d : D} (h : isNone (wwt ss d) = false) : At (wwt ss d) := by
  cases d with
  | tuple xs =>
    simp only [wwt] at h ⊢
    split at h
    · rename_i hl
      rw [if_pos hl]
      cases hb : badW ss xs with
      | none => rw [hb] at h; simp [pl, isNone] at h
      | some i =>
        have := List.mem_range.mp (List.mem_of_find?_eq_some hb)
        have := hs.2.2
        exact ⟨i, rfl, by omega, by omega⟩
    · rename_i hl
      rw [if_neg hl]
      exact ⟨-1, rfl, by omega, by omega⟩
  | _ => exact ⟨-1, rfl, by omega, by omega⟩
theorem wwt_fine {ss : List Int} (hs : Sz ss) {d : D} (h : isNone (wwt ss d) = true) : Fine [24] d := by
  cases d with
  | tuple xs =>
    simp only [wwt] at h
    split at h
    · rename_i hl
      cases hb : badW ss xs with
      | some i => rw [hb] at h; simp [pl, isNone] at h
      | none =>
        have hall := List.find?_eq_none.mp hb
        refine fine_tup (by have := hs.2.2; omega) fun x hx => ?_
        obtain ⟨i, hi, rfl⟩ := List.getElem_of_mem hx
        have q := hall i (List.mem_range.mpr hi)
        have hz := hs.1 (ss.getD i 0) (by
          have hi2 : i < ss.length := by omega
          rw [List.getD_eq_getElem?_getD, List.getElem?_eq_getElem hi2]
          exact List.getElem_mem hi2)
        generalize ss.getD i 0 = w at q hz
        simp only [gt, List.getD_eq_getElem?_getD, List.getElem?_eq_getElem hi, Option.getD_some, Bool.not_eq_true', Bool.not_eq_false] at q
        cases r : xs[i] with
        | int z =>
          rw [r] at q
          simp only [num, Bool.and_eq_true, decide_eq_true_eq] at q
          exact fine_int (by omega) (by omega)
        | _ => rw [r] at q; simp [num] at q
    · simp [isNone] at h
  | _ => simp [wwt, isNone] at h
/-- what is due of a page -/
def dueP (d t : D) (ss : List Int) : D := if isNone (wsz d) = true then (if isNone (wwt ss t) = true then told t else ref 2 (wwt ss t)) else ref 1 (wsz d)
theorem s23 {k : Nat} (hk : 3 ≤ k) (d t : D) (ss : List Int) (h : isNone (wsz d) = true → Sz ss ∧ d = pg ss) : den lib.tb k 23 [(d, false), (t, false)] = .ok (dueP d t ss) false [some (d, false), some (t, false)] := by
  obtain ⟨k, rfl, hk'⟩ := succ_of hk
  rw [den_s tb23]
  have e0 := s22 hk' d
  have ne : decide (("told" : Str) = "refused") = false := by decide
  cases hn : isNone (wsz d) with
  | false =>
    have hd : dueS d = ref 1 (wsz d) := by simp [dueS, hn]
    rw [hd] at e0
    simp only [dueP, hn, Bool.false_eq_true, if_false]
    simp only [ref] at e0 ⊢
    simp [ir23, e0]
  | true =>
    obtain ⟨hs, rfl⟩ := h hn
    have hd : dueS (pg ss) = told (pg ss) := by simp [dueS, hn]
    rw [hd] at e0
    simp only [dueP, hn, if_true]
    obtain ⟨_, r1, _⟩ := s20 (k := k) (by omega) (.int (-1))
    simp only [told, pg] at e0
    cases t with
    | tuple xs =>
      by_cases hl : xs.length = ss.length
      · have hl' : (xs.length : Int) = ss.length := by omega
        have hn2 := hs.2.2
        have n0 : -4611686018427387904 ≤ (ss.length : Int) := by omega
        have n1 : (ss.length : Int) ≤ 16777216 := by omega
        have e := lcW_pure (own := [4]) (tg := .name 4) (c := dT (den lib.tb k) (.not (.tr (.call 21 (.cons (.ix (.var 1) (.var 4)) (.cons (.lit (.int 0)) (.cons (.ix (.var 0) (.var 4)) .nil))))))) (e := dE (den lib.tb k) (.var 4)) (f := fun (i : Nat) => PyData.int (i : Int)) (ρ := [some (pg ss, false), some (.tuple xs, false), some (told (pg ss), false), none, none]) (l := List.range xs.length)
          (g := fun i => if (!num (gt xs i) 0 (ss.getD i 0 - 1)) = true then some (.int (i : Int)) else none) (fun i hi => by
            have hi : i < xs.length := List.mem_range.mp hi
            have hi2 : i < ss.length := by omega
            have f := s21 (k := k) (by omega) (gt xs i) 0 (ss.getD i 0)
            have a := at_sz hi2
            generalize ss.getD i 0 = w at f a ⊢
            cases hb : num (gt xs i) 0 (w - 1) <;> (rw [hb] at f; simp [turnW, getD_at hi, pg, a, f, hb])) []
        have hf : badW ss xs = ((List.range xs.length).filter fun i => !num (gt xs i) 0 (ss.getD i 0 - 1)).head? := find_filter.symm
        have hm : ((List.range xs.length).filterMap fun i => if (!num (gt xs i) 0 (ss.getD i 0 - 1)) = true then some (PyData.int (i : Int)) else none) = ((List.range xs.length).filter fun i => !num (gt xs i) 0 (ss.getD i 0 - 1)).map fun (i : Nat) => PyData.int (i : Int) := by
          rw [← List.filterMap_eq_map, List.filterMap_filter]
          rfl
        rw [hm] at e
        have sub : ∀ i ∈ (List.range xs.length).filter fun i => !num (gt xs i) 0 (ss.getD i 0 - 1), i < xs.length := fun i hi => List.mem_range.mp (List.mem_filter.mp hi).1
        have few : ((List.range xs.length).filter fun i => !num (gt xs i) 0 (ss.getD i 0 - 1)).length ≤ xs.length := Nat.le_trans (List.length_filter_le _ _) (by simp)
        generalize ((List.range xs.length).filter fun i => !num (gt xs i) 0 (ss.getD i 0 - 1)) = F at e hf sub few
        have sh : SeqAt.shaped (.list (F.map fun (i : Nat) => PyData.int (i : Int))) = true := by
          refine sm_shaped (l := [24]) ?_ (by decide)
          simp only [sm, List.length_map, Bool.and_eq_true, decide_eq_true_eq, List.all_eq_true]
          refine ⟨by omega, fun d hd => ?_⟩
          obtain ⟨i, hi, rfl⟩ := List.mem_map.mp hd
          have := sub i hi
          simp only [sm, Bool.and_eq_true, decide_eq_true_eq]
          omega
        simp only [told, pg] at e
        rw [hl] at e
        cases F with
        | nil =>
          have hw : wwt ss (.tuple xs) = .none := by simp [wwt, hl, hf, pl]
          rw [hw]
          simp at e
          simp [ir23, pg, e0, ne, tyD, isiT, hl', n0, n1, rangeD, e, isNone, told]
        | cons i r =>
          have hw : wwt ss (.tuple xs) = .int i := by simp [wwt, hl, hf, pl]
          rw [hw]
          obtain ⟨_, r2, _⟩ := s20 (k := k) (by omega) (.int i)
          simp at e sh
          simp [ir23, pg, e0, ne, tyD, isiT, hl', n0, n1, rangeD, e, sh, r2, isNone]
      · have hl' : ¬ (xs.length : Int) = ss.length := by omega
        have hw : wwt ss (.tuple xs) = .int (-1) := by simp only [wwt, if_neg hl]
        rw [hw]
        simp [ir23, pg, e0, ne, tyD, isiT, hl', r1, isNone]
    | _ => simp [ir23, pg, e0, ne, tyD, isiT, wwt, r1, isNone]
end Lk00

namespace Lk00
open PySem PySem.Spec L2 Mv
open PyProof.Rows hiding St
theorem s6 {k : Nat} (hk : 4 ≤ k) (d t : D) (ss : List Int) (h : isNone (wsz d) = true → Sz ss ∧ d = pg ss) : den lib.tb k 6 [(d, false), (t, false)] = .ok (.bool (isNone (wsz d) && isNone (wwt ss t))) false [some (d, false), some (t, false)] := by
  obtain ⟨k, rfl, hk'⟩ := succ_of hk
  rw [den_s tb6]
  have e1 := s3 (k := k) (by omega) d
  cases hn : isNone (wsz d) with
  | false =>
    rw [hn] at e1
    simp [ir6, e1]
  | true =>
    obtain ⟨hs, rfl⟩ := h hn
    rw [hn] at e1
    have e2 := s5 (k := k) (by omega) (ss := ss) t
    simp [ir6, e1, e2]
theorem s7 {k : Nat} (hk : 4 ≤ k) (d t : D) (ss : List Int) (h : isNone (wsz d) = true → Sz ss ∧ d = pg ss) : den lib.tb k 7 [(d, false), (t, false)] = if isNone (wsz d) = true then (if isNone (wwt ss t) = true then .ok t false [some (d, false), some (t, false)] else .ex 2 (wwt ss t) [some (d, false), some (t, false)]) else .ex 1 (wsz d) [some (d, false), some (t, false)] := by
  obtain ⟨k, rfl, hk'⟩ := succ_of hk
  rw [den_s tb7]
  have e1 := s4 (k := k) (by omega) d
  cases hn : isNone (wsz d) with
  | false =>
    rw [hn] at e1
    simp at e1
    simp [ir7, e1]
  | true =>
    obtain ⟨hs, rfl⟩ := h hn
    rw [hn] at e1
    simp at e1
    have e2 := s5 (k := k) (by omega) (ss := ss) t
    cases hw : isNone (wwt ss t) <;> simp [ir7, e1, e2, hw]
theorem s36 {k : Nat} (hk : 5 ≤ k) (d t : D) : den lib.tb k 36 [(d, false), (t, false)] = .ok (.bool true) false [some (d, false), some (t, false)] := by
  obtain ⟨k, rfl, hk'⟩ := succ_of hk
  have go : ∀ ss : List Int, (isNone (wsz d) = true → Sz ss ∧ d = pg ss) → den lib.tb (k + 1) 36 [(d, false), (t, false)] = .ok (.bool true) false [some (d, false), some (t, false)] := fun ss h => by
    rw [den_sl tb36]
    have e1 := s23 (k := k) (by omega) d t ss h
    have e2 := s6 (k := k) (by omega) d t ss h
    have e3 := s7 (k := k) (by omega) d t ss h
    cases hn : isNone (wsz d) with
    | false =>
      have hd : dueP d t ss = ref 1 (wsz d) := by simp [dueP, hn]
      rw [hd] at e1
      rw [hn] at e2 e3
      have e4 := s34r (k := k) (c := 1) (by omega) (rep_ref (wsz_at hn))
      simp at e2 e3
      simp [ir36, e1, e2, e3, hd_1, e4]
    | true =>
      obtain ⟨hs, _⟩ := h hn
      cases hw : isNone (wwt ss t) with
      | false =>
        have hd : dueP d t ss = ref 2 (wwt ss t) := by simp [dueP, hn, hw]
        rw [hd] at e1
        rw [hn, hw] at e2 e3
        have e4 := s34r (k := k) (c := 2) (by omega) (rep_ref (wwt_at hs hw))
        simp at e2 e3
        simp [ir36, e1, e2, e3, hd_2, e4]
      | true =>
        have hd : dueP d t ss = told t := by simp [dueP, hn, hw]
        rw [hd] at e1
        rw [hn, hw] at e2 e3
        have e4 := s34t (k := k) (by omega) (rep_told (wwt_fine hs hw) (by decide) (by decide))
        simp at e2 e3
        simp [ir36, e1, e2, e3, hd_ok, e4]
  rcases sizes_or d with h | ⟨ss, hs, rfl⟩
  · exact go [] fun z => by rw [h] at z; cases z
  · exact go ss fun _ => ⟨hs, rfl⟩
end Lk00

namespace Lk00
open PySem PySem.Spec L2 Mv
open PyProof.Rows hiding St
theorem s8 {k : Nat} (hk : 3 ≤ k) {ss : List Int} (t : D) : den lib.tb k 8 [(pg ss, false), (t, false)] = .ok (.bool (num t 0 (ss.length - 1))) false [some (pg ss, false), some (t, false)] := by
  obtain ⟨k, rfl, hk'⟩ := succ_of hk
  rw [den_s tb8]
  have f := s1 hk' t ss.length
  simp [ir8, pg, f]
def okp (ss : List Int) : D → Bool
  | .tuple [.int i, b] => num (.int i) 0 (ss.length - 1) && num b 0 (ss.getD i.toNat 0 - 1)
  | _ => false
def fstI : D → Int
  | .tuple (.int i :: _) => i
  | _ => 0
theorem okp_of {ss : List Int} {x : D} (h : okp ss x = true) : ∃ (i : Nat) (b : D), x = .tuple [.int i, b] ∧ i < ss.length ∧ num b 0 (ss.getD i 0 - 1) = true := by
  unfold okp at h
  split at h
  · rename_i i b
    simp only [num, Bool.and_eq_true, decide_eq_true_eq] at h
    obtain ⟨⟨h1, h2⟩, h3⟩ := h
    refine ⟨i.toNat, b, by rw [show ((i.toNat : Nat) : Int) = i by omega], by omega, h3⟩
  · cases h
theorem at_int {ss : List Int} {i : Int} (h1 : 0 ≤ i) (h2 : i ≤ ss.length - 1) : atI (ss.map PyData.int) i = some (.int (ss.getD i.toNat 0)) := by
  have := at_sz (ss := ss) (i := i.toNat) (by omega)
  rwa [show ((i.toNat : Nat) : Int) = i by omega] at this
theorem s9 {k : Nat} (hk : 4 ≤ k) {ss : List Int} (t : D) : den lib.tb k 9 [(pg ss, false), (t, false)] = .ok (.bool (okp ss t)) false [some (pg ss, false), some (t, false)] := by
  obtain ⟨k, rfl, hk'⟩ := succ_of hk
  rw [den_s tb9]
  cases t with
  | tuple xs =>
    match xs with
    | [] => simp [ir9, tyD, isiT, okp]
    | [a] => simp [ir9, tyD, isiT, okp]
    | [a, b] =>
      have f := s8 hk' (ss := ss) a
      cases a with
      | int i =>
        by_cases hi : 0 ≤ i ∧ i ≤ ss.length - 1
        · have g := s1 (k := k) (by omega) b (ss.getD i.toNat 0)
          have e : num (.int i) 0 (ss.length - 1) = true := by simp [num, hi]
          have a := at_int hi.1 hi.2
          rw [e] at f
          simp only [okp, e, Bool.true_and]
          generalize ss.getD i.toNat 0 = w at g a ⊢
          simp only [pg] at f
          simp [ir9, tyD, isiT, pg, f, a, g]
        · have e : num (.int i) 0 (ss.length - 1) = false := by
            simp only [num, Bool.and_eq_false_iff, decide_eq_false_iff_not]
            omega
          rw [e] at f
          simp only [okp, e, Bool.false_and]
          simp [ir9, tyD, isiT, f]
      | _ =>
        simp only [num] at f
        simp [ir9, tyD, isiT, f, okp]
    | a :: b :: c :: r =>
      have e : ¬ ((r.length : Int) + 1 + 1 + 1 = 2) := by omega
      simp [ir9, tyD, isiT, okp, e]
  | _ => simp [ir9, tyD, isiT, okp]
def scan (ss : List Int) : Int → Nat → List D → Option Nat
  | _, _, [] => none
  | last, i, x :: xs => if (okp ss x && decide (last < fstI x)) = true then scan ss (fstI x) (i + 1) xs else some i
def wed (ss : List Int) : D → D
  | .tuple xs => pl (scan ss (-1) 0 xs)
  | _ => .int (-1)
theorem loop10 {k : Nat} (hk : 4 ≤ k) {ss : List Int} {t : D} : ∀ (xs : List D) (i : Nat) (last : Int) (y z : Sl), ∃ l' y' z', forL [0, 1] (.tup [3, 4]) (dB (den lib.tb k) [0, 1] (match ir10 with | .cons _ (.cons _ (.cons (.for_ _ _ b) _)) => b | r => r)) ((xs.zipIdx i).map fun p => .tuple [.int p.2, p.1]) [some (pg ss, false), some (t, false), some (.int last, false), y, z] =
    match scan ss last i xs with
    | some j => .rt (.int j) false [some (pg ss, false), some (t, false), l', y', z']
    | none => .nx [some (pg ss, false), some (t, false), l', y', z']
  | [], i, last, y, z => ⟨some (.int last, false), y, z, rfl⟩
  | x :: xs, i, last, y, z => by
    have f := s9 hk (ss := ss) x
    cases hb : okp ss x with
    | false =>
      rw [hb] at f
      refine ⟨some (.int last, false), some (.int i, false), some (x, false), ?_⟩
      rw [List.zipIdx_cons, List.map_cons, forL_cons]
      simp [scan, hb, turnF, ir10, f]
    | true =>
      obtain ⟨a, b, rfl, ha, hb2⟩ := okp_of hb
      rw [hb] at f
      by_cases hl : last < (a : Int)
      · obtain ⟨l', y', z', e⟩ := loop10 hk (ss := ss) (t := t) xs (i + 1) a (some (.int i, false)) (some (.tuple [.int a, b], false))
        refine ⟨l', y', z', ?_⟩
        have nle : ¬ ((a : Int) ≤ last) := by omega
        rw [List.zipIdx_cons, List.map_cons, forL_cons]
        simp [ir10] at e
        simp [scan, hb, hl, fstI, turnF, ir10, f, nle, e]
      · have le : (a : Int) ≤ last := by omega
        refine ⟨some (.int last, false), some (.int i, false), some (.tuple [.int a, b], false), ?_⟩
        rw [List.zipIdx_cons, List.map_cons, forL_cons]
        simp [scan, hb, hl, fstI, turnF, ir10, f, le]
theorem s10 {k : Nat} (hk : 5 ≤ k) {ss : List Int} (t : D) : den lib.tb k 10 [(pg ss, false), (t, false)] = .ok (wed ss t) false [some (pg ss, false), some (t, false)] := by
  obtain ⟨k, rfl, hk'⟩ := succ_of hk
  rw [den_s tb10]
  cases t with
  | tuple xs =>
    obtain ⟨l', y', z', e⟩ := loop10 hk' (ss := ss) (t := .tuple xs) xs 0 (-1) none none
    cases hs : scan ss (-1) 0 xs with
    | none =>
      rw [hs] at e
      simp [ir10] at e ⊢
      simp [tyD, isiT, enumD, e, wed, hs, pl]
    | some j =>
      rw [hs] at e
      simp [ir10] at e ⊢
      simp [tyD, isiT, enumD, e, wed, hs, pl]
  | _ => simp [ir10, tyD, isiT, wed]
end Lk00

namespace Lk00
open PySem PySem.Spec L2 Mv
open PyProof.Rows hiding St
theorem s11 {k : Nat} (hk : 6 ≤ k) (d t : D) (ss : List Int) (h : isNone (wsz d) = true → Sz ss ∧ d = pg ss) : den lib.tb k 11 [(d, false), (t, false)] = .ok (.bool (isNone (wsz d) && isNone (wed ss t))) false [some (d, false), some (t, false)] := by
  obtain ⟨k, rfl, hk'⟩ := succ_of hk
  rw [den_s tb11]
  have e1 := s3 (k := k) (by omega) d
  cases hn : isNone (wsz d) with
  | false =>
    rw [hn] at e1
    simp [ir11, e1]
  | true =>
    obtain ⟨hs, rfl⟩ := h hn
    rw [hn] at e1
    have e2 := s10 (k := k) (by omega) (ss := ss) t
    simp [ir11, e1, e2]
theorem s12 {k : Nat} (hk : 6 ≤ k) (d t : D) (ss : List Int) (h : isNone (wsz d) = true → Sz ss ∧ d = pg ss) : den lib.tb k 12 [(d, false), (t, false)] = if isNone (wsz d) = true then (if isNone (wed ss t) = true then .ok t false [some (d, false), some (t, false)] else .ex 3 (wed ss t) [some (d, false), some (t, false)]) else .ex 1 (wsz d) [some (d, false), some (t, false)] := by
  obtain ⟨k, rfl, hk'⟩ := succ_of hk
  rw [den_s tb12]
  have e1 := s4 (k := k) (by omega) d
  cases hn : isNone (wsz d) with
  | false =>
    rw [hn] at e1
    simp at e1
    simp [ir12, e1]
  | true =>
    obtain ⟨hs, rfl⟩ := h hn
    rw [hn] at e1
    simp at e1
    have e2 := s10 (k := k) (by omega) (ss := ss) t
    cases hw : isNone (wed ss t) <;> simp [ir12, e1, e2, hw]
/-- with low one more than the last -/
theorem s24 {k : Nat} (hk : 2 ≤ k) {ss : List Int} {last : Int} (h0 : -1 ≤ last) (t : D) : den lib.tb k 24 [(pg ss, false), (.int (last + 1), false), (t, false)] = .ok (.bool (okp ss t && decide (last < fstI t))) false [some (pg ss, false), some (.int (last + 1), false), some (t, false)] := by
  obtain ⟨k, rfl, hk'⟩ := succ_of hk
  rw [den_s tb24]
  cases t with
  | tuple xs =>
    match xs with
    | [] => simp [ir24, tyD, isiT, okp]
    | [a] => simp [ir24, tyD, isiT, okp]
    | [a, b] =>
      have f := s21 hk' a (last + 1) ss.length
      cases a with
      | int i =>
        by_cases hi : last + 1 ≤ i ∧ i ≤ ss.length - 1
        · have g := s21 hk' b 0 (ss.getD i.toNat 0)
          have e : num (.int i) (last + 1) (ss.length - 1) = true := by simp [num, hi]
          have e2 : num (.int i) 0 (ss.length - 1) = true := by simp [num]; omega
          have a := at_int (ss := ss) (i := i) (by omega) hi.2
          have lt : last < i := by omega
          rw [e] at f
          simp only [okp, e2, Bool.true_and, fstI, decide_eq_true lt, Bool.and_true]
          generalize ss.getD i.toNat 0 = w at g a ⊢
          simp [ir24, tyD, isiT, pg, f, a, g, lt]
        · have e : num (.int i) (last + 1) (ss.length - 1) = false := by
            simp only [num, Bool.and_eq_false_iff, decide_eq_false_iff_not]
            omega
          have e2 : (okp ss (.tuple [.int i, b]) && decide (last < fstI (.tuple [.int i, b]))) = false := by
            cases hq : (okp ss (.tuple [.int i, b]) && decide (last < fstI (.tuple [.int i, b]))) with
            | false => rfl
            | true =>
              simp only [okp, fstI, Bool.and_eq_true, decide_eq_true_eq] at hq
              obtain ⟨⟨q1, _⟩, q3⟩ := hq
              have q3 : last < i := of_decide_eq_true q3
              simp only [num, Bool.and_eq_true, decide_eq_true_eq] at q1
              omega
          rw [e] at f
          rw [e2]
          simp [ir24, tyD, isiT, pg, f]
      | _ =>
        simp only [num] at f
        simp [ir24, tyD, isiT, pg, f, okp]
    | a :: b :: c :: r =>
      have e : ¬ ((r.length : Int) + 1 + 1 + 1 = 2) := by omega
      simp [ir24, tyD, isiT, okp, e]
  | _ => simp [ir24, tyD, isiT, okp]
theorem s20e {k : Nat} (hk : 1 ≤ k) (d : D) : den lib.tb k 20 [(.str "edit", false), (d, false)] = .ok (ref 3 d) false [some (.str "edit", false), some (d, false)] := (s20 hk d).2.2
theorem loop25 {k : Nat} (hk : 2 ≤ k) {ss : List Int} {xs : List D} {q : Sl} : ∀ (n i : Nat) (last : Int) (y : Sl), i + n = xs.length → -1 ≤ last → ∃ l' y', forL [0, 1] (.name 4) (dB (den lib.tb k) [0, 1] (match ir25 with | .cons _ (.cons _ (.cons _ (.cons _ (.cons (.for_ _ _ b) _)))) => b | r => r)) ((List.range' i n).map fun (j : Nat) => .int (j : Int)) [some (pg ss, false), some (.tuple xs, false), q, some (.int (last + 1), false), y] =
    match scan ss last i (xs.drop i) with
    | some j => .rt (ref 3 (.int j)) false [some (pg ss, false), some (.tuple xs, false), q, l', y']
    | none => .nx [some (pg ss, false), some (.tuple xs, false), q, l', y']
  | 0, i, last, y, h, _ => by
    rw [List.drop_eq_nil_of_le (by omega)]
    exact ⟨some (.int (last + 1), false), y, rfl⟩
  | n + 1, i, last, y, h, h0 => by
    have hi : i < xs.length := by omega
    have hd : xs.drop i = gt xs i :: xs.drop (i + 1) := by
      rw [List.drop_eq_getElem_cons hi]
      simp [gt, hi]
    have f := s24 hk h0 (ss := ss) (gt xs i)
    have a := getD_at hi
    rw [hd, List.range'_succ, List.map_cons, forL_cons]
    generalize hx : gt xs i = x at f a
    cases hb : okp ss x && decide (last < fstI x) with
    | false =>
      rw [hb] at f
      have r := s20e (k := k) (by omega) (.int i)
      refine ⟨some (.int (last + 1), false), some (.int i, false), ?_⟩
      simp only [scan, hb]
      simp [turnF, ir25, a, f, r]
    | true =>
      rw [hb] at f
      simp only [Bool.and_eq_true, decide_eq_true_eq] at hb
      obtain ⟨m, b, rfl, hm, hb2⟩ := okp_of hb.1
      have lt : last < (m : Int) := hb.2
      obtain ⟨l', y', e⟩ := loop25 hk (ss := ss) (xs := xs) (q := q) n (i + 1) m (some (.int i, false)) (by omega) (by omega)
      refine ⟨l', y', ?_⟩
      simp only [scan, hb.1, fstI, decide_eq_true lt, Bool.true_and, if_true]
      simp [ir25] at e
      simp [turnF, ir25, a, f, e, lt]
/-- what is due of an edit -/
def dueE (d t : D) (ss : List Int) : D := if isNone (wsz d) = true then (if isNone (wed ss t) = true then told t else ref 3 (wed ss t)) else ref 1 (wsz d)
theorem s25 {k : Nat} (hk : 3 ≤ k) (d t : D) (ss : List Int) (h : isNone (wsz d) = true → Sz ss ∧ d = pg ss) (hl : ∀ xs, t = .tuple xs → xs.length ≤ 1000) : den lib.tb k 25 [(d, false), (t, false)] = .ok (dueE d t ss) false [some (d, false), some (t, false)] := by
  obtain ⟨k, rfl, hk'⟩ := succ_of hk
  rw [den_s tb25]
  have e0 := s22 hk' d
  have ne : decide (("told" : Str) = "refused") = false := by decide
  cases hn : isNone (wsz d) with
  | false =>
    have hd : dueS d = ref 1 (wsz d) := by simp [dueS, hn]
    rw [hd] at e0
    simp only [dueE, hn, Bool.false_eq_true, if_false]
    simp only [ref] at e0 ⊢
    simp [ir25, e0]
  | true =>
    obtain ⟨hs, rfl⟩ := h hn
    have hd : dueS (pg ss) = told (pg ss) := by simp [dueS, hn]
    rw [hd] at e0
    simp only [dueE, hn, if_true]
    have r1 := s20e (k := k) (by omega) (.int (-1))
    simp only [told, pg] at e0
    cases t with
    | tuple xs =>
      have hl := hl xs rfl
      have n0 : -4611686018427387904 ≤ (xs.length : Int) := by omega
      have n1 : (xs.length : Int) ≤ 16777216 := by omega
      obtain ⟨l', y', e⟩ := loop25 (k := k) (by omega) (ss := ss) (xs := xs) (q := some (told (pg ss), false)) xs.length 0 (-1) none (by omega) (by omega)
      rw [List.drop_zero] at e
      rw [show List.range' 0 xs.length = List.range xs.length from List.range_eq_range'.symm] at e
      cases hsc : scan ss (-1) 0 xs with
      | none =>
        rw [hsc] at e
        have hw : wed ss (.tuple xs) = .none := by simp [wed, hsc, pl]
        rw [hw]
        simp only [told, pg] at e
        simp [ir25] at e
        simp [ir25, pg, e0, ne, tyD, isiT, n0, n1, rangeD, e, isNone, told]
      | some j =>
        rw [hsc] at e
        have hw : wed ss (.tuple xs) = .int j := by simp [wed, hsc, pl]
        rw [hw]
        simp only [told, pg] at e
        simp [ir25] at e
        simp [ir25, pg, e0, ne, tyD, isiT, n0, n1, rangeD, e, isNone]
    | _ => simp [ir25, pg, e0, ne, tyD, isiT, wed, r1, isNone]
end Lk00

namespace Lk00
open PySem PySem.Spec L2 Mv
open PyProof.Rows hiding St
theorem scan_lt {ss : List Int} : ∀ {xs : List D} {last : Int} {i j : Nat}, scan ss last i xs = some j → j < i + xs.length
  | [], _, _, _, h => by simp [scan] at h
  | x :: xs, last, i, j, h => by
    simp only [scan] at h
    split at h
    · have := scan_lt h
      simp only [List.length_cons]
      omega
    · cases h
      simp
theorem scan_all {ss : List Int} : ∀ {xs : List D} {last : Int} {i : Nat}, scan ss last i xs = none → ∀ x ∈ xs, okp ss x = true
  | [], _, _, _ => fun x hx => nomatch hx
  | y :: xs, last, i, h => fun x hx => by
    simp only [scan] at h
    split at h
    · rename_i c
      simp only [Bool.and_eq_true] at c
      rcases List.mem_cons.mp hx with rfl | hx
      · exact c.1
      · exact scan_all h x hx
    · cases h
theorem wed_at {ss : List Int} {d : D} (hl : ∀ xs, d = .tuple xs → xs.length ≤ 1000) (h : isNone (wed ss d) = false) : At (wed ss d) := by
  cases d with
  | tuple xs =>
    simp only [wed] at h ⊢
    cases hb : scan ss (-1) 0 xs with
    | none => rw [hb] at h; simp [pl, isNone] at h
    | some j =>
      have := scan_lt hb
      have := hl xs rfl
      exact ⟨j, rfl, by omega, by omega⟩
  | _ => exact ⟨-1, rfl, by omega, by omega⟩
theorem fine_num {b : D} {lo hi : Int} {l : List Nat} (h : num b lo hi = true) (h1 : -1000 ≤ lo) (h2 : hi ≤ 1000) : Fine l b := by
  cases b with
  | int z =>
    simp only [num, Bool.and_eq_true, decide_eq_true_eq] at h
    exact fine_int (by omega) (by omega)
  | _ => simp [num] at h
theorem wed_fine {ss : List Int} (hs : Sz ss) {d : D} (hl : ∀ xs, d = .tuple xs → xs.length ≤ 1000) (h : isNone (wed ss d) = true) : Fine [1000, 2] d := by
  cases d with
  | tuple xs =>
    simp only [wed] at h
    cases hb : scan ss (-1) 0 xs with
    | some j => rw [hb] at h; simp [pl, isNone] at h
    | none =>
      refine fine_tup (hl xs rfl) fun x hx => ?_
      obtain ⟨i, b, rfl, hi, hn⟩ := okp_of (scan_all hb x hx)
      have hz := hs.1 (ss.getD i 0) (by
        rw [List.getD_eq_getElem?_getD, List.getElem?_eq_getElem hi]
        exact List.getElem_mem hi)
      refine fine_tup (by simp) fun y hy => ?_
      simp only [List.mem_cons, List.not_mem_nil, or_false] at hy
      have := hs.2.2
      rcases hy with rfl | rfl
      · exact fine_int (by omega) (by omega)
      · exact fine_num hn (by omega) (by omega)
  | _ => simp [wed, isNone] at h
theorem s37 {k : Nat} (hk : 7 ≤ k) (d t : D) (hl : ∀ xs, t = .tuple xs → xs.length ≤ 1000) : den lib.tb k 37 [(d, false), (t, false)] = .ok (.bool true) false [some (d, false), some (t, false)] := by
  obtain ⟨k, rfl, hk'⟩ := succ_of hk
  have go : ∀ ss : List Int, (isNone (wsz d) = true → Sz ss ∧ d = pg ss) → den lib.tb (k + 1) 37 [(d, false), (t, false)] = .ok (.bool true) false [some (d, false), some (t, false)] := fun ss h => by
    rw [den_sl tb37]
    have e1 := s25 (k := k) (by omega) d t ss h hl
    have e2 := s11 (k := k) (by omega) d t ss h
    have e3 := s12 (k := k) (by omega) d t ss h
    cases hn : isNone (wsz d) with
    | false =>
      have hd : dueE d t ss = ref 1 (wsz d) := by simp [dueE, hn]
      rw [hd] at e1
      rw [hn] at e2 e3
      have e4 := s34r (k := k) (c := 1) (by omega) (rep_ref (wsz_at hn))
      simp at e2 e3
      simp [ir37, e1, e2, e3, hd_1, e4]
    | true =>
      obtain ⟨hs, _⟩ := h hn
      cases hw : isNone (wed ss t) with
      | false =>
        have hd : dueE d t ss = ref 3 (wed ss t) := by simp [dueE, hn, hw]
        rw [hd] at e1
        rw [hn, hw] at e2 e3
        have e4 := s34r (k := k) (c := 3) (by omega) (rep_ref (wed_at hl hw))
        simp at e2 e3
        simp [ir37, e1, e2, e3, hd_3, e4]
      | true =>
        have hd : dueE d t ss = told t := by simp [dueE, hn, hw]
        rw [hd] at e1
        rw [hn, hw] at e2 e3
        have e4 := s34t (k := k) (by omega) (rep_told (wed_fine hs hl hw) (by decide) (by decide))
        simp at e2 e3
        simp [ir37, e1, e2, e3, hd_ok, e4]
  rcases sizes_or d with h | ⟨ss, hs, rfl⟩
  · exact go [] fun z => by rw [h] at z; cases z
  · exact go ss fun _ => ⟨hs, rfl⟩
end Lk00

namespace Lk00
open PySem PySem.Spec L2 Mv
open PyProof.Rows hiding St
/-- odd things: comparable, not deep, not long -/
def Od (n : Nat) (d : D) : Prop := d.canLay0 = true ∧ d.depth ≤ n ∧ ∀ xs, d = .tuple xs → xs.length ≤ 1000
theorem Od.up {n m : Nat} {d : D} (h : Od n d) (hm : n ≤ m) : Od m d := ⟨h.1, Nat.le_trans h.2.1 hm, h.2.2⟩
theorem lay_all {xs : List D} {n : Nat} (h : ∀ x ∈ xs, Od n x) : PyData.canLayAll0 xs = true ∧ PyData.depthAll xs ≤ n := by
  induction xs with
  | nil => exact ⟨rfl, by simp [PyData.depthAll]⟩
  | cons x xs ih =>
    obtain ⟨h1, h2⟩ := ih fun y hy => h y (List.mem_cons_of_mem _ hy)
    obtain ⟨g1, g2, _⟩ := h x List.mem_cons_self
    exact ⟨by simp [PyData.canLayAll0, g1, h1], by simp only [PyData.depthAll]; omega⟩
theorem od_tup {xs : List D} {n : Nat} (h : ∀ x ∈ xs, Od n x) (hl : xs.length ≤ 1000) : Od (n + 1) (.tuple xs) := by
  obtain ⟨h1, h2⟩ := lay_all h
  exact ⟨by simpa only [PyData.canLay0] using h1, by simp only [PyData.depth]; omega, fun ys e => by cases e; exact hl⟩
theorem od_int {i : Int} {n : Nat} : Od n (.int i) := ⟨rfl, by simp [PyData.depth], fun xs e => nomatch e⟩
theorem od_bool {b : Bool} {n : Nat} : Od n (.bool b) := ⟨rfl, by simp [PyData.depth], fun xs e => nomatch e⟩
theorem od_none {n : Nat} : Od n .none := ⟨rfl, by simp [PyData.depth], fun xs e => nomatch e⟩
theorem od_str {x : Str} {n : Nat} (h : (PyData.str x).canLay0 = true) : Od n (.str x) := ⟨h, by simp [PyData.depth], fun xs e => nomatch e⟩
theorem od_shaped {xs : List D} {n : Nat} (h : ∀ x ∈ xs, Od n x) (hn : n ≤ 60) : SeqAt.shaped (.tuple xs) = true := by
  obtain ⟨h1, h2⟩ := lay_all h
  exact lay_shaped (by simpa only [PyData.canLay0] using h1) (by simp only [PyData.depth]; omega)
theorem getD_mem {xs : List D} {i : Nat} (h : i < xs.length) : xs.getD i .none ∈ xs := by
  rw [List.getD_eq_getElem?_getD, List.getElem?_eq_getElem h]
  exact List.getElem_mem h
theorem mem_cut {xs : List D} {lo hi : Option Int} {x : D} (h : x ∈ Mv.cutD xs lo hi) : x ∈ xs := List.mem_of_mem_drop (List.mem_of_mem_take h)
theorem len_cut {xs : List D} {lo hi : Option Int} : (Mv.cutD xs lo hi).length ≤ xs.length := by
  unfold Mv.cutD
  rw [List.length_take, List.length_drop]
  omega
theorem slF_t {xs : List D} {lo hi : Option Int} : slF (.tuple xs) lo hi = some (.tuple (Mv.cutD xs lo hi), false) := rfl
theorem oneOf {k : Nat} (hk : 2 ≤ k) {j : D} (hj : Jr j) (xs : List D) (own : Bool) (h0 : 0 < xs.length) (h1 : xs.length < 2 ^ 60) : ∃ (o : D) (j' : D), o ∈ xs ∧ Jr j' ∧ den lib.tb k 15 [(j, true), (.list xs, own)] = .ok o false [some (j', true), some (.list xs, own)] := by
  obtain ⟨p, j', p1, p2, p3⟩ := one hk hj xs own h0 h1
  exact ⟨_, j', getD_mem p1, p2, p3⟩
theorem nested {k : Nat} (hk : 2 ≤ k) {j : D} (hj : Jr j) : ∃ d j', Od 45 d ∧ Jr j' ∧ den lib.tb k 27 [(j, true)] = .ok d false [some (j', true)] := by
  obtain ⟨k, rfl, hk'⟩ := succ_of hk
  rw [den_s tb27]
  obtain ⟨t, j1, t1, t2, t3, t4⟩ := take hk' hj 6 (by omega) (by omega)
  obtain ⟨u, j2, u1, u2, u3, u4⟩ := take hk' t3 40 (by omega) (by omega)
  obtain ⟨⟨d, y⟩, ⟨h1, h2⟩, e⟩ := forL_ix (P := [0]) (tg := .name 2) (b := dB (den lib.tb k) [0] (match ir27 with | .cons _ (.cons (.for_ _ _ b) _) => b | r => r)) (S := D × Sl) (n := 0) (E := fun s => [some (j2, true), some (s.1, false), s.2])
    (I := fun n s => Od n s.1 ∧ ∀ xs, s.1 = .tuple xs → xs.length ≤ 1) (xs := rangeD (1 + u).toNat) (fun i x hx s hs => by
      obtain ⟨d, y⟩ := s
      have hd : Od (0 + i) d := hs.1
      refine ⟨(.tuple [d], some (x, false)), ⟨od_tup (fun z hz => by simp at hz; subst hz; exact hd) (by simp), fun xs e => by cases e; simp⟩, ?_⟩
      simp [turnF, ir27]) (.int t, none) ⟨od_int, fun xs e => nomatch e⟩
  have hlen : (rangeD (1 + u).toNat).length ≤ 41 := by simp [rangeD]; omega
  have n0 : -4611686018427387904 ≤ 1 + u := by omega
  have n1 : 1 + u ≤ 16777216 := by omega
  refine ⟨d, j2, Od.up h1 (by omega), u3, ?_⟩
  simp [ir27] at e ⊢
  simp [t4, u4, e, n0, n1]
theorem oddThing {k : Nat} (hk : 3 ≤ k) {j : D} (hj : Jr j) : ∃ d j', Od 45 d ∧ Jr j' ∧ den lib.tb k 28 [(j, true)] = .ok d false [some (j', true)] := by
  obtain ⟨k, rfl, hk'⟩ := succ_of hk
  rw [den_s tb28]
  obtain ⟨d, j1, d1, d2, d3⟩ := nested hk' hj
  obtain ⟨o, j2, hm, p2, p3⟩ := oneOf (k := k) (by omega) d2 [.none, .bool true, .bool false, .str "", .str "12", .str "ab", .int 0, .int 2, .int (-1), .int 1000000000000000000000000000000, .tuple [], d] true (by simp) (by simp)
  refine ⟨o, j2, ?_, p2, by simp [ir28, d3, p3]⟩
  simp only [List.mem_cons, List.not_mem_nil, or_false] at hm
  rcases hm with rfl | rfl | rfl | rfl | rfl | rfl | rfl | rfl | rfl | rfl | rfl | rfl
  all_goals first | exact d1 | exact od_none | exact od_bool | exact od_int | exact od_str (by decide +kernel) | exact (od_tup (n := 44) (fun z hz => nomatch hz) (by simp))
theorem putAt {k : Nat} (hk : 3 ≤ k) {j : D} (hj : Jr j) {rs os : List D} {own : Bool} {n : Nat} (hn : n ≤ 55) (hr : ∀ x ∈ rs, Od n x) (ho : ∀ x ∈ os, Od n x) (h0 : 0 < os.length) (ho2 : os.length ≤ 1000) (hl : rs.length ≤ 300) :
    ∃ rs' j', (∀ x ∈ rs', Od n x) ∧ rs'.length ≤ rs.length + rs.length + 1 ∧ Jr j' ∧ den lib.tb k 26 [(j, true), (.tuple rs, false), (.list os, own)] = .ok (.tuple rs') false [some (j', true), some (.tuple rs, false), some (.list os, own)] := by
  obtain ⟨k, rfl, hk'⟩ := succ_of hk
  rw [den_s tb26]
  have sh := od_shaped hr (by omega)
  cases rs with
  | nil =>
    refine ⟨[], j, hr, by simp, hj, ?_⟩
    cases own <;> simp [ir26]
  | cons r rs =>
    obtain ⟨t, j1, t1, t2, t3, t4⟩ := take (k := k) (by omega) hj ((r :: rs).length : Int) (by simp) (by simp at hl ⊢; omega)
    obtain ⟨o, j2, hm, p2, p3⟩ := oneOf (k := k) (by omega) t3 os own h0 (by omega)
    have m := ho _ hm
    obtain ⟨A, hA⟩ : ∃ A, Mv.cutD (r :: rs) none (some t) = A := ⟨_, rfl⟩
    obtain ⟨B, hB⟩ : ∃ B, Mv.cutD (r :: rs) (some (t + 1)) none = B := ⟨_, rfl⟩
    have s1 : slF (.tuple (r :: rs)) none (some t) = some (.tuple A, false) := by rw [slF_t, hA]
    have s2 : slF (.tuple (r :: rs)) (some (t + 1)) none = some (.tuple B, false) := by rw [slF_t, hB]
    have a : A.length ≤ (r :: rs).length := hA ▸ len_cut
    have b : B.length ≤ (r :: rs).length := hB ▸ len_cut
    have c1 : A.length + 1 ≤ sizeLine := Nat.le_of_lt (small1000 (by omega))
    have c2 : A.length + 1 + B.length ≤ sizeLine := Nat.le_of_lt (small1000 (by omega))
    refine ⟨A ++ [o] ++ B, j2, fun x hx => ?_, ?_, p2, ?_⟩
    · simp only [List.mem_append, List.mem_singleton] at hx
      rcases hx with (hx | rfl) | hx
      · exact hr x (mem_cut (hA ▸ hx))
      · exact m
      · exact hr x (mem_cut (hB ▸ hx))
    · simp only [List.length_append, List.length_singleton]
      omega
    · simp only [List.length_cons] at t4
      simp at t4
      cases own <;> simp [ir26, sh, t4, p3, s1, s2, c1, c2]
end Lk00

namespace Lk00
open PySem PySem.Spec L2 Mv
open PyProof.Rows hiding St
theorem paired_ints {lo hi : Int} {xs ds : List D} (h : Paired (fun _ (d : D) => ∃ r : Int, d = .int r ∧ lo ≤ r ∧ r ≤ hi) xs ds) : ∃ zs : List Int, ds = zs.map .int ∧ zs.length = xs.length ∧ ∀ z ∈ zs, lo ≤ z ∧ z ≤ hi := by
  induction h with
  | nil => exact ⟨[], rfl, rfl, fun z hz => nomatch hz⟩
  | cons r _ ih =>
    obtain ⟨r, rfl, r0, r1⟩ := r
    obtain ⟨zs, h1, h2, h3⟩ := ih
    refine ⟨r :: zs, by rw [h1]; rfl, by simp [h2], fun z hz => ?_⟩
    rcases List.mem_cons.mp hz with rfl | hz
    · exact ⟨r0, r1⟩
    · exact h3 z hz
theorem sizesRow {k : Nat} (hk : 2 ≤ k) {j : D} (hj : Jr j) {n : Nat} (hn : n ≤ 30) : ∃ zs j', (∀ z ∈ zs, 1 ≤ z ∧ z ≤ 6) ∧ zs.length = n ∧ Jr j' ∧ den lib.tb k 29 [(j, true), (.int n, false)] = .ok (pg zs) false [some (j', true), some (.int n, false)] := by
  obtain ⟨k, rfl, hk'⟩ := succ_of hk
  rw [den_s tb29]
  obtain ⟨ds, j', i', e, p⟩ := lcW_all (own := [2]) (tg := .name 2) (c := dT (den lib.tb k) .yes) (e := dE (den lib.tb k) (.bin .Add (.lit (.int 1)) (.call 14 (.cons (.var 0) (.cons (.lit (.int 6)) .nil))))) (E := fun j => [some (j, true), some (.int n, false), none]) (I := Jr)
    (G := fun _ d => ∃ r : Int, d = .int r ∧ 1 ≤ r ∧ r ≤ 6) (xs := rangeD n) (fun x hx j hj => by
      obtain ⟨r, j', q1, q2, q3, q4⟩ := take hk' hj 6 (by omega) (by omega)
      exact ⟨.int (1 + r), j', q3, by simp [turnW, q4], 1 + r, rfl, by omega, by omega⟩) [] j hj
  obtain ⟨zs, h1, h2, h3⟩ := paired_ints p
  subst h1
  have n0 : -4611686018427387904 ≤ (n : Int) := by omega
  have n1 : (n : Int) ≤ 16777216 := by omega
  refine ⟨zs, j', h3, by simpa [rangeD] using h2, i', ?_⟩
  simp [ir29, pg] at e ⊢
  simp [e, n0, n1]
theorem anyPage {k : Nat} (hk : 2 ≤ k) {j : D} (hj : Jr j) {ss : List Int} (hs : ∀ z ∈ ss, 1 ≤ z ∧ z ≤ 6) : ∃ zs j', (∀ z ∈ zs, 0 ≤ z ∧ z ≤ 6) ∧ zs.length = ss.length ∧ Jr j' ∧ den lib.tb k 17 [(j, true), (pg ss, false)] = .ok (pg zs) false [some (j', true), some (pg ss, false)] := by
  obtain ⟨k, rfl, hk'⟩ := succ_of hk
  rw [den_s tb17]
  obtain ⟨ds, j', i', e, p⟩ := lcW_all (own := [2]) (tg := .name 2) (c := dT (den lib.tb k) .yes) (e := dE (den lib.tb k) (.call 14 (.cons (.var 0) (.cons (.var 2) .nil)))) (E := fun j => [some (j, true), some (pg ss, false), none]) (I := Jr)
    (G := fun _ d => ∃ r : Int, d = .int r ∧ 0 ≤ r ∧ r ≤ 6) (xs := ss.map .int) (fun x hx j hj => by
      obtain ⟨s, hs1, rfl⟩ := List.mem_map.mp hx
      obtain ⟨b1, b2⟩ := hs s hs1
      obtain ⟨r, j', q1, q2, q3, q4⟩ := take hk' hj s (by omega) (by omega)
      exact ⟨.int r, j', q3, by simp [turnW, q4], r, rfl, q1, by omega⟩) [] j hj
  obtain ⟨zs, h1, h2, h3⟩ := paired_ints p
  subst h1
  refine ⟨zs, j', h3, by simpa using h2, i', ?_⟩
  simp [ir17, pg] at e ⊢
  simp [e]
theorem od_pg {zs : List Int} : ∀ x ∈ zs.map PyData.int, Od 0 x := fun x hx => by
  obtain ⟨z, _, rfl⟩ := List.mem_map.mp hx
  exact od_int
theorem od_pgT {zs : List Int} {n : Nat} (hl : zs.length ≤ 1000) : Od (n + 1) (pg zs) := od_tup (fun x hx => (od_pg x hx).up (Nat.zero_le _)) (by simpa using hl)
theorem od_one {n : Nat} {x : D} (h : Od n x) : Od (n + 1) (.tuple [x]) := od_tup (fun z hz => by simp at hz; subst hz; exact h) (by simp)
theorem od_up0 {x : D} (h : Od 45 x) : Od 50 x := h.up (by omega)
/-- a thing in the place of sizes -/
theorem sizesThing {k : Nat} (hk : 4 ≤ k) {j : D} (hj : Jr j) : ∃ d j', Od 55 d ∧ Jr j' ∧ den lib.tb k 30 [(j, true)] = .ok d false [some (j', true)] := by
  obtain ⟨k, rfl, hk'⟩ := succ_of hk
  rw [den_s tb30]
  obtain ⟨t, j1, t1, t2, t3, t4⟩ := take (k := k) (by omega) hj 8 (by omega) (by omega)
  obtain ⟨d, j2, d1, d2, d3⟩ := nested (k := k) (by omega) t3
  obtain ⟨OS, hOS⟩ : ∃ OS : List D, OS = [.int 0, .int 7, .int (-1), .bool true, .bool false, .none, .str "2", .tuple [.int 2], .int 1000000000000000000000000000000, .int 6, .int 1, d] := ⟨_, rfl⟩
  have oOS : ∀ x ∈ OS, Od 50 x := fun x hx => by
    rw [hOS] at hx
    simp only [List.mem_cons, List.not_mem_nil, or_false] at hx
    rcases hx with hx | hx | hx | hx | hx | hx | hx | hx | hx | hx | hx | hx <;> rw [hx]
    all_goals first | exact od_up0 d1 | exact od_none | exact od_bool | exact od_int | exact od_str (by decide +kernel) | exact (od_one (n := 49) od_int)
  have lOS : OS.length = 12 := by rw [hOS]; rfl
  obtain ⟨u, j3, u1, u2, u3, u4⟩ := take (k := k) (by omega) d2 2 (by omega) (by omega)
  -- many
  have many : ∃ (n : Nat) (j4 : D), n ≤ 30 ∧ Jr j4 ∧ ((u = 0 ∧ den lib.tb k 15 [(j3, true), (.list [.int 1, .int 2, .int 3, .int 24], true)] = .ok (.int n) false [some (j4, true), some (.list [.int 1, .int 2, .int 3, .int 24], true)]) ∨ (u ≠ 0 ∧ ∃ v : Int, 1 + v = n ∧ den lib.tb k 14 [(j3, true), (.int 24, false)] = .ok (.int v) false [some (j4, true), some (.int 24, false)])) := by
    by_cases h0 : u = 0
    · obtain ⟨o, j4, hm, p2, p3⟩ := oneOf (k := k) (by omega) u3 [.int 1, .int 2, .int 3, .int 24] true (by simp) (by simp)
      simp only [List.mem_cons, List.not_mem_nil, or_false] at hm
      rcases hm with rfl | rfl | rfl | rfl
      · exact ⟨1, j4, by omega, p2, .inl ⟨h0, p3⟩⟩
      · exact ⟨2, j4, by omega, p2, .inl ⟨h0, p3⟩⟩
      · exact ⟨3, j4, by omega, p2, .inl ⟨h0, p3⟩⟩
      · exact ⟨24, j4, by omega, p2, .inl ⟨h0, p3⟩⟩
    · obtain ⟨v, j4, v1, v2, v3, v4⟩ := take (k := k) (by omega) u3 24 (by omega) (by omega)
      exact ⟨(1 + v).toNat, j4, by omega, v3, .inr ⟨h0, v, by omega, v4⟩⟩
  obtain ⟨n, j4, hn, m2, mm⟩ := many
  obtain ⟨zs, j5, z1, z2, z3, z4⟩ := sizesRow (k := k) (by omega) m2 hn
  have hz30 : (zs.map PyData.int).length ≤ 30 := by simpa [z2] using hn
  have oz : ∀ x ∈ zs.map PyData.int, Od 50 x := fun x hx => (od_pg x hx).up (by omega)
  by_cases w0 : t = 0
  · subst w0
    obtain ⟨o, j6, o1, o2, o3⟩ := oddThing (k := k) (by omega) z3
    refine ⟨o, j6, o1.up (by omega), o2, ?_⟩
    rcases mm with ⟨h0, mm⟩ | ⟨h0, v, hv, mm⟩ <;> simp [ir30, t4, d3, u4, h0, mm, z4, o3]
    rw [hv]
    simp [z4, o3]
  · by_cases w1 : t = 1
    · subst w1
      have pick : ∃ (m : Nat) (j6 : D), m ≤ 30 ∧ Jr j6 ∧ den lib.tb k 15 [(j5, true), (.list [.int 0, .int 25, .int 26, .int 24], true)] = .ok (.int m) false [some (j6, true), some (.list [.int 0, .int 25, .int 26, .int 24], true)] := by
        obtain ⟨o, j6, hm, p2, p3⟩ := oneOf (k := k) (by omega) z3 [.int 0, .int 25, .int 26, .int 24] true (by simp) (by simp)
        simp only [List.mem_cons, List.not_mem_nil, or_false] at hm
        rcases hm with rfl | rfl | rfl | rfl
        · exact ⟨0, j6, by omega, p2, p3⟩
        · exact ⟨25, j6, by omega, p2, p3⟩
        · exact ⟨26, j6, by omega, p2, p3⟩
        · exact ⟨24, j6, by omega, p2, p3⟩
      obtain ⟨m, j6, hm, p2, p3⟩ := pick
      obtain ⟨ys, j7, y1, y2, y3, y4⟩ := sizesRow (k := k) (by omega) p2 hm
      refine ⟨pg ys, j7, (od_pgT (n := 50) (by omega)).up (by omega), y3, ?_⟩
      rcases mm with ⟨h0, mm⟩ | ⟨h0, v, hv, mm⟩ <;> simp [ir30, t4, d3, u4, h0, mm, z4, p3, y4]
      rw [hv]
      simp [z4, p3, y4]
    · -- put at, once, twice or not
      obtain ⟨rs1, j6, a1, a2, a3, a4⟩ := putAt (k := k) (own := true) (by omega) z3 (by omega) oz oOS (by omega) (by omega) (by omega)
      by_cases w4 : t < 4
      · by_cases w3 : t = 3
        · subst w3
          obtain ⟨rs2, j7, b1, b2, b3, b4⟩ := putAt (k := k) (own := true) (by omega) a3 (by omega) a1 oOS (by omega) (by omega) (by omega)
          refine ⟨.tuple rs2, j7, (od_tup b1 (by omega)).up (by omega), b3, ?_⟩
          rw [hOS] at a4 b4
          simp only [pg] at z4
          rcases mm with ⟨h0, mm⟩ | ⟨h0, v, hv, mm⟩ <;> simp [ir30, t4, d3, u4, h0, mm, z4, a4, b4]
          rw [hv]
          simp [z4, a4, b4]
        · refine ⟨.tuple rs1, j6, (od_tup a1 (by omega)).up (by omega), a3, ?_⟩
          rw [hOS] at a4
          simp only [pg] at z4
          rcases mm with ⟨h0, mm⟩ | ⟨h0, v, hv, mm⟩ <;> simp [ir30, t4, d3, u4, h0, mm, z4, w0, w1, w3, w4, a4]
          rw [hv]
          simp [z4, a4, w0, w1, w3, w4]
      · have w3 : ¬ t = 3 := by omega
        refine ⟨pg zs, j5, (od_pgT (n := 50) (by omega)).up (by omega), z3, ?_⟩
        rcases mm with ⟨h0, mm⟩ | ⟨h0, v, hv, mm⟩ <;> simp [ir30, t4, d3, u4, h0, mm, z4, w0, w1, w3, w4]
        rw [hv]
        simp [z4, w0, w1, w3, w4]
end Lk00

namespace Lk00
open PySem PySem.Spec L2 Mv
open PyProof.Rows hiding St
theorem od_cut {xs : List D} {lo hi : Option Int} {n : Nat} (h : ∀ x ∈ xs, Od n x) (hl : xs.length ≤ 1000) : Od (n + 1) (.tuple (Mv.cutD xs lo hi)) := od_tup (fun x hx => h x (mem_cut hx)) (Nat.le_trans len_cut hl)
/-- a thing in the place of a page -/
theorem pageThing {k : Nat} (hk : 4 ≤ k) {j : D} (hj : Jr j) {ss : List Int} (hs : Sz ss) : ∃ d j', Od 55 d ∧ Jr j' ∧ den lib.tb k 31 [(j, true), (pg ss, false)] = .ok d false [some (j', true), some (pg ss, false)] := by
  obtain ⟨k, rfl, hk'⟩ := succ_of hk
  rw [den_s tb31]
  have hs2 := hs.2.2
  obtain ⟨t, j1, t1, t2, t3, t4⟩ := take (k := k) (by omega) hj 8 (by omega) (by omega)
  obtain ⟨d, j2, d1, d2, d3⟩ := nested (k := k) (by omega) t3
  obtain ⟨OS, hOS⟩ : ∃ OS : List D, OS = [.int (-1), .bool true, .bool false, .none, .str "0", .tuple [.int 0], .int 1000000000000000000000000000000, .int 0, .int 5, .int 6, d] ++ ss.map .int := ⟨_, rfl⟩
  have oOS : ∀ x ∈ OS, Od 50 x := fun x hx => by
    rw [hOS] at hx
    rcases List.mem_append.mp hx with hx | hx
    · simp only [List.mem_cons, List.not_mem_nil, or_false] at hx
      rcases hx with hx | hx | hx | hx | hx | hx | hx | hx | hx | hx | hx <;> rw [hx]
      all_goals first | exact od_up0 d1 | exact od_none | exact od_bool | exact od_int | exact od_str (by decide +kernel) | exact (od_one (n := 49) od_int)
    · exact (od_pg x hx).up (by omega)
  have lOS : OS.length = 11 + ss.length := by rw [hOS]; simp; omega
  have fit : 11 + ss.length ≤ sizeLine := Nat.le_of_lt (small1000 (by omega))
  obtain ⟨zs, j5, z1, z2, z3, z4⟩ := anyPage (k := k) (by omega) d2 hs.1
  have hz30 : (zs.map PyData.int).length ≤ 30 := by simp; omega
  have oz : ∀ x ∈ zs.map PyData.int, Od 50 x := fun x hx => (od_pg x hx).up (by omega)
  have hzl : zs.length ≤ 24 := by omega
  by_cases w0 : t = 0
  · subst w0
    obtain ⟨o, j6, o1, o2, o3⟩ := oddThing (k := k) (by omega) z3
    refine ⟨o, j6, o1.up (by omega), o2, ?_⟩
    simp only [pg] at z4 ⊢
    simp [ir31, t4, d3, fit, z4, o3]
  · by_cases w1 : t = 1
    · subst w1
      obtain ⟨A, hA⟩ : ∃ A, Mv.cutD (zs.map PyData.int) (some 1) none = A := ⟨_, rfl⟩
      obtain ⟨B, hB⟩ : ∃ B, Mv.cutD (zs.map PyData.int) none (some (-1)) = B := ⟨_, rfl⟩
      have s1 : slF (.tuple (zs.map .int)) (some 1) none = some (.tuple A, false) := by rw [slF_t, hA]
      have s2 : slF (.tuple (zs.map .int)) none (some (-1)) = some (.tuple B, false) := by rw [slF_t, hB]
      obtain ⟨o, j6, hm, p2, p3⟩ := oneOf (k := k) (by omega) z3 [.tuple (zs.map .int ++ [.int 0]), .tuple A, .tuple B, .tuple (zs.map .int ++ zs.map .int)] true (by simp) (by simp)
      have f1 : zs.length + 1 ≤ sizeLine := Nat.le_of_lt (small1000 (by omega))
      have f2 : zs.length + zs.length ≤ sizeLine := Nat.le_of_lt (small1000 (by omega))
      refine ⟨o, j6, ?_, p2, ?_⟩
      · have all : Od 51 o := by
          simp only [List.mem_cons, List.not_mem_nil, or_false] at hm
          rcases hm with hm | hm | hm | hm <;> rw [hm]
          · refine od_tup (fun x hx => ?_) (by simp; omega)
            rcases List.mem_append.mp hx with hx | hx
            · exact oz x hx
            · simp at hx; subst hx; exact od_int
          · rw [← hA]; exact od_cut oz (by simp; omega)
          · rw [← hB]; exact od_cut oz (by simp; omega)
          · refine od_tup (fun x hx => ?_) (by simp; omega)
            rcases List.mem_append.mp hx with hx | hx <;> exact oz x hx
        exact all.up (by omega)
      · simp only [pg] at z4 ⊢
        simp [ir31, t4, d3, fit, z4, s1, s2, f1, f2, p3]
    · obtain ⟨rs1, j6, a1, a2, a3, a4⟩ := putAt (k := k) (own := true) (by omega) z3 (by omega) oz oOS (by omega) (by omega) (by omega)
      rw [hOS] at a4
      simp only [pg] at z4 ⊢
      by_cases w4 : t < 4
      · by_cases w3 : t = 3
        · subst w3
          obtain ⟨rs2, j7, b1, b2, b3, b4⟩ := putAt (k := k) (own := true) (by omega) a3 (by omega) a1 oOS (by omega) (by omega) (by omega)
          refine ⟨.tuple rs2, j7, (od_tup b1 (by omega)).up (by omega), b3, ?_⟩
          rw [hOS] at b4
          simp at a4 b4
          simp [ir31, t4, d3, fit, z4, a4, b4]
        · refine ⟨.tuple rs1, j6, (od_tup a1 (by omega)).up (by omega), a3, ?_⟩
          simp at a4
          simp [ir31, t4, d3, fit, z4, a4, w0, w1, w3, w4]
      · have w3 : ¬ t = 3 := by omega
        refine ⟨pg zs, j5, (od_pgT (n := 50) (by omega)).up (by omega), z3, ?_⟩
        simp [ir31, t4, d3, fit, z4, w0, w1, w3, w4, pg]
end Lk00

namespace Lk00
open PySem PySem.Spec L2 Mv
open PyProof.Rows hiding St
theorem od_pair {n : Nat} {a b : D} (ha : Od n a) (hb : Od n b) : Od (n + 1) (.tuple [a, b]) := od_tup (fun z hz => by
  simp only [List.mem_cons, List.not_mem_nil, or_false] at hz
  rcases hz with rfl | rfl
  · exact ha
  · exact hb) (by simp)
theorem od_three {n : Nat} {a b c : D} (ha : Od n a) (hb : Od n b) (hc : Od n c) : Od (n + 1) (.tuple [a, b, c]) := od_tup (fun z hz => by
  simp only [List.mem_cons, List.not_mem_nil, or_false] at hz
  rcases hz with rfl | rfl | rfl
  · exact ha
  · exact hb
  · exact hc) (by simp)
theorem od_nil {n : Nat} : Od (n + 1) (.tuple []) := od_tup (fun z hz => nomatch hz) (by simp)
theorem anyEdit {k : Nat} (hk : 2 ≤ k) {j : D} (hj : Jr j) {ss : List Int} (hs : Sz ss) {r : Int} (r0 : 0 < r) (r1 : r ≤ 100) : ∃ ds j', (∀ d ∈ ds, Od 50 d) ∧ ds.length ≤ 24 ∧ Jr j' ∧ den lib.tb k 18 [(j, true), (pg ss, false), (.int r, false)] = .ok (.tuple ds) false [some (j', true), some (pg ss, false), some (.int r, false)] := by
  obtain ⟨k, rfl, hk'⟩ := succ_of hk
  rw [den_s tb18]
  obtain ⟨s1, s2, s3⟩ := hs
  obtain ⟨ds, j', i', e, p, q⟩ := lcW_inv (own := [3]) (tg := .name 3) (c := dT (den lib.tb k) (.tb (.cmp .Eq (.call 14 (.cons (.var 0) (.cons (.var 2) .nil))) (.lit (.int 0)))))
    (e := dE (den lib.tb k) (.tup (.cons (.var 3) (.cons (.call 14 (.cons (.var 0) (.cons (.ix (.var 1) (.var 3)) .nil))) .nil)))) (E := fun j => [some (j, true), some (pg ss, false), some (.int r, false), none]) (I := Jr)
    (G := fun _ d => Od 50 d) (xs := rangeD ss.length) (fun x hx j hj => by
      obtain ⟨i, hi, rfl⟩ := List.mem_map.mp hx
      have hi : i < ss.length := by simpa using hi
      obtain ⟨b1, b2⟩ := s1 ss[i] (List.getElem_mem hi)
      obtain ⟨t, j1, t1, t2, t3, t4⟩ := take hk' hj r r0 (by omega)
      by_cases ht : t = 0
      · subst ht
        obtain ⟨u, j2, u1, u2, u3, u4⟩ := take hk' t3 ss[i] (by omega) (by omega)
        exact ⟨some (.tuple [.int i, .int u]), j2, u3, by simp [turnW, t4, pg, at_pg hi, u4], fun d e => by cases e; exact od_pair (n := 49) od_int od_int⟩
      · exact ⟨none, j1, t3, by simp [turnW, t4, ht], fun d e => nomatch e⟩) [] j hj
  refine ⟨ds, j', fun d hd => (p d hd).elim fun _ q => q.2, by simp [rangeD] at q; omega, i', ?_⟩
  have few : (ss.length : Int) ≤ 16777216 := by omega
  have n0 : -4611686018427387904 ≤ (ss.length : Int) := by omega
  simp [ir18, pg] at e ⊢
  simp [e, few, n0]
theorem oddPairs {k : Nat} (hk : 3 ≤ k) {j : D} (hj : Jr j) {ss : List Int} (hs : Sz ss) : ∃ os j', (∀ x ∈ os, Od 50 x) ∧ os.length = 27 ∧ Jr j' ∧ den lib.tb k 32 [(j, true), (pg ss, false)] = .ok (.list os) true [some (j', true), some (pg ss, false)] := by
  obtain ⟨k, rfl, hk'⟩ := succ_of hk
  rw [den_s tb32]
  obtain ⟨s1, s2, s3⟩ := hs
  obtain ⟨i, j1, i1, i2, i3, i4⟩ := take (k := k) (by omega) hj ss.length (by omega) (by omega)
  obtain ⟨m, rfl⟩ : ∃ m : Nat, i = m := ⟨i.toNat, by omega⟩
  have hm : m < ss.length := by omega
  have at1 := at_pg hm
  obtain ⟨b1, b2⟩ := s1 ss[m] (List.getElem_mem hm)
  obtain ⟨a, j2, a1, a2, a3, a4⟩ := take (k := k) (by omega) i3 ss[m] (by omega) (by omega)
  obtain ⟨d, j3, d1, d2, d3⟩ := nested (k := k) (by omega) a3
  generalize ss[m] = w at at1 a4
  refine ⟨[.tuple [.int m], .tuple [.int m, .int a, .int a], .tuple [], .none, .int 5, .str "01", .bool true, .tuple [.int m, .int w], .tuple [.int m, .int (-1)], .tuple [.int m, .none], .tuple [.int m, .str "0"], .tuple [.int m, .tuple [.int a]],
    .tuple [.int ss.length, .int 0], .tuple [.int (-1), .int 0], .tuple [.bool true, .int 0], .tuple [.bool false, .int 0], .tuple [.int m, .bool true], .tuple [.int m, .bool false], .tuple [.none, .int a], .tuple [.str "0", .int a], .tuple [.int m, .int a],
    .tuple [.int m, .int 1000000000000000000000000000000], .tuple [.int 1000000000000000000000000000000, .int a], .tuple [.int 0, .int 0], .tuple [.int (ss.length - 1), .int 0], .tuple [.tuple [.int m, .int a], .tuple [.int m, .int a]], d], j3, fun x hx => ?_, by simp, d2, ?_⟩
  · simp only [List.mem_cons, List.not_mem_nil, or_false] at hx
    have o1 : ∀ {i : Int}, Od 49 (.int i) := od_int
    have o2 : ∀ {b : Bool}, Od 49 (.bool b) := od_bool
    have o3 : Od 49 .none := od_none
    have o4 : Od 49 (.str "0") := od_str (by decide +kernel)
    rcases hx with hx | hx | hx | hx | hx | hx | hx | hx | hx | hx | hx | hx | hx | hx | hx | hx | hx | hx | hx | hx | hx | hx | hx | hx | hx | hx | hx <;> rw [hx]
    all_goals first | exact od_up0 d1 | exact od_none | exact od_bool | exact od_int | exact od_str (by decide +kernel) | exact od_one o1 | exact od_three o1 o1 o1 | exact od_nil (n := 49) | exact od_pair o1 o1 | exact od_pair o1 o3 | exact od_pair o1 o4 | exact od_pair o2 o1 | exact od_pair o1 o2 | exact od_pair o3 o1 | exact od_pair o4 o1 | exact od_pair o1 ((od_one (n := 48) od_int)) | exact od_pair (od_pair (n := 48) od_int od_int) (od_pair (n := 48) od_int od_int)
  · have f1 : 12 + 9 ≤ sizeLine := by decide
    have f2 : 21 + 6 ≤ sizeLine := by decide
    simp [ir32, pg, i4, at1, a4, d3, f1, f2]
end Lk00

namespace Lk00
open PySem PySem.Spec L2 Mv
open PyProof.Rows hiding St
theorem mixed {k : Nat} (hk : 2 ≤ k) {j : D} (hj : Jr j) {xs : List D} (hl : xs.length ≤ 100) {n : Nat} (ho : ∀ x ∈ xs, Od n x) : ∃ ds j' o, (∀ x ∈ ds, Od n x) ∧ ds.length ≤ 100 ∧ Jr j' ∧ den lib.tb k 16 [(j, true), (.list xs, true)] = .ok (.list ds) true [some (j', true), some (.list xs, o)] := by
  obtain ⟨k, rfl, hk'⟩ := succ_of hk
  rw [den_s tb16]
  obtain ⟨⟨j', ls, ds, y⟩, ⟨i1, i2, i3, i4, i5⟩, e⟩ := forL_ix (P := [0, 1]) (tg := .name 4) (b := dB (den lib.tb k) [0, 1] (match ir16 with | .cons _ (.cons (.for_ _ _ b) _) => b | r => r)) (S := D × List D × List D × Sl) (n := 0)
    (E := fun s => [some (s.1, true), some (.list xs, true), some (.list s.2.1, true), some (.list s.2.2.1, true), s.2.2.2])
    (I := fun i s => Jr s.1 ∧ (∀ x ∈ s.2.1, Od n x) ∧ (∀ x ∈ s.2.2.1, Od n x) ∧ s.2.1.length + i = xs.length ∧ s.2.2.1.length = i) (xs := rangeD xs.length) (fun i x hx s hs => by
      obtain ⟨j, ls, ds, y⟩ := s
      obtain ⟨h1, h2, h3, h4, h5⟩ := hs
      have h4 : ls.length + (0 + i) = xs.length := h4
      have h5 : ds.length = 0 + i := h5
      have hi : i < xs.length := by
        rcases Nat.lt_or_ge i xs.length with q | q
        · exact q
        · rw [List.getElem?_eq_none (by simpa [rangeD] using q)] at hx; cases hx
      obtain ⟨t, j2, t1, t2, t3, t4⟩ := take hk' h1 (ls.length : Int) (by omega) (by omega)
      obtain ⟨m, rfl⟩ : ∃ m : Nat, t = m := ⟨t.toNat, by omega⟩
      have hm : m < ls.length := by omega
      have fit : ds.length < sizeLine := small1000 (by omega)
      refine ⟨(j2, ls.eraseIdx m, ds ++ [ls[m]], some (x, false)), ⟨t3, fun z hz => h2 z (List.mem_of_mem_eraseIdx hz), fun z hz => ?_, ?_, by simp; omega⟩, ?_⟩
      · rcases List.mem_append.mp hz with hz | hz
        · exact h3 z hz
        · simp at hz; subst hz; exact h2 _ (List.getElem_mem hm)
      · show (ls.eraseIdx m).length + (0 + i + 1) = xs.length
        rw [List.length_eraseIdx, if_pos hm]
        omega
      · have e : ixN ls.length (m : Int) = some m := by unfold ixN; simp [hm]
        simp [turnF, ir16, t4, muF, e, hm, fit]) (j, xs, [], none) ⟨hj, ho, fun z hz => (nomatch hz), by simp, rfl⟩
  have n0 : -4611686018427387904 ≤ (xs.length : Int) := by omega
  have n1 : (xs.length : Int) ≤ 16777216 := by omega
  have i5 : ds.length = 0 + (rangeD xs.length).length := i5
  refine ⟨ds, j', true, i3, by simp [rangeD] at i5; omega, i1, ?_⟩
  simp [ir16] at e ⊢
  simp [e, n0, n1]
theorem tup_len {n : Nat} {d : D} (h : Od n d) : ∀ xs, d = .tuple xs → xs.length ≤ 1000 := h.2.2
/-- a thing in the place of an edit -/
theorem editThing {k : Nat} (hk : 4 ≤ k) {j : D} (hj : Jr j) {ss : List Int} (hs : Sz ss) : ∃ d j', Od 55 d ∧ Jr j' ∧ den lib.tb k 33 [(j, true), (pg ss, false)] = .ok d false [some (j', true), some (pg ss, false)] := by
  obtain ⟨k, rfl, hk'⟩ := succ_of hk
  rw [den_s tb33]
  obtain ⟨t, j1, t1, t2, t3, t4⟩ := take (k := k) (by omega) hj 9 (by omega) (by omega)
  obtain ⟨u, j2, u1, u2, u3, u4⟩ := take (k := k) (by omega) t3 3 (by omega) (by omega)
  obtain ⟨ds, j3, e1, e2, e3, e4⟩ := anyEdit (k := k) (by omega) u3 hs (r := 1 + u) (by omega) (by omega)
  obtain ⟨os, j4, o1, o2, o3, o4⟩ := oddPairs (k := k) (by omega) e3 hs
  simp only [pg] at e4 o4 ⊢
  by_cases w0 : t = 0
  · subst w0
    obtain ⟨o, j6, p1, p2, p3⟩ := oddThing (k := k) (by omega) o3
    refine ⟨o, j6, p1.up (by omega), p2, ?_⟩
    simp [ir33, t4, u4, e4, o4, p3]
  · by_cases w1 : t = 1
    · subst w1
      obtain ⟨v, j5, v1, v2, v3, v4⟩ := take (k := k) (by omega) o3 ((ds.length : Int) + 1) (by omega) (by omega)
      obtain ⟨o, j6, hm, p2, p3⟩ := oneOf (k := k) (by omega) v3 os true (by omega) (by omega)
      obtain ⟨A, hA⟩ : ∃ A, Mv.cutD ds none (some v) = A := ⟨_, rfl⟩
      obtain ⟨B, hB⟩ : ∃ B, Mv.cutD ds (some v) none = B := ⟨_, rfl⟩
      have s1 : slF (.tuple ds) none (some v) = some (.tuple A, false) := by rw [slF_t, hA]
      have s2 : slF (.tuple ds) (some v) none = some (.tuple B, false) := by rw [slF_t, hB]
      have a : A.length ≤ ds.length := hA ▸ len_cut
      have b : B.length ≤ ds.length := hB ▸ len_cut
      have c1 : A.length + 1 ≤ sizeLine := Nat.le_of_lt (small1000 (by omega))
      have c2 : A.length + 1 + B.length ≤ sizeLine := Nat.le_of_lt (small1000 (by omega))
      refine ⟨.tuple (A ++ o :: B), j6, (od_tup (n := 50) (fun x hx => ?_) (by simp; omega)).up (by omega), p2, ?_⟩
      · simp only [List.mem_append, List.mem_cons] at hx
        rcases hx with hx | rfl | hx
        · exact e1 x (mem_cut (hA ▸ hx))
        · exact o1 _ hm
        · exact e1 x (mem_cut (hB ▸ hx))
      · simp [ir33, t4, u4, e4, o4, v4, p3, s1, s2, c1, c2]
    · by_cases w2 : t = 2
      · subst w2
        obtain ⟨fs, j5, oo, f1, f2, f3, f4⟩ := mixed (k := k) (by omega) o3 (xs := ds) (by omega) e1
        refine ⟨.tuple fs, j5, (od_tup f1 (by omega)).up (by omega), f3, ?_⟩
        simp [ir33, t4, u4, e4, o4, f4]
      · obtain ⟨rs1, j6, a1, a2, a3, a4⟩ := putAt (k := k) (own := true) (by omega) o3 (by omega) e1 o1 (by omega) (by omega) (by omega)
        by_cases w5 : t < 5
        · by_cases w4 : t = 4
          · subst w4
            obtain ⟨rs2, j7, b1, b2, b3, b4⟩ := putAt (k := k) (own := true) (by omega) a3 (by omega) a1 o1 (by omega) (by omega) (by omega)
            refine ⟨.tuple rs2, j7, (od_tup b1 (by omega)).up (by omega), b3, ?_⟩
            simp [ir33, t4, u4, e4, o4, a4, b4]
          · refine ⟨.tuple rs1, j6, (od_tup a1 (by omega)).up (by omega), a3, ?_⟩
            simp [ir33, t4, u4, e4, o4, a4, w0, w1, w2, w4, w5]
        · have w4 : ¬ t = 4 := by omega
          refine ⟨.tuple ds, j4, (od_tup e1 (by omega)).up (by omega), o3, ?_⟩
          simp [ir33, t4, u4, e4, o4, w0, w1, w2, w4, w5]
end Lk00

namespace Lk00
open PySem PySem.Spec L2 Mv
open PyProof.Rows hiding St
theorem turn {k : Nat} (hk : 8 ≤ k) {ns : List Int} {x : D} (s : D × Sl × Sl × Sl × Sl × Sl × Sl) (h : Jr s.1) : ∃ s' : D × Sl × Sl × Sl × Sl × Sl × Sl, Jr s'.1 ∧
    turnF [0] (.name 2) (dB (den lib.tb k) [0] (match ir38 with | .cons _ (.cons (.for_ _ _ b) _) => b | r => r)) x [some (.list (ns.map .int), false), some (s.1, true), s.2.1, s.2.2.1, s.2.2.2.1, s.2.2.2.2.1, s.2.2.2.2.2.1, s.2.2.2.2.2.2] =
      .nx [some (.list (ns.map .int), false), some (s'.1, true), s'.2.1, s'.2.2.1, s'.2.2.2.1, s'.2.2.2.2.1, s'.2.2.2.2.2.1, s'.2.2.2.2.2.2] := by
  obtain ⟨j, y1, y2, y3, y4, y5, y6⟩ := s
  simp only at h
  obtain ⟨d, j1, d1, d2, d3⟩ := sizesThing (k := k) (by omega) h
  have r35 := s35 (k := k) (by omega) d
  have pick : ∃ (m : Nat) (j2 : D), (1 ≤ m ∧ m ≤ 24) ∧ Jr j2 ∧ den lib.tb k 15 [(j1, true), (.list [.int 3, .int 6, .int 24], true)] = .ok (.int m) false [some (j2, true), some (.list [.int 3, .int 6, .int 24], true)] := by
    obtain ⟨o, j6, hm, p2, p3⟩ := oneOf (k := k) (by omega) d2 [.int 3, .int 6, .int 24] true (by simp) (by simp)
    simp only [List.mem_cons, List.not_mem_nil, or_false] at hm
    rcases hm with rfl | rfl | rfl
    · exact ⟨3, j6, by omega, p2, p3⟩
    · exact ⟨6, j6, by omega, p2, p3⟩
    · exact ⟨24, j6, by omega, p2, p3⟩
  obtain ⟨m, j2, hm, p2, p3⟩ := pick
  obtain ⟨v, j3, v1, v2, v3, v4⟩ := take (k := k) (by omega) p2 (m : Int) (by omega) (by omega)
  obtain ⟨n, hn⟩ : ∃ n : Nat, 1 + v = n := ⟨(1 + v).toNat, by omega⟩
  obtain ⟨ss, j4, z1, z2, z3, z4⟩ := sizesRow (k := k) (by omega) v3 (n := n) (by omega)
  have hs : Sz ss := ⟨z1, by omega, by omega⟩
  obtain ⟨t, j5, t1, t2, t3⟩ := pageThing (k := k) (by omega) z3 hs
  obtain ⟨e, j6, e1, e2, e3⟩ := editThing (k := k) (by omega) t2 hs
  obtain ⟨u, j7, u1, u2, u3, u4⟩ := take (k := k) (by omega) e2 4 (by omega) (by omega)
  obtain ⟨ds, j8, f1, f2, f3, f4⟩ := anyEdit (k := k) (by omega) u3 hs (r := 2) (by omega) (by omega)
  have r1 := s36 (k := k) (by omega) d t
  have r2 := s37 (k := k) (by omega) d e (tup_len e1)
  have r3 := s36 (k := k) (by omega) (pg ss) t
  have r4 := s37 (k := k) (by omega) (pg ss) e (tup_len e1)
  have r5 := s37 (k := k) (by omega) (pg ss) (.tuple ds) (fun xs e => by cases e; omega)
  have r6 := s37 (k := k) (by omega) (pg ss) (.tuple []) (fun xs e => by cases e; simp)
  by_cases h0 : u = 0
  · subst h0
    refine ⟨(j8, some (x, false), some (d, false), some (pg ss, false), some (t, false), some (e, false), some (d, false)), f3, ?_⟩
    simp [turnF, ir38, d3, r35, p3, v4, hn, z4, t3, e3, u4, r1, r2, f4, r5, r6]
  · refine ⟨(j8, some (x, false), some (d, false), some (pg ss, false), some (t, false), some (e, false), some (pg ss, false)), f3, ?_⟩
    simp [turnF, ir38, d3, r35, p3, v4, hn, z4, t3, e3, u4, h0, r3, r4, f4, r5, r6]
def deep : Nat := 10
theorem plain (ns : List Int) (hl : ns.length ≤ 63) : ∃ out, den lib.tb deep 38 [(.list (ns.map .int), false)] = .ok (.bool true) false out := by
  obtain ⟨k, hk, hk'⟩ := succ_of (k := deep) (n := 8) (by decide)
  rw [hk, den_s tb38]
  obtain ⟨j0, q0, e0⟩ := pool (k := k) (by omega) ns 0 (by omega) hl
  obtain ⟨s, _, e⟩ := forL_inv (P := [0]) (tg := .name 2) (b := dB (den lib.tb k) [0] (match ir38 with | .cons _ (.cons (.for_ _ _ b) _) => b | r => r)) (S := D × Sl × Sl × Sl × Sl × Sl × Sl)
    (E := fun s => [some (.list (ns.map .int), false), some (s.1, true), s.2.1, s.2.2.1, s.2.2.2.1, s.2.2.2.2.1, s.2.2.2.2.2.1, s.2.2.2.2.2.2]) (I := fun s => Jr s.1) (xs := rangeD 3) (fun x hx s hs => turn hk' s hs) (j0, none, none, none, none, none, none) q0
  simp [ir38] at e ⊢
  simp at e0
  simp [e0, e]
end Lk00

open PySem PySem.W PyProof.Rows
set_option maxHeartbeats 0 in
theorem PySem.Challenge.cw_campsapart_k00_sizes_pages_edits_made_holds : PySem.Challenge.rw_campsapart_k00_sizes_pages_edits_made.Holds := by
  w_on; o_law; k_head; (case hw => w_witness2)
  k_fill
  refine Mv.walkG (l := PySem.Challenge.rw_campsapart_k00_sizes_pages_edits_made) (n := 63) (k := Lk00.deep) (x := "script") rfl (by decide) rfl ⟨by decide, by decide⟩ (fun w h Y => PySem.W.km_in_of Y) Lk00.lib Lk00.same 38 Lk00.dx38 rfl rfl rfl rfl (by decide +kernel) ?F Lk00.plain
  case F =>
    intro w mg fa h KX G hmg
    refine' Lk00.mk KX G hmg ?a0 ?l0 ?c0 ?k0 ?a1 ?l1 ?c1 ?k1 ?a2 ?l2 ?c2 ?k2 ?a3 ?l3 ?c3 ?k3 ?a4 ?l4 ?c4 ?k4 ?a5 ?l5 ?c5 ?k5 ?a6 ?l6 ?c6 ?k6 ?a7 ?l7 ?c7 ?k7 ?a8 ?l8 ?c8 ?k8 ?a9 ?l9 ?c9 ?k9 ?a10 ?l10 ?c10 ?k10 ?a11 ?l11 ?c11 ?k11 ?a12 ?l12 ?c12 ?k12 ?a13 ?l13 ?c13 ?k13 ?a14 ?l14 ?c14 ?k14 ?a15 ?l15 ?c15 ?k15 ?a16 ?l16 ?c16 ?k16 ?a17 ?l17 ?c17 ?k17 ?a18 ?l18 ?c18 ?k18 ?a19 ?l19 ?c19 ?k19 ?a20 ?l20 ?c20 ?k20 ?a21 ?l21 ?c21 ?k21 ?a22 ?l22 ?c22 ?k22 ?a23 ?l23 ?c23 ?k23 ?a24 ?l24 ?c24 ?k24 ?a25 ?l25 ?c25 ?k25 ?a26 ?l26 ?c26 ?k26 ?a27 ?l27 ?c27 ?k27 ?a28 ?l28 ?c28 ?k28 ?a29 ?l29 ?c29 ?k29 ?a30 ?l30 ?c30 ?k30 ?a31 ?l31 ?c31 ?k31 ?a32 ?l32 ?c32 ?k32 ?a33 ?l33 ?c33 ?k33 ?a34 ?l34 ?c34 ?k34 ?a35 ?l35 ?c35 ?k35 ?a36 ?l36 ?c36 ?k36 ?a37 ?l37 ?c37 ?k37 ?a38 ?l38 ?c38 ?k38 ?t35 ?v35 ?u35 ?t36 ?v36 ?u36 ?t37 ?v37 ?u37 ?z0 ?z1 ?z2 ?z3 ?z4 ?z5 ?z6 ?z7 ?z8 ?z9 ?z10 ?z11 ?jj0 ?jj1 ?eD ?e1 ?e2 ?e3 ?fi ?iF ?o1 ?r1 ?x1 ?o2 ?r2 ?x2 ?o3 ?r3 ?x3 ?h0 ?m0y1 ?m0y2 ?m0y3 ?h1 ?m1y1 ?m1n2 ?m1n3 ?h2 ?m2y2 ?m2n1 ?m2n3 ?h3 ?m3y3 ?m3n1 ?m3n2 ?h4 ?m4y1 ?m4y2 ?m4y3 ?uq
    (case a0 => k_is); (case l0 => k_is); (case c0 => k_is); (case k0 => k_is); (case a1 => k_is); (case l1 => k_is); (case c1 => k_is); (case k1 => k_is)
    (case a2 => k_is); (case l2 => k_is); (case c2 => k_is); (case k2 => k_is); (case a3 => k_is); (case l3 => k_is); (case c3 => k_is); (case k3 => k_is)
    (case a4 => k_is); (case l4 => k_is); (case c4 => k_is); (case k4 => k_is); (case a5 => k_is); (case l5 => k_is); (case c5 => k_is); (case k5 => k_is)
    (case a6 => k_is); (case l6 => k_is); (case c6 => k_is); (case k6 => k_is); (case a7 => k_is); (case l7 => k_is); (case c7 => k_is); (case k7 => k_is)
    (case a8 => k_is); (case l8 => k_is); (case c8 => k_is); (case k8 => k_is); (case a9 => k_is); (case l9 => k_is); (case c9 => k_is); (case k9 => k_is)
    (case a10 => k_is); (case l10 => k_is); (case c10 => k_is); (case k10 => k_is); (case a11 => k_is); (case l11 => k_is); (case c11 => k_is); (case k11 => k_is)
    (case a12 => k_is); (case l12 => k_is); (case c12 => k_is); (case k12 => k_is); (case a13 => k_is); (case l13 => k_is); (case c13 => k_is); (case k13 => k_is)
    (case a14 => k_is); (case l14 => k_is); (case c14 => k_is); (case k14 => k_is); (case a15 => k_is); (case l15 => k_is); (case c15 => k_is); (case k15 => k_is)
    (case a16 => k_is); (case l16 => k_is); (case c16 => k_is); (case k16 => k_is); (case a17 => k_is); (case l17 => k_is); (case c17 => k_is); (case k17 => k_is)
    (case a18 => k_is); (case l18 => k_is); (case c18 => k_is); (case k18 => k_is); (case a19 => k_is); (case l19 => k_is); (case c19 => k_is); (case k19 => k_is)
    (case a20 => k_is); (case l20 => k_is); (case c20 => k_is); (case k20 => k_is); (case a21 => k_is); (case l21 => k_is); (case c21 => k_is); (case k21 => k_is)
    (case a22 => k_is); (case l22 => k_is); (case c22 => k_is); (case k22 => k_is); (case a23 => k_is); (case l23 => k_is); (case c23 => k_is); (case k23 => k_is)
    (case a24 => k_is); (case l24 => k_is); (case c24 => k_is); (case k24 => k_is); (case a25 => k_is); (case l25 => k_is); (case c25 => k_is); (case k25 => k_is)
    (case a26 => k_is); (case l26 => k_is); (case c26 => k_is); (case k26 => k_is); (case a27 => k_is); (case l27 => k_is); (case c27 => k_is); (case k27 => k_is)
    (case a28 => k_is); (case l28 => k_is); (case c28 => k_is); (case k28 => k_is); (case a29 => k_is); (case l29 => k_is); (case c29 => k_is); (case k29 => k_is)
    (case a30 => k_is); (case l30 => k_is); (case c30 => k_is); (case k30 => k_is); (case a31 => k_is); (case l31 => k_is); (case c31 => k_is); (case k31 => k_is)
    (case a32 => k_is); (case l32 => k_is); (case c32 => k_is); (case k32 => k_is); (case a33 => k_is); (case l33 => k_is); (case c33 => k_is); (case k33 => k_is)
    (case a34 => k_is); (case l34 => k_is); (case c34 => k_is); (case k34 => k_is); (case a35 => k_is); (case l35 => k_is); (case c35 => k_is); (case k35 => k_is)
    (case a36 => k_is); (case l36 => k_is); (case c36 => k_is); (case k36 => k_is); (case a37 => k_is); (case l37 => k_is); (case c37 => k_is); (case k37 => k_is)
    (case a38 => k_is); (case l38 => k_is); (case c38 => k_is); (case k38 => k_is); (case t35 => k_is); (case v35 => exact rfl); (case u35 => kernel_rfl); (case t36 => k_is)
    (case v36 => exact rfl); (case u36 => kernel_rfl); (case t37 => k_is); (case v37 => exact rfl); (case u37 => kernel_rfl); (case z0 => k_is); (case z1 => k_is); (case z2 => k_is)
    (case z3 => k_is); (case z4 => k_is); (case z5 => k_is); (case z6 => k_is); (case z7 => k_is); (case z8 => k_is); (case z9 => k_is); (case z10 => k_is)
    (case z11 => k_is); (case jj0 => k_is); (case jj1 => k_is); (case eD => k_is); (case e1 => k_is); (case e2 => k_is); (case e3 => k_is); (case fi => k_is)
    (case iF => exact ⟨⟨_, _, _, _, _, _, _, _, _, _, _, _, _, _, _, _, _, _, _, _, _, _, _, _, _, by k_is, by kernel_rfl, fun _ _ _ => .of_eq rfl, rfl, rfl, ⟨_, _, _, _, _, _, by k_is, rfl, by kernel_rfl⟩, ⟨_, _, _, by k_is⟩, rfl, rfl, rfl, rfl, fun env => ⟨_, rfl⟩, rfl, rfl, rfl, by decide⟩, by kernel_rfl, by k_is, by kernel_rfl, by k_is, by k_is⟩); (case o1 => k_is); (case r1 => kernel_rfl); (case x1 => kernel_rfl); (case o2 => k_is); (case r2 => kernel_rfl); (case x2 => kernel_rfl); (case o3 => k_is)
    (case r3 => kernel_rfl); (case x3 => kernel_rfl); (case h0 => k_is); (case m0y1 => exact ⟨by kernel_rfl, by kernel_rfl⟩); (case m0y2 => exact ⟨by kernel_rfl, by kernel_rfl⟩); (case m0y3 => exact ⟨by kernel_rfl, by kernel_rfl⟩); (case h1 => k_is); (case m1y1 => exact ⟨by kernel_rfl, by kernel_rfl⟩)
    (case m1n2 => exact ⟨by kernel_rfl, by kernel_rfl⟩); (case m1n3 => exact ⟨by kernel_rfl, by kernel_rfl⟩); (case h2 => k_is); (case m2y2 => exact ⟨by kernel_rfl, by kernel_rfl⟩); (case m2n1 => exact ⟨by kernel_rfl, by kernel_rfl⟩); (case m2n3 => exact ⟨by kernel_rfl, by kernel_rfl⟩); (case h3 => k_is); (case m3y3 => exact ⟨by kernel_rfl, by kernel_rfl⟩)
    (case m3n1 => exact ⟨by kernel_rfl, by kernel_rfl⟩); (case m3n2 => exact ⟨by kernel_rfl, by kernel_rfl⟩); (case h4 => k_is); (case m4y1 => exact ⟨by kernel_rfl, by kernel_rfl⟩); (case m4y2 => exact ⟨by kernel_rfl, by kernel_rfl⟩); (case m4y3 => exact ⟨by kernel_rfl, by kernel_rfl⟩); (case uq => kernel_rfl)
