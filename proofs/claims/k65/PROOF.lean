import PyProof.Rows.All
import HandS.ForMost
import HandS.Exc
import HandS.TryOnly
import HandS.ExcOwn
import HandS.WordsExc
import HandS.Deep
import HandS.IsInst
import HandS.Conv
import HandS.Walk
import HandS.Wide
import HandS.TupAny
import HandS.Style
import KE.SortData
import HandS.Replace
import HandS.StrMore
import HandS.Set
import HandS.SetFor
import HandS.Strs
import KE.KRevSl
import HandS.ExcIs
import HandS.Codes
import PyProof.Rows.StrFromFirst
import HandS.RevRange
import HandS.Text
import HandS.SetKeys
import KE.DataMinMax
import Wide.All
import OpenK.AllK
import Wide.FinOn
import KE.OsGo
import PySem.Challenge.RW_gatewhole_k65_codes_by_what_is_left_over
section
set_option Elab.async false
set_option linter.all false
set_option maxRecDepth 100000
set_option autoImplicit false
namespace DL
open PySem PySem.Spec L2

/-! ### pure side -/
abbrev D := PyData
inductive Ob where
  | ls (xs : List D)
  | dk (kvs : List (Key × D))
  | dt (kvs : List (List Key × D))
inductive Sl where
  | un
  | fz (d : D)
  | ow (b : Bool) (o : Ob)
abbrev Rho := List Sl
inductive Res (α : Type) where
  | ok (a : α) (r : Rho)
  | er (c : String) (r : Rho)
  | no
def Res.bind {α β : Type} (x : Res α) (f : α → Rho → Res β) : Res β := match x with
  | .ok a r => f a r
  | .er c r => .er c r
  | .no => .no
@[simp] theorem Res.bind_ok {α β : Type} (a : α) (r : Rho) (f : α → Rho → Res β) : (Res.ok a r).bind f = f a r := Eq.trans rfl rfl
@[simp] theorem Res.bind_er {α β : Type} (c : String) (r : Rho) (f : α → Rho → Res β) : (Res.er c r).bind f = .er c r := Eq.trans rfl rfl
@[simp] theorem Res.bind_no {α β : Type} (f : α → Rho → Res β) : (Res.no).bind f = .no := Eq.trans rfl rfl
abbrev Ev (α : Type) := Rho → Res α
/-- an option as an outcome -/
def ofO {α : Type} (o : Option α) (r : Rho) : Res α := match o with
  | some a => .ok a r
  | none => .no
@[simp] theorem ofO_some {α : Type} (a : α) (r : Rho) : ofO (some a) r = .ok a r := Eq.trans rfl rfl
@[simp] theorem ofO_none {α : Type} (r : Rho) : ofO (none : Option α) r = .no := Eq.trans rfl rfl

/-! ### data that stands in the heap: its lists are tracked ones -/
mutual
inductive Dd (K : PySem.W.Frag) (H : Hp) : V → PyData → Prop
  | non : Dd K H .non .none
  | bl (b : Bool) : Dd K H (.bl b) (.bool b)
  | int (i : Int) : Dd K H (.int i) (.int i)
  | str (x : Str) : Dd K H (.str x) (.str x)
  | lst {a : Addr} {xs : List V} {ds : List PyData} : H a = some (.lst xs) → DdAll K H xs ds → Dd K H (.ref a) (.list ds)
  | tup {a : Addr} {xs : List V} {ds : List PyData} : H a = some (.tup xs) → DdAll K H xs ds → Dd K H (.ref a) (.tuple ds)
inductive DdAll (K : PySem.W.Frag) (H : Hp) : List V → List PyData → Prop
  | nil : DdAll K H [] []
  | cons {v : V} {vs : List V} {d : PyData} {ds : List PyData} : Dd K H v d → DdAll K H vs ds → DdAll K H (v :: vs) (d :: ds)
end
/-! ### heaps -/
section
variable {K : PySem.W.Frag} {H H' H1 H2 G : Hp}
theorem sqL_mono {a : Addr} {xs : List V} (s : Same H H') (h : SqL K H a xs) : SqL K H' a xs := s.seq h
theorem sqT_mono {a : Addr} {xs : List V} (s : Same H H') (h : SqT K H a xs) : SqT K H' a xs := by
  rcases h with (h | ⟨o, h⟩) | h
  · exact .inl (.inl (s _ _ h))
  · exact .inl (.inr ⟨o, s _ _ h⟩)
  · exact .inr h
mutual
theorem dd_mono (s : Same H H') : ∀ (d : PyData) (v : V), Dd K H v d → Dd K H' v d
  | .none, _, h => by cases h; exact .non
  | .bool b, _, h => by cases h; exact .bl b
  | .int i, _, h => by cases h; exact .int i
  | .str x, _, h => by cases h; exact .str x
  | .list ds, _, h => by
    cases h with
    | lst hs ha => exact .lst (s _ _ hs) (ddAll_mono s ds _ ha)
  | .tuple ds, _, h => by
    cases h with
    | tup hs ha => exact .tup (s _ _ hs) (ddAll_mono s ds _ ha)
  | .dict _, _, h => by cases h
theorem ddAll_mono (s : Same H H') : ∀ (ds : List PyData) (vs : List V), DdAll K H vs ds → DdAll K H' vs ds
  | [], _, h => by cases h; exact .nil
  | d :: ds, _, h => by
    cases h with
    | cons h1 h2 => exact .cons (dd_mono s d _ h1) (ddAll_mono s ds _ h2)
end
mutual
theorem Dd.dp : ∀ (d : PyData) (v : V), Dd K H v d → Dp K H v d
  | .none, _, h => by cases h; exact .non
  | .bool b, _, h => by cases h; exact .bl b
  | .int i, _, h => by cases h; exact .int i
  | .str x, _, h => by cases h; exact .str x
  | .list ds, _, h => by
    cases h with
    | lst hs ha => exact .lst (.inl (.inl hs)) (DdAll.dp ds _ ha)
  | .tuple ds, _, h => by
    cases h with
    | tup hs ha => exact .tup (.inl (.inl hs)) (DdAll.dp ds _ ha)
  | .dict _, _, h => by cases h
theorem DdAll.dp : ∀ (ds : List PyData) (vs : List V), DdAll K H vs ds → DpAll K H vs ds
  | [], _, h => by cases h; exact .nil
  | d :: ds, _, h => by
    cases h with
    | cons h1 h2 => exact .cons (Dd.dp d _ h1) (DdAll.dp ds _ h2)
end
theorem DdAll.length : ∀ {vs : List V} {ds : List PyData}, DdAll K H vs ds → vs.length = ds.length
  | _, _, .nil => rfl
  | _, _, .cons _ t => by simp [DdAll.length t]
theorem DdAll.get : ∀ {vs : List V} {ds : List PyData} {i : Nat} {d : PyData}, DdAll K H vs ds → ds[i]? = some d → ∃ v, vs[i]? = some v ∧ Dd K H v d
  | _, _, _, _, .nil, e => by simp at e
  | _, _, 0, _, .cons r _, e => by simp at e; subst e; exact ⟨_, rfl, r⟩
  | _, _, i + 1, d, .cons _ t, e => by
    obtain ⟨v, h1, h2⟩ := DdAll.get (i := i) (d := d) t (by simpa using e)
    exact ⟨v, by simpa using h1, h2⟩
theorem DdAll.getV : ∀ {vs : List V} {ds : List PyData} {i : Nat} {v : V}, DdAll K H vs ds → vs[i]? = some v → ∃ d, ds[i]? = some d ∧ Dd K H v d
  | _, _, _, _, .nil, e => by simp at e
  | _, _, 0, _, .cons r _, e => by simp at e; subst e; exact ⟨_, rfl, r⟩
  | _, _, i + 1, v, .cons _ t, e => by
    obtain ⟨d, h1, h2⟩ := DdAll.getV (i := i) (v := v) t (by simpa using e)
    exact ⟨d, by simpa using h1, h2⟩
theorem DdAll.append : ∀ {vs ws : List V} {ds es : List PyData}, DdAll K H vs ds → DdAll K H ws es → DdAll K H (vs ++ ws) (ds ++ es)
  | _, _, _, _, .nil, s => s
  | _, _, _, _, .cons r t, s => .cons r (DdAll.append t s)
theorem DdAll.take : ∀ {vs : List V} {ds : List PyData} (n : Nat), DdAll K H vs ds → DdAll K H (vs.take n) (ds.take n)
  | _, _, 0, _ => .nil
  | _, _, _ + 1, .nil => .nil
  | _, _, n + 1, .cons r t => .cons r (DdAll.take n t)
theorem DdAll.drop : ∀ {vs : List V} {ds : List PyData} (n : Nat), DdAll K H vs ds → DdAll K H (vs.drop n) (ds.drop n)
  | _, _, 0, r => r
  | _, _, _ + 1, .nil => .nil
  | _, _, n + 1, .cons _ t => DdAll.drop n t
theorem DdAll.set {v : V} {d : PyData} (r : Dd K H v d) : ∀ {vs : List V} {ds : List PyData} (i : Nat), DdAll K H vs ds → DdAll K H (vs.set i v) (ds.set i d)
  | _, _, _, .nil => .nil
  | _, _, 0, .cons _ t => .cons r t
  | _, _, i + 1, .cons q t => .cons q (DdAll.set r i t)
theorem DdAll.eraseIdx : ∀ {vs : List V} {ds : List PyData} (i : Nat), DdAll K H vs ds → DdAll K H (vs.eraseIdx i) (ds.eraseIdx i)
  | _, _, _, .nil => .nil
  | _, _, 0, .cons _ t => t
  | _, _, i + 1, .cons r t => .cons r (DdAll.eraseIdx i t)
theorem DdAll.reverse : ∀ {vs : List V} {ds : List PyData}, DdAll K H vs ds → DdAll K H vs.reverse ds.reverse
  | _, _, .nil => .nil
  | _, _, .cons r t => by
    rw [List.reverse_cons, List.reverse_cons]
    exact DdAll.append (DdAll.reverse t) (.cons r .nil)

/-- the heap without what is being changed -/
noncomputable def rs (N : Addr → Prop) (H : Hp) : Hp := fun p => open Classical in if N p then none else H p
theorem rs_of {N : Addr → Prop} {p : Addr} {o : HO} (h : rs N H p = some o) : H p = some o ∧ ¬ N p := by
  unfold rs at h
  by_cases n : N p
  · rw [if_pos n] at h; cases h
  · rw [if_neg n] at h; exact ⟨h, n⟩
theorem rs_mk {N : Addr → Prop} {p : Addr} {o : HO} (h : H p = some o) (n : ¬ N p) : rs N H p = some o := by
  unfold rs; rw [if_neg n]; exact h
theorem rs_sub (N : Addr → Prop) (H : Hp) : Same (rs N H) H := fun _ _ h => (rs_of h).1

/-- what was, and what is new -/
def Ex (G H H' : Hp) : Hp := fun p => match H p with
  | none => H' p
  | some _ => G p
theorem ex_old {p : Addr} {o : HO} (s : Same G H) (h : G p = some o) : Ex G H H' p = some o := by
  unfold Ex; rw [s _ _ h]; exact h
theorem ex_new {p : Addr} {o : HO} (n : H p = none) (h : H' p = some o) : Ex G H H' p = some o := by
  unfold Ex; rw [n]; exact h
theorem ex_same (s : Same G H) : Same G (Ex G H H') := fun _ _ h => ex_old s h
end

/-! ### the relation of slots -/
def Own (σ : St) (ρ : Rho) (p : Addr) : Prop := ∃ (i : Nat) (b : Bool) (o : Ob), ρ[i]? = some (Sl.ow b o) ∧ σ[i]? = some (some (V.ref p))
def Mu (M : Addr → Prop) (σ : St) (ρ : Rho) (p : Addr) : Prop := M p ∨ Own σ ρ p
def KDp {κ : Type} (K : PySem.W.Frag) (G : Hp) : List (κ × V) → List (κ × D) → Prop := Paired fun a b => a.1 = b.1 ∧ Dd K G a.2 b.2
def ObAt (K : PySem.W.Frag) (G H : Hp) (p : Addr) : Ob → Prop
  | .ls xs => ∃ vs, H p = some (.lst vs) ∧ DdAll K G vs xs
  | .dk kvs => ∃ ws, H p = some (.dK ws) ∧ KDp K G ws kvs
  | .dt kvs => ∃ ws, H p = some (.dT ws) ∧ KDp K G ws kvs
theorem KDp.mono {κ : Type} {K : PySem.W.Frag} {G G' : Hp} {ws : List (κ × V)} {kvs : List (κ × D)} (s : Same G G') (h : KDp K G ws kvs) : KDp K G' ws kvs :=
  Paired.mapP h fun _ _ z => ⟨z.1, dd_mono s _ _ z.2⟩
theorem ObAt.mono {K : PySem.W.Frag} {G G' H H' : Hp} {p : Addr} {o : Ob} (s : Same G G') (e : H' p = H p) (h : ObAt K G H p o) : ObAt K G' H' p o := by
  cases o with
  | ls xs => obtain ⟨vs, h1, h2⟩ := h; exact ⟨vs, by rw [e]; exact h1, ddAll_mono s _ _ h2⟩
  | dk kvs => obtain ⟨vs, h1, h2⟩ := h; exact ⟨vs, by rw [e]; exact h1, h2.mono s⟩
  | dt kvs => obtain ⟨vs, h1, h2⟩ := h; exact ⟨vs, by rw [e]; exact h1, h2.mono s⟩
theorem ObAt.live {K : PySem.W.Frag} {G H : Hp} {p : Addr} {o : Ob} (h : ObAt K G H p o) : ∃ u, H p = some u := by
  cases o <;> (obtain ⟨_, h, _⟩ := h; exact ⟨_, h⟩)

structure Rel (K : PySem.W.Frag) (M : Addr → Prop) (σ : St) (H : Hp) (ρ : Rho) : Prop where
  len : σ.length = ρ.length
  live : ∀ p, M p → ∃ o, H p = some o
  fz : ∀ (i : Nat) (d : D), ρ[i]? = some (Sl.fz d) → ∃ v, σ[i]? = some (some v) ∧ Dd K (rs (Mu M σ ρ) H) v d
  ow : ∀ (i : Nat) (b : Bool) (o : Ob), ρ[i]? = some (Sl.ow b o) → ∃ p, σ[i]? = some (some (V.ref p)) ∧ ¬ M p ∧ ObAt K (rs (Mu M σ ρ) H) H p o
  inj : ∀ (i j : Nat) (b : Bool) (o : Ob) (b' : Bool) (o' : Ob) (p : Addr), ρ[i]? = some (Sl.ow b o) → ρ[j]? = some (Sl.ow b' o') → σ[i]? = some (some (V.ref p)) → σ[j]? = some (some (V.ref p)) → i = j
/-- from one state to a later one -/
structure Go (σ : St) (ρ : Rho) (H : Hp) (σ' : St) (ρ' : Rho) (H' : Hp) : Prop where
  keep : ∀ p o, H p = some o → ¬ Own σ ρ p → H' p = some o
  own : ∀ p, Own σ' ρ' p → Own σ ρ p ∨ H p = none
  io : ∀ (i : Nat) (o' : Ob), ρ'[i]? = some (Sl.ow true o') → (∃ o, ρ[i]? = some (Sl.ow true o)) ∧ σ'[i]? = σ[i]?
  live : ∀ p o, H p = some o → ∃ o', H' p = some o'
theorem Go.refl {σ : St} {ρ : Rho} {H : Hp} : Go σ ρ H σ ρ H := ⟨fun _ _ h _ => h, fun _ h => .inl h, fun _ o' h => ⟨⟨o', h⟩, rfl⟩, fun _ o h => ⟨o, h⟩⟩
theorem Go.trans {σ σ1 σ2 : St} {ρ ρ1 ρ2 : Rho} {H H1 H2 : Hp} (a : Go σ ρ H σ1 ρ1 H1) (b : Go σ1 ρ1 H1 σ2 ρ2 H2) : Go σ ρ H σ2 ρ2 H2 where
  keep := fun p o h n => b.keep p o (a.keep p o h n) fun q => by
    rcases a.own p q with z | z
    · exact n z
    · rw [h] at z; cases z
  own := fun p q => by
    rcases b.own p q with z | z
    · exact a.own p z
    · cases e : H p with
      | none => exact .inr rfl
      | some o =>
        by_cases n : Own σ ρ p
        · exact .inl n
        · rw [a.keep p o e n] at z; cases z
  io := fun i o' h => by
    obtain ⟨⟨o1, h1⟩, e1⟩ := b.io i o' h
    obtain ⟨h2, e2⟩ := a.io i o1 h1
    exact ⟨h2, e1.trans e2⟩
  live := fun p o h => by
    obtain ⟨o1, h1⟩ := a.live p o h
    exact b.live p o1 h1
section
variable {K : PySem.W.Frag} {M M' : Addr → Prop} {σ σ' : St} {H H' : Hp} {ρ ρ' : Rho}
theorem Rel.olive (R : Rel K M σ H ρ) {p : Addr} (h : Own σ ρ p) : ∃ o, H p = some o := by
  obtain ⟨i, b, o, h1, h2⟩ := h
  obtain ⟨q, h3, _, h4⟩ := R.ow i b o h1
  rw [h2] at h3
  cases h3
  exact h4.live
theorem Rel.mlive (R : Rel K M σ H ρ) {p : Addr} (h : Mu M σ ρ p) : ∃ o, H p = some o := h.elim (R.live p) R.olive
/-- what is frozen stays so -/
theorem Go.same (g : Go σ ρ H σ' ρ' H') : Same (rs (Mu M σ ρ) H) (rs (Mu M σ' ρ') H') := fun p o h => by
  obtain ⟨h1, h2⟩ := rs_of h
  have n1 : ¬ M p := fun z => h2 (.inl z)
  have n2 : ¬ Own σ ρ p := fun z => h2 (.inr z)
  refine rs_mk (g.keep p o h1 n2) fun z => ?_
  rcases z with z | z
  · exact n1 z
  · rcases g.own p z with z | z
    · exact n2 z
    · rw [h1] at z; cases z
/-- fewer things are being changed -/
theorem rs_le {N N' : Addr → Prop} (h : ∀ p, N' p → N p) : Same (rs N H) (rs N' H) := fun p o e => by
  obtain ⟨h1, h2⟩ := rs_of e
  exact rs_mk h1 fun z => h2 (h p z)
theorem Rel.weak (R : Rel K M σ H ρ) (h : ∀ p, M' p → M p) : Rel K M' σ H ρ where
  len := R.len
  live := fun p z => R.live p (h p z)
  fz := fun i d e => by
    obtain ⟨v, h1, h2⟩ := R.fz i d e
    exact ⟨v, h1, dd_mono (rs_le fun p z => z.elim (fun z => .inl (h p z)) .inr) _ _ h2⟩
  ow := fun i b o e => by
    obtain ⟨p, h1, h2, h3⟩ := R.ow i b o e
    exact ⟨p, h1, fun z => h2 (h p z), h3.mono (rs_le fun p z => z.elim (fun z => .inl (h p z)) .inr) rfl⟩
  inj := R.inj
/-- new things were made alone -/
theorem Go.ext (R : Rel K M σ H ρ) (s : Same H H') : Go σ ρ H σ ρ H' := ⟨fun p o h _ => s p o h, fun _ h => .inl h, fun _ o' h => ⟨⟨o', h⟩, rfl⟩, fun p o h => ⟨o, s p o h⟩⟩
theorem Rel.ext (R : Rel K M σ H ρ) (s : Same H H') : Rel K M σ H' ρ where
  len := R.len
  live := fun p z => let ⟨o, e⟩ := R.live p z; ⟨o, s p o e⟩
  fz := fun i d e => by
    obtain ⟨v, h1, h2⟩ := R.fz i d e
    exact ⟨v, h1, dd_mono (Go.ext R s).same _ _ h2⟩
  ow := fun i b o e => by
    obtain ⟨p, h1, h2, h3⟩ := R.ow i b o e
    obtain ⟨u, hu⟩ := h3.live
    exact ⟨p, h1, h2, h3.mono (Go.ext R s).same (by rw [hu, s _ _ hu])⟩
  inj := R.inj
/-- the new things are frozen -/
theorem Rel.ex_le (R : Rel K M σ H ρ) (s : Same H H') : Same (Ex (rs (Mu M σ ρ) H) H H') (rs (Mu M σ ρ) H') := fun p o h => by
  unfold Ex at h
  cases e : H p with
  | none =>
    rw [e] at h
    refine rs_mk h fun z => ?_
    obtain ⟨u, hu⟩ := R.mlive z
    rw [e] at hu; cases hu
  | some u =>
    rw [e] at h
    obtain ⟨h1, h2⟩ := rs_of h
    exact rs_mk (s _ _ h1) h2
end

/-! ### readings -/
abbrev Cl := String → Value → Option Addr → Prop
/-- what is said of a part's value: the things changed, the slots, the heap ahead, the heap behind -/
structure Rk (α β : Type) where
  R : (Addr → Prop) → St → Rho → Hp → Hp → β → α → Prop
  mono : ∀ {M : Addr → Prop} {σ : St} {ρ : Rho} {H0 H1 H : Hp} {x : β} {a : α}, (∀ p o, H0 p = some o → ∃ o', H1 p = some o') → R M σ ρ H1 H x a → R M σ ρ H0 H x a
/-- what holds behind an outcome -/
def Pst {α β : Type} (K : PySem.W.Frag) (cl : Cl) (W : WX) (R : Rk α β) (M : Addr → Prop) (σ : St) (ρ : Rho) (H : Hp) (r : Res α) (Q : β → Hp → Prop) : Prop := match r with
  | .ok a ρ' => ∀ x H', Go σ ρ H σ ρ' H' → Rel K M σ H' ρ' → R.R M σ ρ' H H' x a → Q x H'
  | .er c ρ' => ∀ cls dd H', cl c cls dd → Go σ ρ H σ ρ' H' → Rel K M σ H' ρ' → W cls dd σ H'
  | .no => False
theorem Pst.step {α β : Type} {K : PySem.W.Frag} {cl : Cl} {W : WX} {R : Rk α β} {M : Addr → Prop} {σ : St} {ρ ρ1 : Rho} {H H1 : Hp} {r : Res α} {Q : β → Hp → Prop}
    (g : Go σ ρ H σ ρ1 H1) (h : Pst K cl W R M σ ρ H r Q) : Pst K cl W R M σ ρ1 H1 r Q := by
  cases r with
  | ok a ρ' => exact fun x H' g1 r1 q => h x H' (g.trans g1) r1 (R.mono g.live q)
  | er c ρ' => exact fun cls dd H' c1 g1 r1 => h cls dd H' c1 (g.trans g1) r1
  | no => exact h
def tG {α β : Type} (K : PySem.W.Frag) (cl : Cl) (W : WX) (R : Rk α β) (g : Ev α) : St → Hp → (β → Hp → Prop) → Prop :=
  fun σ H Q => ∃ M ρ, Rel K M σ H ρ ∧ Pst K cl W R M σ ρ H (g ρ) Q
/-- the value is data -/
def RD (K : PySem.W.Frag) : Rk D V := ⟨fun M σ ρ _ H v d => Dd K (rs (Mu M σ ρ) H) v d, fun _ h => h⟩
/-- the value is a new list of our own -/
def RO (K : PySem.W.Frag) : Rk Ob V := ⟨fun M σ ρ H0 H v o => ∃ p, v = .ref p ∧ H0 p = none ∧ ¬ Mu M σ ρ p ∧ Rel K (fun q => M q ∨ q = p) σ H ρ ∧ ObAt K (rs (Mu (fun q => M q ∨ q = p) σ ρ) H) H p o,
  fun {M σ ρ H0 H1 H x a} l h => by
    obtain ⟨p, e, n, r⟩ := h
    refine ⟨p, e, ?_, r⟩
    cases q : H0 p with
    | none => rfl
    | some o =>
      obtain ⟨o', z⟩ := l p o q
      rw [n] at z; cases z⟩
def RB : Rk Bool Bool := ⟨fun _ _ _ _ _ b c => b = c, fun _ h => h⟩
abbrev tE (K : PySem.W.Frag) (cl : Cl) (W : WX) (g : Ev D) : TE := tG K cl W (RD K) g
abbrev tO (K : PySem.W.Frag) (cl : Cl) (W : WX) (g : Ev Ob) : TE := tG K cl W (RO K) g
abbrev tT (K : PySem.W.Frag) (cl : Cl) (W : WX) (g : Ev Bool) : TT := tG K cl W RB g
theorem PE.weak {X : Cx} {e : Expr} {t t' : TE} (h : PE X e t) (w : ∀ σ H Q, t' σ H Q → t σ H Q) : PE X e t' := ⟨fun pins s σ H Q I q => h.run pins s σ H Q I (w σ H Q q)⟩
theorem PT.weak {X : Cx} {e : Expr} {t t' : TT} (h : PT X e t) (w : ∀ σ H Q, t' σ H Q → t σ H Q) : PT X e t' := ⟨fun pins s σ H Q I q => h.run pins s σ H Q I (w σ H Q q)⟩
theorem PW.weak {X : Cx} {e : Expr} {t t' : TT} (h : PW X e t) (w : ∀ σ H Q, t' σ H Q → t σ H Q) : PW X e t' := ⟨fun wh pins s σ H Q I q => h.run wh pins s σ H Q I (w σ H Q q)⟩
theorem PA.weak {X : Cx} {e : List Expr} {t t' : TA} (h : PA X e t) (w : ∀ σ H Q, t' σ H Q → t σ H Q) : PA X e t' := ⟨fun p pins s σ H Q I q => h.run p pins s σ H Q I (w σ H Q q)⟩
theorem PS.weak {X : Cx} {e : Stmt} {t t' : TS} (h : PS X e t) (w : ∀ D σ H, t' D σ H → t D σ H) : PS X e t' := ⟨fun pins s σ H D I q => h.run pins s σ H D I (w D σ H q)⟩
theorem PSs.weak {X : Cx} {e : List Stmt} {t t' : TS} (h : PSs X e t) (w : ∀ D σ H, t' D σ H → t D σ H) : PSs X e t' := ⟨fun pins s σ H D I q => h.run pins s σ H D I (w D σ H q)⟩

/-- the way through one part: the generic step -/
theorem tG_bind {α β γ δ : Type} {K : PySem.W.Frag} {cl : Cl} {W : WX} {R : Rk α β} {R' : Rk γ δ}
    {M : Addr → Prop} {σ : St} {ρ : Rho} {H : Hp} {ga : Ev α} {f : α → Rho → Res γ} {Q : δ → Hp → Prop} {k : β → Hp → Prop}
    (r : Rel K M σ H ρ) (h : Pst K cl W R' M σ ρ H ((ga ρ).bind f) Q)
    (hk : ∀ x a ρ1 H1, ga ρ = .ok a ρ1 → Go σ ρ H σ ρ1 H1 → Rel K M σ H1 ρ1 → R.R M σ ρ1 H H1 x a → Pst K cl W R' M σ ρ1 H1 (f a ρ1) Q → k x H1) : tG K cl W R ga σ H k := by
  refine ⟨M, ρ, r, ?_⟩
  cases e : ga ρ with
  | ok a ρ1 =>
    rw [e] at h
    exact fun x H1 g1 r1 q => hk x a ρ1 H1 e g1 r1 q (Pst.step g1 h)
  | er c ρ1 => rw [e] at h; exact h
  | no => rw [e] at h; exact h
end DL
end
section
set_option Elab.async false
set_option linter.all false
set_option maxRecDepth 100000
set_option autoImplicit false
namespace DL
open PySem PySem.Spec L2

/-! ### operands: data, or a variable that is looked at -/
inductive Opd where
  | g (e : Ev D)
  | b (i : Nat)
inductive OV where
  | d (x : D)
  | v (i : Nat)
/-- the data of a slot -/
def Sl.pk : Sl → Option D
  | .fz d => some d
  | .ow _ (.ls xs) => some (.list xs)
  | _ => none
def pk (ρ : Rho) (i : Nat) : Option D := (ρ[i]?).bind Sl.pk
def Opd.run : Opd → Ev OV
  | .g e => fun ρ => (e ρ).bind fun x r => .ok (.d x) r
  | .b i => fun ρ => (ofO (pk ρ i) ρ).bind fun _ r => .ok (.v i) r
def OV.fin (ρ : Rho) : OV → Option D
  | .d x => some x
  | .v i => pk ρ i
def e1 {α : Type} (f : D → Option α) (a : Opd) : Ev α := fun ρ => (a.run ρ).bind fun x r => ofO ((x.fin r).bind f) r
def e2 {α : Type} (f : D → D → Option α) (a b : Opd) : Ev α := fun ρ => (a.run ρ).bind fun x r => (b.run r).bind fun y r2 => ofO ((x.fin r2).bind fun p => (y.fin r2).bind fun q => f p q) r2
def e3 {α : Type} (f : D → D → D → Option α) (a b c : Opd) : Ev α := fun ρ => (a.run ρ).bind fun x r => (b.run r).bind fun y r2 => (c.run r2).bind fun z r3 => ofO ((x.fin r3).bind fun p => (y.fin r3).bind fun q => (z.fin r3).bind fun o => f p q o) r3
/-- what an operand's value is -/
def RV0 (K : PySem.W.Frag) (M : Addr → Prop) (σ : St) (ρ : Rho) (H : Hp) (v : V) (x : OV) : Prop := match x with
  | .d d => Dd K (rs (Mu M σ ρ) H) v d
  | .v i => σ[i]? = some (some v)
def RV (K : PySem.W.Frag) : Rk OV V := ⟨fun M σ ρ _ H v x => RV0 K M σ ρ H v x, fun _ h => h⟩
/-- data, or a list of our own that is looked at -/
def DpB (K : PySem.W.Frag) (G H : Hp) (v : V) (d : D) : Prop := Dd K G v d ∨ ∃ p vs xs, v = .ref p ∧ H p = some (.lst vs) ∧ d = .list xs ∧ DdAll K G vs xs
section
variable {K : PySem.W.Frag} {M : Addr → Prop} {σ : St} {ρ ρ' : Rho} {H H' G : Hp} {v : V} {d : D} {x : OV}
theorem DpB.dd (s : Same G H) (h : DpB K G H v d) : Dd K H v d := by
  rcases h with h | ⟨p, vs, xs, rfl, h, rfl, ha⟩
  · exact dd_mono s _ _ h
  · exact .lst h (ddAll_mono s _ _ ha)
theorem DpB.dp (s : Same G H) (h : DpB K G H v d) : Dp K H v d := Dd.dp _ _ (h.dd s)
theorem DpB.list {xs : List D} (s : Same G H) (h : DpB K G H v (.list xs)) : ∃ p vs, v = .ref p ∧ H p = some (.lst vs) ∧ DdAll K G vs xs := by
  rcases h with h | ⟨p, vs, ys, rfl, h, e, ha⟩
  · cases h with
    | lst hs ha => exact ⟨_, _, rfl, s _ _ hs, ha⟩
  · cases e
    exact ⟨p, vs, rfl, h, ha⟩
theorem DpB.tuple {xs : List D} (s : Same G H) (h : DpB K G H v (.tuple xs)) : ∃ p vs, v = .ref p ∧ G p = some (.tup vs) ∧ DdAll K G vs xs := by
  rcases h with h | ⟨p, vs, ys, rfl, h, e, ha⟩
  · cases h with
    | tup hs ha => exact ⟨_, _, rfl, hs, ha⟩
  · cases e
theorem DpB.int {i : Int} (h : DpB K G H v (.int i)) : v = .int i := by
  rcases h with h | ⟨p, vs, ys, rfl, h, e, ha⟩
  · cases h; rfl
  · cases e
theorem DpB.str {i : Str} (h : DpB K G H v (.str i)) : v = .str i := by
  rcases h with h | ⟨p, vs, ys, rfl, h, e, ha⟩
  · cases h; rfl
  · cases e
theorem DpB.bool {i : Bool} (h : DpB K G H v (.bool i)) : v = .bl i := by
  rcases h with h | ⟨p, vs, ys, rfl, h, e, ha⟩
  · cases h; rfl
  · cases e
theorem DpB.none (h : DpB K G H v .none) : v = .non := by
  rcases h with h | ⟨p, vs, ys, rfl, h, e, ha⟩
  · cases h; rfl
  · cases e
theorem RV0.go (g : Go σ ρ H σ ρ' H') (h : RV0 K M σ ρ H v x) : RV0 K M σ ρ' H' v x := by
  cases x with
  | d d => exact dd_mono g.same _ _ h
  | v i => exact h
theorem RV0.fin (R : Rel K M σ H ρ) (h : RV0 K M σ ρ H v x) (e : x.fin ρ = some d) : DpB K (rs (Mu M σ ρ) H) H v d := by
  cases x with
  | d d' =>
    have e : d' = d := Option.some.inj e
    subst e
    exact .inl h
  | v i =>
    have h : σ[i]? = some (some v) := h
    have e : (ρ[i]?).bind Sl.pk = some d := e
    cases q : ρ[i]? with
    | none => rw [q] at e; cases e
    | some sl =>
      rw [q] at e
      cases sl with
      | un => cases e
      | fz d' =>
        have e : d' = d := Option.some.inj e
        subst e
        obtain ⟨w, h1, h2⟩ := R.fz i _ q
        rw [h] at h1; cases h1
        exact .inl h2
      | ow b o =>
        obtain ⟨p, h1, h2, h3⟩ := R.ow i b o q
        rw [h] at h1; cases h1
        cases o with
        | ls xs =>
          obtain ⟨vs, h4, h5⟩ := h3
          have e : PyData.list xs = d := Option.some.inj e
          exact .inr ⟨p, vs, xs, rfl, h4, e.symm, h5⟩
        | dk _ => cases e
        | dt _ => cases e
end
abbrev tP (K : PySem.W.Frag) (cl : Cl) (W : WX) (a : Opd) : TE := tG K cl W (RV K) a.run
section
variable {X : Cx} {cl : Cl} {W : WX} {e : Expr}
/-- an expression as an operand -/
theorem o_g {g : Ev D} (h : PE X e (tE X.K cl W g)) : PE X e (tP X.K cl W (.g g)) := by
  refine PE.weak h ?_
  rintro σ H Q ⟨M, ρ, r, p⟩
  refine tG_bind (f := fun x r => Res.ok (OV.d x) r) r p fun v d ρ1 H1 _ g1 r1 q p1 => ?_
  exact p1 v H1 Go.refl r1 q
/-- a variable that is looked at -/
theorem o_b {i : Nat} (h : PE X e (tVar i)) : PE X e (tP X.K cl W (.b i)) := by
  refine PE.weak h ?_
  rintro σ H Q ⟨M, ρ, R, p⟩
  have p : Pst X.K cl W (RV X.K) M σ ρ H ((ofO (pk ρ i) ρ).bind fun _ r => .ok (.v i) r) Q := p
  cases q : pk ρ i with
  | none => rw [q] at p; exact p.elim
  | some d =>
    rw [q] at p
    unfold pk at q
    cases e : ρ[i]? with
    | none => rw [e] at q; cases q
    | some sl =>
      rw [e] at q
      cases sl with
      | un => cases q
      | fz d' =>
        obtain ⟨v, h1, _⟩ := R.fz i d' e
        exact ⟨v, h1, p v H Go.refl R h1⟩
      | ow b o =>
        obtain ⟨a, h1, _⟩ := R.ow i b o e
        exact ⟨_, h1, p _ H Go.refl R h1⟩
end

/-! ### sound operations -/
def Sd1 (K : PySem.W.Frag) (r : V → Hp → VK → Prop) (f : D → Option D) : Prop := ∀ G H v d1 d Q, Same G H → DpB K G H v d1 → f d1 = some d → (∀ u H', Same H H' → Dd K (Ex G H H') u d → Q u H') → r v H Q
def Sd2 (K : PySem.W.Frag) (r : R2) (f : D → D → Option D) : Prop := ∀ G H v w d1 d2 d Q, Same G H → DpB K G H v d1 → DpB K G H w d2 → f d1 d2 = some d → (∀ u H', Same H H' → Dd K (Ex G H H') u d → Q u H') → r v w H Q
def So1 (K : PySem.W.Frag) (r : V → Hp → VK → Prop) (f : D → Option Ob) : Prop := ∀ G H v d1 o Q, Same G H → DpB K G H v d1 → f d1 = some o → (∀ p H', Same H H' → H p = none → ObAt K G H' p o → Q (.ref p) H') → r v H Q
def So2 (K : PySem.W.Frag) (r : R2) (f : D → D → Option Ob) : Prop := ∀ G H v w d1 d2 o Q, Same G H → DpB K G H v d1 → DpB K G H w d2 → f d1 d2 = some o → (∀ p H', Same H H' → H p = none → ObAt K G H' p o → Q (.ref p) H') → r v w H Q
section
variable {K : PySem.W.Frag} {cl : Cl} {W : WX} {M : Addr → Prop} {σ : St} {ρ : Rho} {H : Hp}
/-- an operation's end: data -/
theorem end_d {f : Option D} {Q : VK} (R : Rel K M σ H ρ) (p : Pst K cl W (RD K) M σ ρ H (ofO f ρ) Q) {C : Prop} (h : ∀ d, f = some d → (∀ u H', Same H H' → Dd K (Ex (rs (Mu M σ ρ) H) H H') u d → Q u H') → C) : C := by
  cases f with
  | none => exact p.elim
  | some d => exact h d rfl fun u H' s q => p u H' (Go.ext R s) (R.ext s) (dd_mono (R.ex_le s) _ _ q)
theorem Rel.plus {H' : Hp} {p : Addr} {o : Ob} (R : Rel K M σ H ρ) (s : Same H H') (hp : H p = none) (hl : ∃ u, H' p = some u) : Rel K (fun q => M q ∨ q = p) σ H' ρ where
  len := R.len
  live := fun q z => by
    rcases z with z | z
    · obtain ⟨o, e⟩ := R.live q z; exact ⟨o, s q o e⟩
    · rw [z]; exact hl
  fz := fun i d e => by
    obtain ⟨v, h1, h2⟩ := R.fz i d e
    refine ⟨v, h1, dd_mono (fun q o e => ?_) _ _ h2⟩
    obtain ⟨e1, e2⟩ := rs_of e
    refine rs_mk (s _ _ e1) fun z => ?_
    rcases z with (z | z) | z
    · exact e2 (.inl z)
    · rw [z, hp] at e1; cases e1
    · exact e2 (.inr z)
  ow := fun i b o e => by
    obtain ⟨q, h1, h2, h3⟩ := R.ow i b o e
    obtain ⟨u, hu⟩ := h3.live
    refine ⟨q, h1, fun z => ?_, h3.mono (fun q o e => ?_) (by rw [hu, s _ _ hu])⟩
    · rcases z with z | z
      · exact h2 z
      · rw [z, hp] at hu; cases hu
    · obtain ⟨e1, e2⟩ := rs_of e
      refine rs_mk (s _ _ e1) fun z => ?_
      rcases z with (z | z) | z
      · exact e2 (.inl z)
      · rw [z, hp] at e1; cases e1
      · exact e2 (.inr z)
  inj := R.inj
theorem end_o {f : Option Ob} {Q : VK} (R : Rel K M σ H ρ) (p : Pst K cl W (RO K) M σ ρ H (ofO f ρ) Q) {C : Prop} (h : ∀ o, f = some o → (∀ q H', Same H H' → H q = none → ObAt K (rs (Mu M σ ρ) H) H' q o → Q (.ref q) H') → C) : C := by
  cases f with
  | none => exact p.elim
  | some o =>
    refine h o rfl fun q H' s n ob => p (.ref q) H' (Go.ext R s) (R.ext s) ⟨q, rfl, n, fun z => ?_, R.plus (o := o) s n ob.live, ob.mono (fun b u e => ?_) rfl⟩
    · obtain ⟨u, hu⟩ := R.mlive z
      rw [n] at hu; cases hu
    · obtain ⟨e1, e2⟩ := rs_of e
      refine rs_mk (s _ _ e1) fun z => ?_
      rcases z with (z | z) | z
      · exact e2 (.inl z)
      · rw [z, n] at e1; cases e1
      · exact e2 (.inr z)
theorem tOp_d {r : R2} {f : D → D → Option D} {A B : Opd} (S : Sd2 K r f) (σ : St) (H : Hp) (Q : VK) (h : tE K cl W (e2 f A B) σ H Q) : tOp r (tP K cl W A) (tP K cl W B) σ H Q := by
  obtain ⟨M, ρ, R, p⟩ := h
  refine tG_bind R p fun v x ρ1 H1 _ g1 R1 q1 p1 => ?_
  refine tG_bind R1 p1 fun w y ρ2 H2 _ g2 R2 q2 p2 => ?_
  refine end_d R2 p2 fun d e k => ?_
  obtain ⟨d1, e1, e⟩ := Option.bind_eq_some_iff.mp e
  obtain ⟨d2, e2, e⟩ := Option.bind_eq_some_iff.mp e
  exact S _ H2 v w d1 d2 d Q (rs_sub _ _) ((RV0.go g2 q1).fin R2 e1) (RV0.fin R2 q2 e2) e k
theorem tOp_o {r : R2} {f : D → D → Option Ob} {A B : Opd} (S : So2 K r f) (σ : St) (H : Hp) (Q : VK) (h : tO K cl W (e2 f A B) σ H Q) : tOp r (tP K cl W A) (tP K cl W B) σ H Q := by
  obtain ⟨M, ρ, R, p⟩ := h
  refine tG_bind R p fun v x ρ1 H1 _ g1 R1 q1 p1 => ?_
  refine tG_bind R1 p1 fun w y ρ2 H2 _ g2 R2 q2 p2 => ?_
  refine end_o R2 p2 fun d e k => ?_
  obtain ⟨d1, e1, e⟩ := Option.bind_eq_some_iff.mp e
  obtain ⟨d2, e2, e⟩ := Option.bind_eq_some_iff.mp e
  exact S _ H2 v w d1 d2 d Q (rs_sub _ _) ((RV0.go g2 q1).fin R2 e1) (RV0.fin R2 q2 e2) e k
theorem tUn_d {r : V → Hp → VK → Prop} {f : D → Option D} {A : Opd} (S : Sd1 K r f) (σ : St) (H : Hp) (Q : VK) (h : tE K cl W (e1 f A) σ H Q) : tUn r (tP K cl W A) σ H Q := by
  obtain ⟨M, ρ, R, p⟩ := h
  refine tG_bind R p fun v x ρ1 H1 _ g1 R1 q1 p1 => ?_
  refine end_d R1 p1 fun d e k => ?_
  obtain ⟨d1, e1, e⟩ := Option.bind_eq_some_iff.mp e
  exact S _ H1 v d1 d Q (rs_sub _ _) (RV0.fin R1 q1 e1) e k
theorem tUn_o {r : V → Hp → VK → Prop} {f : D → Option Ob} {A : Opd} (S : So1 K r f) (σ : St) (H : Hp) (Q : VK) (h : tO K cl W (e1 f A) σ H Q) : tUn r (tP K cl W A) σ H Q := by
  obtain ⟨M, ρ, R, p⟩ := h
  refine tG_bind R p fun v x ρ1 H1 _ g1 R1 q1 p1 => ?_
  refine end_o R1 p1 fun d e k => ?_
  obtain ⟨d1, e1, e⟩ := Option.bind_eq_some_iff.mp e
  exact S _ H1 v d1 d Q (rs_sub _ _) (RV0.fin R1 q1 e1) e k
end
/-- a pure value that needs no heap -/
theorem keep_ {K : PySem.W.Frag} {G H : Hp} {u : V} {d : D} {Q : VK} (k : ∀ u H', Same H H' → Dd K (Ex G H H') u d → Q u H') (h : Dd K (Ex G H H) u d) : Q u H := k u H (Same.refl H) h
end DL
end
section
set_option Elab.async false
set_option linter.all false
set_option maxRecDepth 100000
set_option autoImplicit false
namespace DL
open PySem PySem.Spec L2

theorem line_ : sizeLine = 16777216 := sizeLine_eq
section
variable {K : PySem.W.Frag} {X : Cx}

/-! ### + -/
def addD : D → D → Option D
  | .int i, .int j => some (.int (i + j))
  | .str x, .str y => if x.length + y.length ≤ 16777216 then some (.str (x ++ y)) else none
  | .tuple xs, .tuple ys => if xs.length + ys.length ≤ 16777216 then some (.tuple (xs ++ ys)) else none
  | _, _ => none
def rAddD (K : PySem.W.Frag) : R2 := fun x y H Q => rI0 (fun i j => .int (i + j)) x y H Q ∨ (∃ i j, x = .str i ∧ y = .str j ∧ i.length + j.length ≤ sizeLine ∧ Q (.str (i ++ j)) H) ∨ rCatA K x y H Q
theorem op_addD : OpR X (binaryOp .Add) (rAddD X.K) := op_add.or (op_add_str.or op_catA)
theorem ddAll_nil {G : Hp} {vs : List V} (h : DdAll K G vs []) : vs = [] := by cases h; rfl
theorem ddAll_nilV {G : Hp} {ds : List D} (h : DdAll K G [] ds) : ds = [] := by cases h; rfl
theorem sd_add : Sd2 K (rAddD K) addD := by
  intro G H v w d1 d2 d Q s h1 h2 e k
  unfold addD at e
  split at e
  · cases e
    exact .inl ⟨_, _, h1.int, h2.int, keep_ k (.int _)⟩
  · split at e
    · rename_i hl
      cases e
      exact .inr (.inl ⟨_, _, h1.str, h2.str, by rw [line_]; exact hl, keep_ k (.str _)⟩)
    · cases e
  · split at e
    · rename_i xs ys hl
      cases e
      obtain ⟨a, vs, rfl, ha, da⟩ := h1.tuple s
      obtain ⟨b, ws, rfl, hb, db⟩ := h2.tuple s
      have la := da.length
      have lb := db.length
      refine .inr (.inr ⟨a, b, vs, ws, rfl, rfl, .inl (.inl (s _ _ ha)), .inl (.inl (s _ _ hb)), by rw [line_]; omega, fun z => ?_, fun _ z => ?_, fun _ _ p n => ?_⟩)
      · subst z
        have e0 := ddAll_nilV da
        subst e0
        exact keep_ k (dd_mono (ex_same s) _ _ (.tup hb db))
      · subst z
        have e0 := ddAll_nilV db
        subst e0
        rw [List.append_nil] at k
        exact keep_ k (dd_mono (ex_same s) _ _ (.tup ha da))
      · refine k _ _ (fun q o e => by rw [upd_ne (ne_of_none e n)]; exact e) (.tup (ex_new n upd_same) ?_)
        exact (ddAll_mono (ex_same s) _ _ da).append (ddAll_mono (ex_same s) _ _ db)
    · cases e
  · cases e
/-- list + list: a list of our own -/
def catO : D → D → Option Ob
  | .list xs, .list ys => if xs.length + ys.length ≤ 16777216 then some (.ls (xs ++ ys)) else none
  | _, _ => none
theorem so_cat : So2 K rCat catO := by
  intro G H v w d1 d2 o Q s h1 h2 e k
  unfold catO at e
  split at e
  · split at e
    · rename_i xs ys hl
      cases e
      obtain ⟨a, vs, rfl, ha, da⟩ := h1.list s
      obtain ⟨b, ws, rfl, hb, db⟩ := h2.list s
      have la := da.length
      have lb := db.length
      refine ⟨a, b, vs, ws, rfl, rfl, ha, hb, by rw [line_]; omega, fun p n => ?_⟩
      exact k p _ (fun q o e => by rw [upd_ne (ne_of_none e n)]; exact e) n ⟨_, upd_same, da.append db⟩
    · cases e
  · cases e

/-! ### ints -/
def subD : D → D → Option D
  | .int i, .int j => some (.int (i - j))
  | _, _ => none
theorem sd_sub : Sd2 K (rI0 fun i j => .int (i - j)) subD := by
  intro G H v w d1 d2 d Q s h1 h2 e k
  unfold subD at e
  split at e
  · cases e
    exact ⟨_, _, h1.int, h2.int, keep_ k (.int _)⟩
  · cases e
/-- the product, one factor below 2 ^ 64 -/
def mulD : D → D → Option D
  | .int i, .int j => if (-(2 ^ 64) < i ∧ i < 2 ^ 64) ∨ (-(2 ^ 64) < j ∧ j < 2 ^ 64) then some (.int (i * j)) else none
  | _, _ => none
theorem sd_mul : Sd2 K (rI CMul fun i j => .int (i * j)) mulD := by
  intro G H v w d1 d2 d Q s h1 h2 e k
  unfold mulD at e
  split at e
  · split at e
    · rename_i hc
      cases e
      exact ⟨_, _, h1.int, h2.int, hc, keep_ k (.int _)⟩
    · cases e
  · cases e
def modD : D → D → Option D
  | .int i, .int j => if j ≠ 0 then some (.int (i.fmod j)) else none
  | _, _ => none
theorem sd_mod : Sd2 K (rI (fun _ j => j ≠ 0) fun i j => .int (i.fmod j)) modD := by
  intro G H v w d1 d2 d Q s h1 h2 e k
  unfold modD at e
  split at e
  · split at e
    · rename_i hc
      cases e
      exact ⟨_, _, h1.int, h2.int, hc, keep_ k (.int _)⟩
    · cases e
  · cases e
def fdivD : D → D → Option D
  | .int i, .int j => if j ≠ 0 ∧ j.natAbs < 1073741824 then some (.int (i.fdiv j)) else none
  | _, _ => none
theorem sd_fdiv : Sd2 K (rI CDivN fun i j => .int (i.fdiv j)) fdivD := by
  intro G H v w d1 d2 d Q s h1 h2 e k
  unfold fdivD at e
  split at e
  · split at e
    · rename_i hc
      cases e
      exact ⟨_, _, h1.int, h2.int, hc, keep_ k (.int _)⟩
    · cases e
  · cases e
def powD : D → D → Option D
  | .int i, .int j => if 0 ≤ j ∧ j ≤ 1000000 ∧ i.natAbs < 2 ^ 64 then some (.int (i ^ j.toNat)) else none
  | _, _ => none
theorem sd_pow : Sd2 K (rI CPow fun i j => .int (i ^ j.toNat)) powD := by
  intro G H v w d1 d2 d Q s h1 h2 e k
  unfold powD at e
  split at e
  · split at e
    · rename_i hc
      cases e
      exact ⟨_, _, h1.int, h2.int, hc, keep_ k (.int _)⟩
    · cases e
  · cases e
def negD : D → Option D
  | .int i => some (.int (-i))
  | _ => none
theorem sd_neg : Sd1 K (rU fun i => .int (-i)) negD := by
  intro G H v d1 d Q s h1 e k
  unfold negD at e
  split at e
  · cases e
    exact ⟨_, h1.int, keep_ k (.int _)⟩
  · cases e

/-! ### comparisons -/
def eqD (d e : D) : Option D := if SeqAt.shaped d = true ∧ SeqAt.shaped e = true then some (.bool (PyData.eqv d e)) else none
def neD (d e : D) : Option D := if SeqAt.shaped d = true ∧ SeqAt.shaped e = true then some (.bool (!PyData.eqv d e)) else none
theorem sd_eq : Sd2 K (rEqD K) eqD := by
  intro G H v w d1 d2 d Q s h1 h2 e k
  unfold eqD at e
  split at e
  · rename_i hc
    cases e
    exact ⟨d1, d2, h1.dp s, h2.dp s, hc.1, hc.2, keep_ k (.bl _)⟩
  · cases e
theorem sd_ne : Sd2 K (rNeD K) neD := by
  intro G H v w d1 d2 d Q s h1 h2 e k
  unfold neD at e
  split at e
  · rename_i hc
    cases e
    exact ⟨d1, d2, h1.dp s, h2.dp s, hc.1, hc.2, keep_ k (.bl _)⟩
  · cases e
def cmpI (p : Int → Int → Bool) : D → D → Option D
  | .int i, .int j => some (.bool (p i j))
  | _, _ => none
theorem sd_cmpI (p : Int → Int → Bool) : Sd2 K (rI0 fun i j => .bl (p i j)) (cmpI p) := by
  intro G H v w d1 d2 d Q s h1 h2 e k
  unfold cmpI at e
  split at e
  · cases e
    exact ⟨_, _, h1.int, h2.int, keep_ k (.bl _)⟩
  · cases e
def inAny (d : D) (ds : List D) : Bool := ds.any fun z => PyData.eqv z d
def inD : D → D → Option D
  | d, .list ds => if SeqAt.shaped d = true ∧ SeqAt.shaped (.list ds) = true then some (.bool (inAny d ds)) else none
  | d, .tuple ds => if SeqAt.shaped d = true ∧ SeqAt.shaped (.tuple ds) = true then some (.bool (inAny d ds)) else none
  | .str i, .str j => some (.bool (!(Builtin.Str.occurrences j i 0 j.length 1).isEmpty))
  | _, _ => none
def notInD : D → D → Option D
  | d, .list ds => if SeqAt.shaped d = true ∧ SeqAt.shaped (.list ds) = true then some (.bool (!inAny d ds)) else none
  | d, .tuple ds => if SeqAt.shaped d = true ∧ SeqAt.shaped (.tuple ds) = true then some (.bool (!inAny d ds)) else none
  | .str i, .str j => some (.bool (!(!(Builtin.Str.occurrences j i 0 j.length 1).isEmpty)))
  | _, _ => none
def rInT (K : PySem.W.Frag) : R2 := fun x y H Q => ∃ d ds, Dp K H x d ∧ Dp K H y (.tuple ds) ∧ SeqAt.shaped d = true ∧ SeqAt.shaped (.tuple ds) = true ∧ Q (.bl (ds.any fun z => PyData.eqv z d)) H
def rNotInT (K : PySem.W.Frag) : R2 := fun x y H Q => ∃ d ds, Dp K H x d ∧ Dp K H y (.tuple ds) ∧ SeqAt.shaped d = true ∧ SeqAt.shaped (.tuple ds) = true ∧ Q (.bl (!ds.any fun z => PyData.eqv z d)) H
theorem op_inT (hu : X.A.units + 65 < cLine) : OpR X (compareOp .In) (rInT X.K) := by
  intro pins s σ H x y v u Q I rx ry h
  obtain ⟨d, ds, hd, he, sd, se, q⟩ := h
  obtain ⟨as, r1⟩ := Dp.reads I d x v hd rx
  obtain ⟨bs, r2⟩ := Dp.reads I (.tuple ds) y u he ry
  exact SeqAt.in_tuple_reads r2 r1 (SeqAt.canLay_of_shaped se) (SeqAt.canLay_of_shaped sd) (PyProof.Rows.room_in_shaped sd hu) ⟨.bl _, H, I, rfl, q⟩
theorem op_notInT (hu : X.A.units + 65 < cLine) : OpR X (compareOp .NotIn) (rNotInT X.K) := by
  intro pins s σ H x y v u Q I rx ry h
  obtain ⟨d, ds, hd, he, sd, se, q⟩ := h
  obtain ⟨as, r1⟩ := Dp.reads I d x v hd rx
  obtain ⟨bs, r2⟩ := Dp.reads I (.tuple ds) y u he ry
  exact SeqAt.notIn_tuple_reads r2 r1 (SeqAt.canLay_of_shaped se) (SeqAt.canLay_of_shaped sd) (PyProof.Rows.room_in_shaped sd hu) ⟨.bl _, H, I, rfl, q⟩
def rInAll (K : PySem.W.Frag) : R2 := fun x y H Q => rInD K x y H Q ∨ rInT K x y H Q ∨ ∃ i j, x = .str i ∧ y = .str j ∧ Q (.bl (!(Builtin.Str.occurrences j i 0 j.length 1).isEmpty)) H
def rNotInAll (K : PySem.W.Frag) : R2 := fun x y H Q => rNotInD K x y H Q ∨ rNotInT K x y H Q ∨ ∃ i j, x = .str i ∧ y = .str j ∧ Q (.bl (!(!(Builtin.Str.occurrences j i 0 j.length 1).isEmpty))) H
theorem op_inAll (hu : X.A.units + 65 < cLine) : OpR X (compareOp .In) (rInAll X.K) := (op_inD hu).or ((op_inT hu).or op_in_str)
theorem op_notInAll (hu : X.A.units + 65 < cLine) : OpR X (compareOp .NotIn) (rNotInAll X.K) := (op_notInD hu).or ((op_notInT hu).or op_notin_str)
theorem sd_in : Sd2 K (rInAll K) inD := by
  intro G H v w d1 d2 d Q s h1 h2 e k
  unfold inD at e
  split at e
  · split at e
    · rename_i hc
      cases e
      exact .inl ⟨_, _, h1.dp s, h2.dp s, hc.1, hc.2, keep_ k (.bl _)⟩
    · cases e
  · split at e
    · rename_i hc
      cases e
      exact .inr (.inl ⟨_, _, h1.dp s, h2.dp s, hc.1, hc.2, keep_ k (.bl _)⟩)
    · cases e
  · cases e
    exact .inr (.inr ⟨_, _, h1.str, h2.str, keep_ k (.bl _)⟩)
  · cases e
theorem sd_notIn : Sd2 K (rNotInAll K) notInD := by
  intro G H v w d1 d2 d Q s h1 h2 e k
  unfold notInD at e
  split at e
  · split at e
    · rename_i hc
      cases e
      exact .inl ⟨_, _, h1.dp s, h2.dp s, hc.1, hc.2, keep_ k (.bl _)⟩
    · cases e
  · split at e
    · rename_i hc
      cases e
      exact .inr (.inl ⟨_, _, h1.dp s, h2.dp s, hc.1, hc.2, keep_ k (.bl _)⟩)
    · cases e
  · cases e
    exact .inr (.inr ⟨_, _, h1.str, h2.str, keep_ k (.bl _)⟩)
  · cases e
/-- is None -/
def isND : D → D → Option D
  | .none, .none => some (.bool true)
  | _, .none => some (.bool false)
  | _, _ => none
def notND : D → D → Option D
  | .none, .none => some (.bool false)
  | _, .none => some (.bool true)
  | _, _ => none
theorem DpB.nn {G H : Hp} {v : V} {d : D} (h : DpB K G H v d) (n : d ≠ .none) : decide (v = V.non) = false := by
  refine decide_eq_false fun e => ?_
  subst e
  rcases h with h | ⟨p, vs, ys, e, h, e2, ha⟩
  · cases h; exact n rfl
  · cases e
theorem sd_isN : Sd2 K (fun x y H Q => y = .non ∧ Q (.bl (decide (x = .non))) H) isND := by
  intro G H v w d1 d2 d Q s h1 h2 e k
  unfold isND at e
  split at e
  · cases e
    rw [h1.none, h2.none]
    exact ⟨rfl, keep_ k (.bl _)⟩
  · rename_i hn
    cases e
    refine ⟨h2.none, ?_⟩
    rw [h1.nn fun z => hn z]
    exact keep_ k (.bl _)
  · cases e
theorem sd_notN : Sd2 K (fun x y H Q => y = .non ∧ Q (.bl (!decide (x = .non))) H) notND := by
  intro G H v w d1 d2 d Q s h1 h2 e k
  unfold notND at e
  split at e
  · cases e
    rw [h1.none, h2.none]
    exact ⟨rfl, keep_ k (.bl _)⟩
  · rename_i hn
    cases e
    refine ⟨h2.none, ?_⟩
    rw [h1.nn fun z => hn z]
    exact keep_ k (.bl _)
  · cases e
/-- is True, is False, of truth values -/
def isBD : D → D → Option D
  | .bool a, .bool b => some (.bool (decide (a = b)))
  | _, _ => none
def notBD : D → D → Option D
  | .bool a, .bool b => some (.bool (!decide (a = b)))
  | _, _ => none
theorem sd_isB : Sd2 K rIsB isBD := by
  intro G H v w d1 d2 d Q s h1 h2 e k
  unfold isBD at e
  split at e
  · cases e
    exact ⟨_, _, h1.bool, h2.bool, keep_ k (.bl _)⟩
  · cases e
theorem sd_notB : Sd2 K rNotB notBD := by
  intro G H v w d1 d2 d Q s h1 h2 e k
  unfold notBD at e
  split at e
  · cases e
    exact ⟨_, _, h1.bool, h2.bool, keep_ k (.bl _)⟩
  · cases e

/-! ### subscripts -/
def ixD : D → D → Option D
  | .list xs, .int i => atI xs i
  | .tuple xs, .int i => atI xs i
  | .str z, .int i => if z.length ≤ 16777216 then (atI z.cps.toList i).map fun c => .str ⟨#[c]⟩ else none
  | _, _ => none
theorem atI_dd {G : Hp} {vs : List V} {ds : List D} {i : Int} {d : D} (h : DdAll K G vs ds) (e : atI ds i = some d) : ∃ v, atI vs i = some v ∧ Dd K G v d := by
  have hl := h.length
  unfold atI at e ⊢
  rw [hl]
  obtain ⟨j, ej, e⟩ := Option.bind_eq_some_iff.mp e
  rw [ej]
  exact h.get e
theorem sd_ix : Sd2 K (rIx K) ixD := by
  intro G H v w d1 d2 d Q s h1 h2 e k
  unfold ixD at e
  split at e
  · obtain ⟨p, vs, rfl, hp, hd⟩ := h1.list s
    obtain ⟨x, e1, dx⟩ := atI_dd hd e
    exact .inl ⟨p, vs, _, x, rfl, h2.int, .inl (.inl hp), e1, keep_ k (dd_mono (ex_same s) _ _ dx)⟩
  · obtain ⟨p, vs, rfl, hp, hd⟩ := h1.tuple s
    obtain ⟨x, e1, dx⟩ := atI_dd hd e
    exact .inr (.inl ⟨p, vs, _, x, rfl, h2.int, .inl (.inl (s _ _ hp)), e1, keep_ k (dd_mono (ex_same s) _ _ dx)⟩)
  · split at e
    · rename_i hz
      cases q : atI (_ : Str).cps.toList _ with
      | none => rw [q] at e; cases e
      | some c =>
        rw [q] at e
        cases e
        exact .inr (.inr ⟨_, _, c, h1.str, h2.int, by rw [line_]; exact hz, q, keep_ k (.str _)⟩)
    · cases e
  · cases e
end
end DL
end
section
set_option Elab.async false
set_option linter.all false
set_option maxRecDepth 100000
set_option autoImplicit false
namespace DL
open PySem PySem.Spec L2

/-! ### names, constants -/
/-- a variable's data (a list of our own is frozen by it) -/
def eV (i : Nat) : Ev D := fun ρ => match ρ[i]? with
  | some (.fz d) => .ok d ρ
  | some (.ow false (.ls xs)) => .ok (.list xs) (ρ.set i (.fz (.list xs)))
  | _ => .no
def eC (d : D) : Ev D := fun ρ => .ok d ρ
/-- a list of our own as data -/
def eFz (g : Ev Ob) : Ev D := fun ρ => (g ρ).bind fun o r => match o with
  | .ls xs => .ok (.list xs) r
  | _ => .no
section
variable {K : PySem.W.Frag} {M : Addr → Prop} {σ : St} {ρ : Rho} {H : Hp}
theorem own_set {i : Nat} {sl : Sl} (hn : ∀ b o, sl ≠ .ow b o) {p : Addr} (h : Own σ (ρ.set i sl) p) : Own σ ρ p := by
  obtain ⟨j, b, o, h1, h2⟩ := h
  by_cases e : i = j
  · subst e
    by_cases hl : i < ρ.length
    · rw [List.getElem?_set_self hl] at h1
      exact absurd (Option.some.inj h1) (hn b o)
    · rw [List.getElem?_eq_none (by simpa using hl)] at h1; cases h1
  · rw [List.getElem?_set_ne e] at h1
    exact ⟨j, b, o, h1, h2⟩
/-- a list of our own is frozen -/
theorem Rel.frz (R : Rel K M σ H ρ) {i : Nat} {xs : List D} (e : ρ[i]? = some (.ow false (.ls xs))) : Rel K M σ H (ρ.set i (.fz (.list xs))) := by
  have hl : i < ρ.length := (List.getElem?_eq_some_iff.mp e).1
  have os : ∀ p, Own σ (ρ.set i (.fz (.list xs))) p → Own σ ρ p := fun p => own_set fun _ _ z => by cases z
  have le : ∀ p, Mu M σ (ρ.set i (.fz (.list xs))) p → Mu M σ ρ p := fun p z => z.elim .inl fun z => .inr (os p z)
  obtain ⟨a, h1, h2, vs, h3, h4⟩ := R.ow i _ _ e
  refine ⟨by rw [R.len, List.length_set], R.live, fun j d q => ?_, fun j b o q => ?_, fun j k b o b' o' p q1 q2 q3 q4 => ?_⟩
  · by_cases ij : i = j
    · subst ij
      rw [List.getElem?_set_self hl] at q
      cases q
      refine ⟨_, h1, .lst (rs_mk h3 fun z => ?_) (ddAll_mono (rs_le le) _ _ h4)⟩
      rcases z with z | ⟨k, b, o, z1, z2⟩
      · exact h2 z
      · by_cases ik : i = k
        · subst ik
          rw [List.getElem?_set_self hl] at z1; cases z1
        · rw [List.getElem?_set_ne ik] at z1
          exact ik (R.inj i k _ _ _ _ a e z1 h1 z2)
    · rw [List.getElem?_set_ne ij] at q
      obtain ⟨v, g1, g2⟩ := R.fz j d q
      exact ⟨v, g1, dd_mono (rs_le le) _ _ g2⟩
  · by_cases ij : i = j
    · subst ij
      rw [List.getElem?_set_self hl] at q; cases q
    · rw [List.getElem?_set_ne ij] at q
      obtain ⟨p, g1, g2, g3⟩ := R.ow j b o q
      exact ⟨p, g1, g2, g3.mono (rs_le le) rfl⟩
  · by_cases ij : i = j
    · subst ij
      rw [List.getElem?_set_self hl] at q1; cases q1
    · by_cases ik : i = k
      · subst ik
        rw [List.getElem?_set_self hl] at q2; cases q2
      · rw [List.getElem?_set_ne ij] at q1
        rw [List.getElem?_set_ne ik] at q2
        exact R.inj j k _ _ _ _ p q1 q2 q3 q4
theorem Go.frz (R : Rel K M σ H ρ) {i : Nat} {xs : List D} (e : ρ[i]? = some (.ow false (.ls xs))) : Go σ ρ H σ (ρ.set i (.fz (.list xs))) H := by
  refine ⟨fun _ _ h _ => h, fun p h => .inl (own_set (fun _ _ z => by cases z) h), fun j o' h => ⟨?_, rfl⟩, fun _ o h => ⟨o, h⟩⟩
  by_cases ij : i = j
  · subst ij
    rw [List.getElem?_set_self (List.getElem?_eq_some_iff.mp e).1] at h; cases h
  · rw [List.getElem?_set_ne ij] at h
    exact ⟨o', h⟩
end
section
variable {X : Cx} {cl : Cl} {W : WX} {e : Expr} {pos : Pos}
theorem d_v {i : Nat} (h : PE X e (tVar i)) : PE X e (tE X.K cl W (eV i)) := by
  refine PE.weak h ?_
  rintro σ H Q ⟨M, ρ, R, p⟩
  unfold eV at p
  split at p
  · rename_i d q
    obtain ⟨v, h1, h2⟩ := R.fz i d q
    exact ⟨v, h1, p v H Go.refl R h2⟩
  · rename_i xs q
    have R' := R.frz q
    have hl : i < ρ.length := (List.getElem?_eq_some_iff.mp q).1
    obtain ⟨v, h1, h2⟩ := R'.fz i _ (List.getElem?_set_self hl)
    exact ⟨v, h1, p v H (Go.frz R q) R' h2⟩
  · exact p.elim
theorem d_c {d : D} {v : V} (hd : ∀ H : Hp, Dd X.K H v d) (h : PE X e (tC v)) : PE X e (tE X.K cl W (eC d)) := by
  refine PE.weak h ?_
  rintro σ H Q ⟨M, ρ, R, p⟩
  exact p v H Go.refl R (hd _)
theorem d_int {i : Int} {j : Nat} : PE X (.Constant (.int i) j pos) (tE X.K cl W (eC (.int i))) := d_c (fun _ => .int i) pe_int
theorem d_str {z : Str} {j : Nat} : PE X (.Constant (.str z) j pos) (tE X.K cl W (eC (.str z))) := d_c (fun _ => .str z) pe_str
theorem d_bl {b : Bool} {j : Nat} : PE X (.Constant (.bool b) j pos) (tE X.K cl W (eC (.bool b))) := d_c (fun _ => .bl b) pe_bl
theorem d_non {j : Nat} : PE X (.Constant .none j pos) (tE X.K cl W (eC .none)) := d_c (fun _ => .non) pe_non
/-- a list of our own, as data -/
theorem d_fz {g : Ev Ob} (h : PE X e (tO X.K cl W g)) : PE X e (tE X.K cl W (eFz g)) := by
  refine PE.weak h ?_
  rintro σ H Q ⟨M, ρ, R, p⟩
  refine tG_bind R p fun v o ρ1 H1 _ g1 R1 q1 p1 => ?_
  obtain ⟨a, rfl, _, n, R2, ob⟩ := q1
  cases o with
  | ls xs =>
    obtain ⟨vs, h1, h2⟩ := ob
    refine p1 _ H1 Go.refl R1 (.lst (rs_mk h1 n) (ddAll_mono (rs_le fun q z => z.elim (fun z => .inl (.inl z)) .inr) _ _ h2))
  | dk _ => exact p1.elim
  | dt _ => exact p1.elim

/-! ### operators -/
variable {a b : Expr} {A B : Opd}
theorem d_bin {op : Operator} {r : R2} {f : D → D → Option D} (ho : OpR X (binaryOp op) r) (S : Sd2 X.K r f) (ha : PE X a (tP X.K cl W A)) (hb : PE X b (tP X.K cl W B)) : PE X (.BinOp a op b pos) (tE X.K cl W (e2 f A B)) :=
  PE.weak (pe_op ho ha hb) (tOp_d S)
theorem o_bin {op : Operator} {r : R2} {f : D → D → Option Ob} (ho : OpR X (binaryOp op) r) (S : So2 X.K r f) (ha : PE X a (tP X.K cl W A)) (hb : PE X b (tP X.K cl W B)) : PE X (.BinOp a op b pos) (tO X.K cl W (e2 f A B)) :=
  PE.weak (pe_op ho ha hb) (tOp_o S)
theorem d_un {op : UnaryOp} {r : V → Hp → VK → Prop} {f : D → Option D} (ho : UnR X (unaryOp op) r) (S : Sd1 X.K r f) (ha : PE X a (tP X.K cl W A)) : PE X (.UnaryOp op a pos) (tE X.K cl W (e1 f A)) :=
  PE.weak (pe_un ho ha) (tUn_d S)
theorem d_cmp {op : CmpOp} {r : R2} {f : D → D → Option D} (ho : OpR X (compareOp op) r) (S : Sd2 X.K r f) (ha : PE X a (tP X.K cl W A)) (hb : PE X b (tP X.K cl W B)) (hm : behindInMarks op b = false) : PE X (.Compare a [op] [b] pos) (tE X.K cl W (e2 f A B)) :=
  PE.weak (pe_cmpR ho ha hb hm) (tOp_d S)
/-- a truth value as a test -/
def eT (g : Ev D) : Ev Bool := fun ρ => (g ρ).bind fun d r => match d with
  | .bool b => .ok b r
  | _ => .no
theorem tT_of {K : PySem.W.Frag} {g : Ev D} (σ : St) (H : Hp) (Q : Bool → Hp → Prop) (h : tT K cl W (eT g) σ H Q) : tE K cl W g σ H fun x H' => ∃ k, x = .bl k ∧ Q k H' := by
  obtain ⟨M, ρ, R, p⟩ := h
  refine tG_bind R p fun v d ρ1 H1 _ g1 R1 q1 p1 => ?_
  cases d with
  | bool k =>
    have e : v = .bl k := by cases q1; rfl
    exact ⟨k, e, p1 k H1 Go.refl R1 rfl⟩
  | none => exact p1.elim
  | int _ => exact p1.elim
  | str _ => exact p1.elim
  | list _ => exact p1.elim
  | tuple _ => exact p1.elim
  | dict _ => exact p1.elim
theorem t_cmp {op : CmpOp} {r : R2} {f : D → D → Option D} (ho : OpR X (compareOp op) r) (S : Sd2 X.K r f) (ha : PE X a (tP X.K cl W A)) (hb : PE X b (tP X.K cl W B)) (hm : behindInMarks op b = false) : PT X (.Compare a [op] [b] pos) (tT X.K cl W (eT (e2 f A B))) := by
  refine PT.weak (pt_cmpR ho ha hb hm) fun σ H Q h => ?_
  exact tOp_d S σ H _ (tT_of σ H Q h)
/-- an expression that gives True or False, as a test -/
theorem t_val {g : Ev D} (h : PE X e (tE X.K cl W g)) (he : ∀ whole, isTrue e X.env whole = (do let v ← whole; standAt e.pos; holding [v] (truthy v)) := by intro _; rfl) : PT X e (tT X.K cl W (eT g)) :=
  PT.weak (pt_val h he) fun σ H Q q => tT_of σ H Q q
def eNot (g : Ev Bool) : Ev Bool := fun ρ => (g ρ).bind fun b r => .ok (!b) r
def eAnd (g h : Ev Bool) : Ev Bool := fun ρ => (g ρ).bind fun b r => if b = true then h r else .ok false r
def eOr (g h : Ev Bool) : Ev Bool := fun ρ => (g ρ).bind fun b r => if b = true then .ok true r else h r
theorem t_not {g : Ev Bool} (h : PT X a (tT X.K cl W g)) : PT X (.UnaryOp .Not a pos) (tT X.K cl W (eNot g)) := by
  refine PT.weak (pt_not h) ?_
  rintro σ H Q ⟨M, ρ, R, p⟩
  refine tG_bind R p fun c c' ρ1 H1 _ g1 R1 q1 p1 => ?_
  have q1 : c = c' := q1
  subst q1
  exact p1 _ H1 Go.refl R1 rfl
variable {rest : List Expr} {g h : Ev Bool}
theorem w_and1 (ha : PT X a (tT X.K cl W g)) : PW X (.BoolOp .And [a] pos) (tT X.K cl W g) := pw_and1 ha
theorem w_or1 (ha : PT X a (tT X.K cl W g)) : PW X (.BoolOp .Or [a] pos) (tT X.K cl W g) := pw_or1 ha
theorem w_and (ha : PT X a (tT X.K cl W g)) (hb : PW X (.BoolOp .And (b :: rest) pos) (tT X.K cl W h)) : PW X (.BoolOp .And (a :: b :: rest) pos) (tT X.K cl W (eAnd g h)) := by
  refine PW.weak (pw_and ha hb) ?_
  rintro σ H Q ⟨M, ρ, R, p⟩
  refine tG_bind R p fun c c' ρ1 H1 _ g1 R1 q1 p1 => ?_
  have q1 : c = c' := q1
  subst q1
  cases c with
  | true => exact iteT ⟨M, ρ1, R1, p1⟩
  | false => exact iteF (p1 _ H1 Go.refl R1 rfl)
theorem w_or (ha : PT X a (tT X.K cl W g)) (hb : PW X (.BoolOp .Or (b :: rest) pos) (tT X.K cl W h)) : PW X (.BoolOp .Or (a :: b :: rest) pos) (tT X.K cl W (eOr g h)) := by
  refine PW.weak (pw_or ha hb) ?_
  rintro σ H Q ⟨M, ρ, R, p⟩
  refine tG_bind R p fun c c' ρ1 H1 _ g1 R1 q1 p1 => ?_
  have q1 : c = c' := q1
  subst q1
  cases c with
  | true => exact iteT (p1 _ H1 Go.refl R1 rfl)
  | false => exact iteF ⟨M, ρ1, R1, p1⟩
/-- as values -/
def eB (g : Ev Bool) : Ev D := fun ρ => (g ρ).bind fun b r => .ok (.bool b) r
def eAndV (g h : Ev D) : Ev D := fun ρ => (g ρ).bind fun d r => match d with
  | .bool b => if b = true then h r else .ok (.bool false) r
  | _ => .no
def eOrV (g h : Ev D) : Ev D := fun ρ => (g ρ).bind fun d r => match d with
  | .bool b => if b = true then .ok (.bool true) r else h r
  | _ => .no
def eNotV (g : Ev D) : Ev D := fun ρ => (g ρ).bind fun d r => match d with
  | .bool b => .ok (.bool (!b)) r
  | _ => .no
theorem d_one {op : BoolOp} {g : Ev D} (ha : PE X a (tE X.K cl W g)) : PE X (.BoolOp op [a] pos) (tE X.K cl W g) := pe_one ha
theorem bl_of {K : PySem.W.Frag} {H : Hp} {v : V} {k : Bool} (h : Dd K H v (.bool k)) : v = .bl k := by cases h; rfl
theorem d_and {g h : Ev D} (ha : PE X a (tE X.K cl W g)) (hb : PE X (.BoolOp .And (b :: rest) pos) (tE X.K cl W h)) : PE X (.BoolOp .And (a :: b :: rest) pos) (tE X.K cl W (eAndV g h)) := by
  refine PE.weak (pe_and ha hb) ?_
  rintro σ H Q ⟨M, ρ, R, p⟩
  refine tG_bind R p fun v d ρ1 H1 _ g1 R1 q1 p1 => ?_
  cases d with
  | bool k =>
    refine ⟨k, bl_of q1, ?_⟩
    cases k with
    | true => exact iteT ⟨M, ρ1, R1, p1⟩
    | false => exact iteF (p1 _ H1 Go.refl R1 (.bl false))
  | none => exact p1.elim
  | int _ => exact p1.elim
  | str _ => exact p1.elim
  | list _ => exact p1.elim
  | tuple _ => exact p1.elim
  | dict _ => exact p1.elim
theorem d_or {g h : Ev D} (ha : PE X a (tE X.K cl W g)) (hb : PE X (.BoolOp .Or (b :: rest) pos) (tE X.K cl W h)) : PE X (.BoolOp .Or (a :: b :: rest) pos) (tE X.K cl W (eOrV g h)) := by
  refine PE.weak (pe_or ha hb) ?_
  rintro σ H Q ⟨M, ρ, R, p⟩
  refine tG_bind R p fun v d ρ1 H1 _ g1 R1 q1 p1 => ?_
  cases d with
  | bool k =>
    refine ⟨k, bl_of q1, ?_⟩
    cases k with
    | true => exact iteT (p1 _ H1 Go.refl R1 (.bl true))
    | false => exact iteF ⟨M, ρ1, R1, p1⟩
  | none => exact p1.elim
  | int _ => exact p1.elim
  | str _ => exact p1.elim
  | list _ => exact p1.elim
  | tuple _ => exact p1.elim
  | dict _ => exact p1.elim
theorem d_not {g : Ev D} (ha : PE X a (tE X.K cl W g)) : PE X (.UnaryOp .Not a pos) (tE X.K cl W (eNotV g)) := by
  refine PE.weak (pe_not ha) ?_
  rintro σ H Q ⟨M, ρ, R, p⟩
  refine tG_bind R p fun v d ρ1 H1 _ g1 R1 q1 p1 => ?_
  cases d with
  | bool k => exact ⟨k, bl_of q1, p1 _ H1 Go.refl R1 (.bl _)⟩
  | none => exact p1.elim
  | int _ => exact p1.elim
  | str _ => exact p1.elim
  | list _ => exact p1.elim
  | tuple _ => exact p1.elim
  | dict _ => exact p1.elim
def eIf {α : Type} (c : Ev Bool) (g h : Ev α) : Ev α := fun ρ => (c ρ).bind fun b r => if b = true then g r else h r
theorem d_ifx {c : Expr} {gc : Ev Bool} {g h : Ev D} (hc : PT X c (tT X.K cl W gc)) (ha : PE X a (tE X.K cl W g)) (hb : PE X b (tE X.K cl W h)) : PE X (.IfExp c a b pos) (tE X.K cl W (eIf gc g h)) := by
  refine PE.weak (pe_ifExp hc ha hb) ?_
  rintro σ H Q ⟨M, ρ, R, p⟩
  refine tG_bind R p fun k k' ρ1 H1 _ g1 R1 q1 p1 => ?_
  have q1 : k = k' := q1
  subst q1
  cases k with
  | true => exact iteT ⟨M, ρ1, R1, p1⟩
  | false => exact iteF ⟨M, ρ1, R1, p1⟩
theorem o_ifx {c : Expr} {gc : Ev Bool} {g h : Ev Ob} (hc : PT X c (tT X.K cl W gc)) (ha : PE X a (tO X.K cl W g)) (hb : PE X b (tO X.K cl W h)) : PE X (.IfExp c a b pos) (tO X.K cl W (eIf gc g h)) := by
  refine PE.weak (pe_ifExp hc ha hb) ?_
  rintro σ H Q ⟨M, ρ, R, p⟩
  refine tG_bind R p fun k k' ρ1 H1 _ g1 R1 q1 p1 => ?_
  have q1 : k = k' := q1
  subst q1
  cases k with
  | true => exact iteT ⟨M, ρ1, R1, p1⟩
  | false => exact iteF ⟨M, ρ1, R1, p1⟩
end

/-! ### lists of expressions: displays -/
def eL : List (Ev D) → Ev (List D)
  | [] => fun ρ => .ok [] ρ
  | g :: gs => fun ρ => (g ρ).bind fun x r => (eL gs r).bind fun xs r2 => .ok (x :: xs) r2
def RDs (K : PySem.W.Frag) : Rk (List D) (List V) := ⟨fun M σ ρ _ H vs ds => DdAll K (rs (Mu M σ ρ) H) vs ds, fun _ h => h⟩
abbrev tL (K : PySem.W.Frag) (cl : Cl) (W : WX) (gs : List (Ev D)) : TA := tG K cl W (RDs K) (eL gs)
def eTup (gs : List (Ev D)) : Ev D := fun ρ => (eL gs ρ).bind fun xs r => if xs.length ≤ 16777216 then .ok (.tuple xs) r else .no
def eLst (gs : List (Ev D)) : Ev Ob := fun ρ => (eL gs ρ).bind fun xs r => if xs.length ≤ 16777216 then .ok (.ls xs) r else .no
section
variable {X : Cx} {cl : Cl} {W : WX} {e : Expr} {es : List Expr} {pos : Pos} {g : Ev D} {gs : List (Ev D)}
theorem l_nil : PA X [] (tL X.K cl W []) := by
  refine PA.weak pa_nil ?_
  rintro σ H Q ⟨M, ρ, R, p⟩
  exact p [] H Go.refl R .nil
theorem l_cons (ha : PE X e (tE X.K cl W g)) (hr : PA X es (tL X.K cl W gs)) (hs : starEach (e :: es) X.env = (false, eval e X.env) :: starEach es X.env := by rfl) : PA X (e :: es) (tL X.K cl W (g :: gs)) := by
  refine PA.weak (pa_cons ha hr hs) ?_
  rintro σ H Q ⟨M, ρ, R, p⟩
  refine tG_bind R p fun v d ρ1 H1 _ g1 R1 q1 p1 => ?_
  refine tG_bind R1 p1 fun vs ds ρ2 H2 _ g2 R2 q2 p2 => ?_
  exact p2 _ H2 Go.refl R2 (.cons (dd_mono g2.same _ _ q1) q2)
theorem d_tup {x1 : Nat} (h : PA X es (tL X.K cl W gs)) : PE X (.Tuple es x1 pos) (tE X.K cl W (eTup gs)) := by
  refine PE.weak (pe_tup h) ?_
  rintro σ H Q ⟨M, ρ, R, p⟩
  refine tG_bind R p fun vs ds ρ1 H1 _ g1 R1 q1 p1 => ?_
  have hl := DdAll.length q1
  split at p1
  · rename_i hc
    refine ⟨by rw [line_, hl]; exact hc, fun t n => ?_⟩
    have s : Same H1 (upd H1 t (.tup vs)) := fun q o e => by rw [upd_ne (ne_of_none e n)]; exact e
    refine p1 _ _ (Go.ext R1 s) (R1.ext s) (.tup (rs_mk upd_same fun z => ?_) (ddAll_mono (Go.ext R1 s).same _ _ q1))
    obtain ⟨u, hu⟩ := R1.mlive z
    rw [n] at hu; cases hu
  · exact p1.elim
theorem lst_w {K : PySem.W.Frag} (σ : St) (H : Hp) (Q : VK) (h : tO K cl W (eLst gs) σ H Q) : tLst (tL K cl W gs) σ H Q := by
  obtain ⟨M, ρ, R, p⟩ := h
  refine tG_bind R p fun vs ds ρ1 H1 _ g1 R1 q1 p1 => ?_
  have hl := DdAll.length q1
  split at p1
  · rename_i hc
    refine ⟨by rw [line_, hl]; exact hc, fun t n => ?_⟩
    have s : Same H1 (upd H1 t (.lst vs)) := fun q o e => by rw [upd_ne (ne_of_none e n)]; exact e
    refine p1 _ _ (Go.ext R1 s) (R1.ext s) ⟨t, rfl, n, fun z => ?_, R1.plus (o := .ls ds) s n ⟨_, upd_same⟩, vs, upd_same, ddAll_mono (fun b u e => ?_) _ _ q1⟩
    · obtain ⟨u, hu⟩ := R1.mlive z
      rw [n] at hu; cases hu
    · obtain ⟨e1, e2⟩ := rs_of e
      refine rs_mk (s _ _ e1) fun z => ?_
      rcases z with (z | z) | z
      · exact e2 (.inl z)
      · rw [z, n] at e1; cases e1
      · exact e2 (.inr z)
  · exact p1.elim
theorem o_lst (h : PA X es (tL X.K cl W gs)) : PE X (.List es pos) (tO X.K cl W (eLst gs)) := PE.weak (pe_lst h) lst_w
end

/-! ### statements -/
inductive Fl where
  | nx | rt (d : D) | bk | ct
def Sst (K : PySem.W.Frag) (cl : Cl) (W : WX) (M : Addr → Prop) (E : Ends) (σ : St) (ρ : Rho) (H : Hp) (r : Res Fl) : Prop := match r with
  | .ok .nx ρ' => ∀ σ' H', Go σ ρ H σ' ρ' H' → Rel K M σ' H' ρ' → E.nx σ' H'
  | .ok (.rt d) ρ' => ∀ v σ' H', Go σ ρ H σ' ρ' H' → Rel K M σ' H' ρ' → Dd K (rs (Mu M σ' ρ') H') v d → E.rt v H'
  | .ok .bk ρ' => ∀ σ' H', Go σ ρ H σ' ρ' H' → Rel K M σ' H' ρ' → E.bk σ' H'
  | .ok .ct ρ' => ∀ σ' H', Go σ ρ H σ' ρ' H' → Rel K M σ' H' ρ' → E.ct σ' H'
  | .er c ρ' => ∀ cls dd σ' H', cl c cls dd → Go σ ρ H σ' ρ' H' → Rel K M σ' H' ρ' → W cls dd σ' H'
  | .no => False
theorem Sst.step {K : PySem.W.Frag} {cl : Cl} {W : WX} {M : Addr → Prop} {E : Ends} {σ σ1 : St} {ρ ρ1 : Rho} {H H1 : Hp} {r : Res Fl} (g : Go σ ρ H σ1 ρ1 H1) (h : Sst K cl W M E σ ρ H r) : Sst K cl W M E σ1 ρ1 H1 r := by
  cases r with
  | ok f ρ' =>
    cases f with
    | nx => exact fun σ' H' g1 r1 => h σ' H' (g.trans g1) r1
    | rt d => exact fun v σ' H' g1 r1 q => h v σ' H' (g.trans g1) r1 q
    | bk => exact fun σ' H' g1 r1 => h σ' H' (g.trans g1) r1
    | ct => exact fun σ' H' g1 r1 => h σ' H' (g.trans g1) r1
  | er c ρ' => exact fun cls dd σ' H' c1 g1 r1 => h cls dd σ' H' c1 (g.trans g1) r1
  | no => exact h
def tS (K : PySem.W.Frag) (cl : Cl) (W : WX) (g : Ev Fl) : TS := fun E σ H => ∃ M ρ, Rel K M σ H ρ ∧ Sst K cl W M E σ ρ H (g ρ)
/-- a part that is an expression -/
theorem tS_bind {α β : Type} {K : PySem.W.Frag} {cl : Cl} {W : WX} {R : Rk α β}
    {M : Addr → Prop} {σ : St} {ρ : Rho} {H : Hp} {ga : Ev α} {f : α → Rho → Res Fl} {E : Ends} {k : β → Hp → Prop}
    (r : Rel K M σ H ρ) (h : Sst K cl W M E σ ρ H ((ga ρ).bind f))
    (hk : ∀ x a ρ1 H1, ga ρ = .ok a ρ1 → Go σ ρ H σ ρ1 H1 → Rel K M σ H1 ρ1 → R.R M σ ρ1 H H1 x a → Sst K cl W M E σ ρ1 H1 (f a ρ1) → k x H1) : tG K cl W R ga σ H k := by
  refine ⟨M, ρ, r, ?_⟩
  cases e : ga ρ with
  | ok a ρ1 =>
    rw [e] at h
    exact fun x H1 g1 r1 q => hk x a ρ1 H1 e g1 r1 q (Sst.step g1 h)
  | er c ρ1 => rw [e] at h; exact fun cls dd H' c1 g1 r1 => h cls dd σ H' c1 g1 r1
  | no => rw [e] at h; exact h
def seqS (g h : Ev Fl) : Ev Fl := fun ρ => (g ρ).bind fun f r => match f with
  | .nx => h r
  | f => .ok f r
def nxS : Ev Fl := fun ρ => .ok .nx ρ
section
variable {X : Cx} {cl : Cl} {W : WX} {st : Stmt} {sts : List Stmt} {e : Expr} {pos : Pos} {g h : Ev Fl}
theorem ss_nil : PSs X [] (tS X.K cl W nxS) := by
  refine PSs.weak pss_nil ?_
  rintro E σ H ⟨M, ρ, R, p⟩
  exact p σ H Go.refl R
theorem seq_w {K : PySem.W.Frag} (E : Ends) (σ : St) (H : Hp) (q : tS K cl W (seqS g h) E σ H) : tS K cl W g { E with nx := tS K cl W h E } σ H := by
  obtain ⟨M, ρ, R, p⟩ := q
  refine ⟨M, ρ, R, ?_⟩
  unfold seqS at p
  cases e : g ρ with
  | ok f ρ1 =>
    rw [e] at p
    cases f with
    | nx => exact fun σ' H' g1 R1 => ⟨M, ρ1, R1, Sst.step g1 p⟩
    | rt d => exact p
    | bk => exact p
    | ct => exact p
  | er c ρ1 => rw [e] at p; exact p
  | no => rw [e] at p; exact p
theorem ss_cons (h1 : PS X st (tS X.K cl W g)) (h2 : PSs X sts (tS X.K cl W h)) : PSs X (st :: sts) (tS X.K cl W (seqS g h)) := PSs.weak (pss_cons h1 h2) fun E σ H q => seq_w E σ H q
theorem ss_one (h1 : PS X st (tS X.K cl W g)) : PSs X [st] (tS X.K cl W g) := pss_one h1
def pt (f : Fl) : Ev Fl := fun ρ => .ok f ρ
theorem s_pass : PS X (.Pass pos) (tS X.K cl W nxS) := by
  refine PS.weak ps_pass ?_
  rintro E σ H ⟨M, ρ, R, p⟩
  exact p σ H Go.refl R
theorem s_break : PS X (.Break pos) (tS X.K cl W (pt .bk)) := by
  refine PS.weak ps_break ?_
  rintro E σ H ⟨M, ρ, R, p⟩
  exact p σ H Go.refl R
theorem s_cont : PS X (.Continue pos) (tS X.K cl W (pt .ct)) := by
  refine PS.weak ps_continue ?_
  rintro E σ H ⟨M, ρ, R, p⟩
  exact p σ H Go.refl R
theorem s_doc {x : Str} {j : Nat} {pos' : Pos} : PS X (.Expr (.Constant (.str x) j pos) pos') (tS X.K cl W nxS) := by
  refine PS.weak ps_doc ?_
  rintro E σ H ⟨M, ρ, R, p⟩
  exact p σ H Go.refl R
def exS {α : Type} (g : Ev α) : Ev Fl := fun ρ => (g ρ).bind fun _ r => .ok .nx r
theorem s_expr {g : Ev D} (he : PE X e (tE X.K cl W g)) (hs : swapsWith e none pos.line X.env = pure false := by rfl) : PS X (.Expr e pos) (tS X.K cl W (exS g)) := by
  refine PS.weak (ps_expr he hs) ?_
  rintro E σ H ⟨M, ρ, R, p⟩
  refine tS_bind R p fun v d ρ1 H1 _ g1 R1 q1 p1 => ?_
  exact p1 σ H1 Go.refl R1
def rtS (g : Ev D) : Ev Fl := fun ρ => (g ρ).bind fun d r => .ok (.rt d) r
theorem s_ret {g : Ev D} (he : PE X e (tE X.K cl W g)) : PS X (.Return (some e) pos) (tS X.K cl W (rtS g)) := by
  refine PS.weak (ps_ret he) ?_
  rintro E σ H ⟨M, ρ, R, p⟩
  refine tS_bind R p fun v d ρ1 H1 _ g1 R1 q1 p1 => ?_
  exact p1 v σ H1 Go.refl R1 q1
theorem s_retN : PS X (.Return none pos) (tS X.K cl W (pt (.rt .none))) := by
  refine PS.weak ps_retN ?_
  rintro E σ H ⟨M, ρ, R, p⟩
  exact p .non σ H Go.refl R .non
def ifS (c : Ev Bool) (g h : Ev Fl) : Ev Fl := fun ρ => (c ρ).bind fun b r => if b = true then g r else h r
theorem s_if {c : Expr} {a b : List Stmt} {gc : Ev Bool} (hc : PT X c (tT X.K cl W gc)) (ha : PSs X a (tS X.K cl W g)) (hb : PSs X b (tS X.K cl W h)) : PS X (.If c a b pos) (tS X.K cl W (ifS gc g h)) := by
  refine PS.weak (ps_if hc ha hb) ?_
  rintro E σ H ⟨M, ρ, R, p⟩
  refine tS_bind R p fun k k' ρ1 H1 _ g1 R1 q1 p1 => ?_
  have q1 : k = k' := q1
  subst q1
  cases k with
  | true => exact iteT ⟨M, ρ1, R1, p1⟩
  | false => exact iteF ⟨M, ρ1, R1, p1⟩
end

/-! ### stores -/
/-- a slot that may be stored: it is there, and it is no list that the caller handed in to be changed -/
@[simp] def sto (r : Rho) (i : Nat) (s : Sl) : Option Rho := match r[i]? with
  | none => none
  | some (.ow true _) => none
  | some _ => some (r.set i s)
section
variable {K : PySem.W.Frag} {M : Addr → Prop} {σ : St} {ρ ρ' : Rho} {H : Hp} {i : Nat} {v : V}
theorem sto_of {s : Sl} (h : sto ρ i s = some ρ') : i < ρ.length ∧ (∀ o, ρ[i]? ≠ some (.ow true o)) ∧ ρ' = ρ.set i s := by
  unfold sto at h
  split at h
  · cases h
  · cases h
  · rename_i s' n e
    refine ⟨(List.getElem?_eq_some_iff.mp e).1, fun o z => ?_, (Option.some.inj h).symm⟩
    rw [e] at z
    exact n o (Option.some.inj z)
theorem own_sto {s : Sl} {u : V} (hn : ∀ b o, s ≠ .ow b o) (hi : i < ρ.length) {p : Addr} (h : Own (σ.set i (some u)) (ρ.set i s) p) : Own σ ρ p := by
  obtain ⟨j, b, o, h1, h2⟩ := h
  by_cases e : i = j
  · subst e
    rw [List.getElem?_set_self hi] at h1
    exact absurd (Option.some.inj h1) (hn b o)
  · rw [List.getElem?_set_ne e] at h1 h2
    exact ⟨j, b, o, h1, h2⟩
theorem Rel.store (R : Rel K M σ H ρ) {d : D} (hv : Dd K (rs (Mu M σ ρ) H) v d) (h : sto ρ i (.fz d) = some ρ') : Rel K M (σ.set i (some v)) H ρ' ∧ Go σ ρ H (σ.set i (some v)) ρ' H := by
  obtain ⟨hi, hn, rfl⟩ := sto_of h
  have hiσ : i < σ.length := by rw [R.len]; exact hi
  have os : ∀ p, Own (σ.set i (some v)) (ρ.set i (.fz d)) p → Own σ ρ p := fun p => own_sto (fun _ _ z => by cases z) hi
  have le : ∀ p, Mu M (σ.set i (some v)) (ρ.set i (.fz d)) p → Mu M σ ρ p := fun p z => z.elim .inl fun z => .inr (os p z)
  refine ⟨⟨by rw [List.length_set, List.length_set, R.len], R.live, fun j d' q => ?_, fun j b o q => ?_, fun j k b o b' o' p q1 q2 q3 q4 => ?_⟩, ⟨fun _ _ h _ => h, fun p h => .inl (os p h), fun j o' q => ?_, fun _ o h => ⟨o, h⟩⟩⟩
  · by_cases ij : i = j
    · subst ij
      rw [List.getElem?_set_self hi] at q
      cases q
      exact ⟨v, List.getElem?_set_self hiσ, dd_mono (rs_le le) _ _ hv⟩
    · rw [List.getElem?_set_ne ij] at q ⊢
      obtain ⟨w, g1, g2⟩ := R.fz j d' q
      exact ⟨w, g1, dd_mono (rs_le le) _ _ g2⟩
  · by_cases ij : i = j
    · subst ij
      rw [List.getElem?_set_self hi] at q; cases q
    · rw [List.getElem?_set_ne ij] at q ⊢
      obtain ⟨p, g1, g2, g3⟩ := R.ow j b o q
      exact ⟨p, g1, g2, g3.mono (rs_le le) rfl⟩
  · by_cases ij : i = j
    · subst ij
      rw [List.getElem?_set_self hi] at q1; cases q1
    · by_cases ik : i = k
      · subst ik
        rw [List.getElem?_set_self hi] at q2; cases q2
      · rw [List.getElem?_set_ne ij] at q1 q3
        rw [List.getElem?_set_ne ik] at q2 q4
        exact R.inj j k _ _ _ _ p q1 q2 q3 q4
  · by_cases ij : i = j
    · subst ij
      rw [List.getElem?_set_self hi] at q; cases q
    · rw [List.getElem?_set_ne ij] at q ⊢
      exact ⟨⟨o', q⟩, rfl⟩
/-- a list of our own goes to a slot -/
theorem Rel.storeO (R : Rel K M σ H ρ) {o : Ob} {p : Addr} (hp : ¬ Mu M σ ρ p) (R2 : Rel K (fun q => M q ∨ q = p) σ H ρ) (ob : ObAt K (rs (Mu (fun q => M q ∨ q = p) σ ρ) H) H p o) (h : sto ρ i (.ow false o) = some ρ') :
    Rel K M (σ.set i (some (.ref p))) H ρ' ∧ ∀ ρ0 H0, Go σ ρ0 H0 σ ρ H → H0 p = none → Go σ ρ0 H0 (σ.set i (some (.ref p))) ρ' H := by
  obtain ⟨hi, hn, rfl⟩ := sto_of h
  have hiσ : i < σ.length := by rw [R.len]; exact hi
  have os : ∀ q, Own (σ.set i (some (.ref p))) (ρ.set i (.ow false o)) q → Own σ ρ q ∨ q = p := fun q ⟨j, b, o', z1, z2⟩ => by
    by_cases ij : i = j
    · subst ij
      rw [List.getElem?_set_self hiσ] at z2
      cases z2
      exact .inr rfl
    · rw [List.getElem?_set_ne ij] at z1 z2
      exact .inl ⟨j, b, o', z1, z2⟩
  have le : ∀ q, Mu M (σ.set i (some (.ref p))) (ρ.set i (.ow false o)) q → Mu (fun q => M q ∨ q = p) σ ρ q := fun q z => by
    rcases z with z | z
    · exact .inl (.inl z)
    · rcases os q z with z | z
      · exact .inr z
      · exact .inl (.inr z)
  refine ⟨⟨by rw [List.length_set, List.length_set, R.len], R.live, fun j d' q => ?_, fun j b o' q => ?_, fun j k b o1 b' o' a q1 q2 q3 q4 => ?_⟩, fun ρ0 H0 g h0 => ⟨g.keep, fun q h => ?_, fun j o' q => ?_, g.live⟩⟩
  · by_cases ij : i = j
    · subst ij
      rw [List.getElem?_set_self hi] at q; cases q
    · rw [List.getElem?_set_ne ij] at q ⊢
      obtain ⟨w, g1, g2⟩ := R2.fz j d' q
      exact ⟨w, g1, dd_mono (rs_le le) _ _ g2⟩
  · by_cases ij : i = j
    · subst ij
      rw [List.getElem?_set_self hi] at q
      cases q
      exact ⟨p, List.getElem?_set_self hiσ, fun z => hp (.inl z), ob.mono (rs_le le) rfl⟩
    · rw [List.getElem?_set_ne ij] at q ⊢
      obtain ⟨a, g1, g2, g3⟩ := R2.ow j b o' q
      exact ⟨a, g1, fun z => g2 (.inl z), g3.mono (rs_le le) rfl⟩
  · have nop : ∀ j b o, i ≠ j → ρ[j]? = some (.ow b o) → σ[j]? ≠ some (some (.ref p)) := fun j b o _ z1 z2 => hp (.inr ⟨j, b, o, z1, z2⟩)
    by_cases ij : i = j
    · subst ij
      rw [List.getElem?_set_self hiσ] at q3
      cases q3
      by_cases ik : i = k
      · exact ik
      · rw [List.getElem?_set_ne ik] at q2 q4
        exact absurd q4 (nop k _ _ ik q2)
    · rw [List.getElem?_set_ne ij] at q1 q3
      by_cases ik : i = k
      · subst ik
        rw [List.getElem?_set_self hiσ] at q4
        cases q4
        exact absurd q3 (nop j _ _ ij q1)
      · rw [List.getElem?_set_ne ik] at q2 q4
        exact R.inj j k _ _ _ _ a q1 q2 q3 q4
  · rcases os q h with z | z
    · exact g.own q z
    · rw [z]; exact .inr h0
  · by_cases ij : i = j
    · subst ij
      rw [List.getElem?_set_self hi] at q; cases q
    · rw [List.getElem?_set_ne ij] at q ⊢
      exact g.io j o' q
end
/-- a store's outcome -/
def stR (o : Option Rho) : Res Fl := match o with
  | some r => .ok .nx r
  | none => .no
@[simp] theorem stR_some (r : Rho) : stR (some r) = .ok .nx r := Eq.trans rfl rfl
@[simp] theorem stR_none : stR none = .no := Eq.trans rfl rfl
def setS (i : Nat) (g : Ev D) : Ev Fl := fun ρ => (g ρ).bind fun d r => stR (sto r i (.fz d))
def setO (i : Nat) (g : Ev Ob) : Ev Fl := fun ρ => (g ρ).bind fun o r => stR (sto r i (.ow false o))
section
variable {X : Cx} {cl : Cl} {W : WX} {e : Expr} {pos pos' : Pos} {i : Nat} {x : Str}
theorem setS_w {K : PySem.W.Frag} {g : Ev D} (E : Ends) (σ : St) (H : Hp) (h : tS K cl W (setS i g) E σ H) : tE K cl W g σ H fun v H1 => E.nx (σ.set i (some v)) H1 := by
  obtain ⟨M, ρ, R, p⟩ := h
  refine tS_bind R p fun v d ρ1 H1 _ g1 R1 q1 p1 => ?_
  cases q : sto ρ1 i (.fz d) with
  | none => rw [q] at p1; exact p1.elim
  | some ρ2 =>
    rw [q] at p1
    obtain ⟨R2, g2⟩ := R1.store q1 q
    exact p1 _ H1 g2 R2
/-- the generic way to a list of our own -/
theorem tO_bind {K : PySem.W.Frag} {M : Addr → Prop} {σ : St} {ρ : Rho} {H : Hp} {ga : Ev Ob} {f : Ob → Rho → Res Fl} {E : Ends} {k : V → Hp → Prop}
    (r : Rel K M σ H ρ) (h : Sst K cl W M E σ ρ H ((ga ρ).bind f))
    (hk : ∀ p o ρ1 H1, Go σ ρ H σ ρ1 H1 → Rel K M σ H1 ρ1 → H p = none → ¬ Mu M σ ρ1 p → Rel K (fun q => M q ∨ q = p) σ H1 ρ1 → ObAt K (rs (Mu (fun q => M q ∨ q = p) σ ρ1) H1) H1 p o → Sst K cl W M E σ ρ H (f o ρ1) → k (.ref p) H1) : tO K cl W ga σ H k := by
  refine ⟨M, ρ, r, ?_⟩
  cases e : ga ρ with
  | ok a ρ1 =>
    rw [e] at h
    intro x H1 g1 r1 q
    obtain ⟨p, rfl, n0, n, R2, ob⟩ := q
    exact hk p a ρ1 H1 g1 r1 n0 n R2 ob h
  | er c ρ1 => rw [e] at h; exact fun cls dd H' c1 g1 r1 => h cls dd σ H' c1 g1 r1
  | no => rw [e] at h; exact h
theorem setO_w {K : PySem.W.Frag} {g : Ev Ob} (E : Ends) (σ : St) (H : Hp) (h : tS K cl W (setO i g) E σ H) : tO K cl W g σ H fun v H1 => E.nx (σ.set i (some v)) H1 := by
  obtain ⟨M, ρ, R, p⟩ := h
  refine tO_bind R p fun a o ρ1 H1 g1 R1 n0 n R2 ob p1 => ?_
  cases q : sto ρ1 i (.ow false o) with
  | none => rw [q] at p1; exact p1.elim
  | some ρ2 =>
    rw [q] at p1
    obtain ⟨R3, g3⟩ := R1.storeO n R2 ob q
    exact p1 _ H1 (g3 ρ H g1 n0) R3
theorem s_setO {g : Ev Ob} (hN : X.N.Nodup) (hi : X.N[i]? = some x) (hx : Loc X.env.scope x) (he : PE X e (tO X.K cl W g)) (hs : swapsWith e (some (.Name x pos')) pos.line X.env = pure false := by rfl)
    (hf : X.fn x = true ∨ X.env.scope.names.lookup x = some .local := by first | exact .inl rfl | exact .inr rfl | assumption) : PS X (.Assign [.Name x pos'] e pos) (tS X.K cl W (setO i g)) :=
  PS.weak (ps_set hN hi hx he hs hf) fun E σ H h => setO_w E σ H h
theorem s_set {g : Ev D} (hN : X.N.Nodup) (hi : X.N[i]? = some x) (hx : Loc X.env.scope x) (he : PE X e (tE X.K cl W g)) (hs : swapsWith e (some (.Name x pos')) pos.line X.env = pure false := by rfl)
    (hf : X.fn x = true ∨ X.env.scope.names.lookup x = some .local := by first | exact .inl rfl | exact .inr rfl | assumption) : PS X (.Assign [.Name x pos'] e pos) (tS X.K cl W (setS i g)) :=
  PS.weak (ps_set hN hi hx he hs hf) fun E σ H h => setS_w E σ H h
end
end DL
end
section
set_option Elab.async false
set_option linter.all false
set_option maxRecDepth 100000
set_option autoImplicit false
namespace DL
open PySem PySem.Spec L2

/-! ### targets -/
/-- a target: the slots it stores, what it does -/
structure Tg where
  ss : List Nat
  f : D → Rho → Option Rho
def tgN (i : Nat) : Tg := ⟨[i], fun d r => sto r i (.fz d)⟩
def tgs : List Tg → List D → Rho → Option Rho
  | [], [], r => some r
  | t :: ts, d :: ds, r => (t.f d r).bind fun r1 => tgs ts ds r1
  | _, _, _ => none
def tgT (ts : List Tg) : Tg := ⟨(ts.map Tg.ss).flatten, fun d r => match d with
  | .tuple ds => tgs ts ds r
  | _ => none⟩
def gD (K : PySem.W.Frag) (t : Tg) : TG := fun v σ H Q => ∃ M ρ d ρ', Rel K M σ H ρ ∧ Dd K (rs (Mu M σ ρ) H) v d ∧ t.f d ρ = some ρ' ∧ ∀ σ', Go σ ρ H σ' ρ' H → Rel K M σ' H ρ' → (∀ j, j ∉ t.ss → σ'[j]? = σ[j]?) → σ'.length = σ.length → Q σ' H
def gDs (K : PySem.W.Frag) (ts : List Tg) : TGs := fun vs σ H Q => ∃ M ρ ds ρ', Rel K M σ H ρ ∧ DdAll K (rs (Mu M σ ρ) H) vs ds ∧ tgs ts ds ρ = some ρ' ∧ ∀ σ', Go σ ρ H σ' ρ' H → Rel K M σ' H ρ' → (∀ j, j ∉ (ts.map Tg.ss).flatten → σ'[j]? = σ[j]?) → σ'.length = σ.length → Q σ' H
theorem PG.weak {X : Cx} {e : Expr} {t t' : TG} (h : PG X e t) (w : ∀ v σ H Q, t' v σ H Q → t v σ H Q) : PG X e t' := ⟨fun pins s σ H v u Q I r q => h.run pins s σ H v u Q I r (w v σ H Q q)⟩
theorem PGs.weak {X : Cx} {e : List Expr} {t t' : TGs} (h : PGs X e t) (w : ∀ v σ H Q, t' v σ H Q → t v σ H Q) : PGs X e t' := ⟨fun pins s σ H v u Q I r q => h.run pins s σ H v u Q I r (w v σ H Q q)⟩
section
variable {X : Cx} {pos : Pos}
theorem g_name {i : Nat} {x : Str} (hN : X.N.Nodup) (hi : X.N[i]? = some x) (hx : Loc X.env.scope x) (hf : X.fn x = true ∨ X.env.scope.names.lookup x = some .local := by first | exact .inl rfl | exact .inr rfl | assumption) : PG X (.Name x pos) (gD X.K (tgN i)) := by
  refine PG.weak (pg_name hN hi hx hf) ?_
  rintro v σ H Q ⟨M, ρ, d, ρ', R, hd, e, q⟩
  obtain ⟨R2, g2⟩ := R.store hd e
  refine q _ g2 R2 (fun j hj => ?_) (List.length_set ..)
  rw [List.getElem?_set_ne]
  intro z
  subst z
  exact hj (by simp [tgN])
theorem gs_nil : PGs X [] (gDs X.K []) := by
  refine PGs.weak pgs_nil ?_
  rintro v σ H Q ⟨M, ρ, d, ρ', R, hd, e, q⟩
  cases d with
  | nil =>
    have e : some ρ = some ρ' := e
    cases e
    cases hd
    exact ⟨rfl, q σ Go.refl R (fun _ _ => rfl) rfl⟩
  | cons _ _ => cases e
theorem gs_cons {e : Expr} {es : List Expr} {t : Tg} {ts : List Tg} (h1 : PG X e (gD X.K t)) (h2 : PGs X es (gDs X.K ts))
    (hs : (assignEach (e :: es) X.env).map (·.2) = assign e X.env :: (assignEach es X.env).map (·.2) := by rfl) : PGs X (e :: es) (gDs X.K (t :: ts)) := by
  refine PGs.weak (pgs_cons h1 h2 hs) ?_
  rintro v σ H Q ⟨M, ρ, d, ρ', R, hd, e, q⟩
  cases hd with
  | nil => cases e
  | cons a b =>
    obtain ⟨ρ1, e1, e2⟩ := Option.bind_eq_some_iff.mp e
    refine ⟨_, _, rfl, M, ρ, _, ρ1, R, a, e1, fun σ1 g1 R1 s1 l1 => ?_⟩
    refine ⟨M, ρ1, _, ρ', R1, ddAll_mono g1.same _ _ b, e2, fun σ2 g2 R2 s2 l2 => ?_⟩
    refine q σ2 (g1.trans g2) R2 (fun j hj => ?_) (l2.trans l1)
    simp only [List.map_cons, List.flatten_cons, List.mem_append, not_or] at hj
    exact (s2 j hj.2).trans (s1 j hj.1)
theorem tgs_len : ∀ {ts : List Tg} {ds : List D} {ρ ρ' : Rho}, tgs ts ds ρ = some ρ' → ds.length = ts.length
  | [], [], _, _, _ => rfl
  | t :: ts, d :: ds, ρ, ρ', h => by
    obtain ⟨r1, _, e2⟩ := Option.bind_eq_some_iff.mp (show (t.f d ρ).bind (fun r1 => tgs ts ds r1) = some ρ' from h)
    simp [tgs_len e2]
  | [], _ :: _, _, _, h => by cases h
  | _ :: _, [], _, _, h => by cases h
theorem g_tup {es : List Expr} {k : Nat} {ts : List Tg} {n : Nat} (hc : X.calm = true) (h : PGs X es (gDs X.K ts)) (hl : ts.length = n := by rfl)
    (hn : (assignEach es X.env).length = n := by rfl) (hst : (assignEach es X.env).findIdx? (·.1) = none := by rfl) : PG X (.Tuple es k pos) (gD X.K (tgT ts)) := by
  refine PG.weak (pg_tup (n := n) hc h hn hst) ?_
  rintro v σ H Q ⟨M, ρ, d, ρ', R, hd, e, q⟩
  cases d with
  | tuple ds =>
    have e : tgs ts ds ρ = some ρ' := e
    cases hd with
    | tup hs ha => exact ⟨_, _, rfl, .inl (.inl (rs_of hs).1), by rw [ha.length, tgs_len e, hl], M, ρ, ds, ρ', R, ha, e, q⟩
  | none => cases e
  | bool _ => cases e
  | int _ => cases e
  | str _ => cases e
  | list _ => cases e
  | dict _ => cases e
end
/-- (a, b) = e -/
def asgS (t : Tg) (g : Ev D) : Ev Fl := fun ρ => (g ρ).bind fun d r => stR (t.f d r)
theorem s_asg {X : Cx} {cl : Cl} {W : WX} {tg e : Expr} {pos : Pos} {t : Tg} {g : Ev D} (he : PE X e (tE X.K cl W g)) (hg : PG X tg (gD X.K t)) (hs : swapsWithSole [tg] e pos.line X.env = pure false := by rfl) (hw : swappedStores [tg] e X.env = pure none := by rfl)
    (h1 : (assignEach [tg] X.env).map (·.2) = [assign tg X.env] := by rfl) : PS X (.Assign [tg] e pos) (tS X.K cl W (asgS t g)) := by
  refine PS.weak (ps_asg he hg hs hw h1) ?_
  rintro E σ H ⟨M, ρ, R, p⟩
  refine tS_bind R p fun v d ρ1 H1 _ g1 R1 q1 p1 => ?_
  cases e : t.f d ρ1 with
  | none => rw [e] at p1; exact p1.elim
  | some ρ2 =>
    rw [e] at p1
    exact ⟨M, ρ1, d, ρ2, R1, q1, e, fun σ' g2 R2 _ _ => p1 σ' H1 g2 R2⟩

/-! ### what is walked -/
structure WalkD (K : PySem.W.Frag) (J : It) (G : Hp) (ds : List D) : Prop where
  stop : ∀ H, Same G H → J.stop ds.length H
  go : ∀ i d H, ds[i]? = some d → Same G H → J.go i H ∧ ∀ x H', J.yld i H x H' → Same H H' ∧ Dd K (Ex G H H') x d
def RI (K : PySem.W.Frag) : Rk (List D) It := ⟨fun M σ ρ _ H J ds => WalkD K J (rs (Mu M σ ρ) H) ds, fun _ h => h⟩
abbrev tI (K : PySem.W.Frag) (cl : Cl) (W : WX) (g : Ev (List D)) : TI := tG K cl W (RI K) g
theorem PI.weak {X : Cx} {tg e : Expr} {t t' : TI} (h : PI X tg e t) (w : ∀ σ H Q, t' σ H Q → t σ H Q) : PI X tg e t' := ⟨fun pins s σ H R I q => h.run pins s σ H R I (w σ H R q)⟩
def iterD : D → Option (List D)
  | .list xs => some xs
  | .tuple xs => some xs
  | .str z => some (z.cps.toList.map fun c => .str ⟨#[c]⟩)
  | _ => none
def iSeq (K : PySem.W.Frag) (tl : TE) : TI := fun σ H R => tl σ H fun x H1 => (∃ a, x = .ref a ∧ (∃ xs, SqL K H1 a xs) ∧ R (Itl K a) H1) ∨ (∃ a, x = .ref a ∧ (∃ xs, SqT K H1 a xs) ∧ R (Itt K a) H1) ∨ (∃ z, x = .str z ∧ R (Its z) H1)
def tJust (v : V) (H0 : Hp) : TE := fun _ H Q => H = H0 ∧ Q v H
section
variable {X : Cx} {cl : Cl} {W : WX} {tg l : Expr}
theorem pi_seq {tl : TE} (hl : PE X l tl) : PI X tg l (iSeq X.K tl) := by
  refine ⟨fun pins s σ H R I h => ?_⟩
  refine thn (hl.run pins s σ H _ I h) fun v s1 ⟨x, H1, I1, r1, q1⟩ => ?_
  rcases q1 with ⟨a, rfl, ⟨xs, hq⟩, q⟩ | ⟨a, rfl, ⟨xs, hq⟩, q⟩ | ⟨z, rfl, q⟩
  · cases r1
    obtain ⟨_, _, pl, _⟩ := I1.list hq
    exact wpAny_pyIter_list pl.isList (pi_one (tk := s1.toks) I1 _ (turn_list a _) ⟨_, Heap.get?_push_size _ rfl, rfl, rfl⟩ q)
  · cases r1
    obtain ⟨_, _, pl, _⟩ := I1.tuple hq
    exact wpAny_pyIter_tuple pl (pi_one (tk := s1.toks) I1 _ (turn_tuple a _) ⟨_, Heap.get?_push_size _ rfl, rfl, rfl⟩ q)
  · obtain ⟨t, rfl⟩ := r1
    cases ha : z.cps.all (· < 128)
    · exact wpAny_pyIter_wide ha (pi_one (tk := s1.toks) I1 _ (turn_str _ z t "str_iterator" (.inr rfl)) ⟨_, Heap.get?_push_size _ rfl, rfl, rfl⟩ q)
    · exact wpAny_pyIter_ascii ha (pi_one (tk := s1.toks) I1 _ (turn_str _ z t "str_ascii_iterator" (.inl rfl)) ⟨_, Heap.get?_push_size _ rfl, rfl, rfl⟩ q)
end
def eIt (g : Ev D) : Ev (List D) := fun ρ => (g ρ).bind fun d r => ofO (iterD d) r
section
variable {X : Cx} {cl : Cl} {W : WX} {tg l : Expr} {K : PySem.W.Frag} {G : Hp}
theorem walk_l {a : Addr} {vs : List V} {ds : List D} (h : G a = some (.lst vs)) (hd : DdAll K G vs ds) : WalkD K (Itl K a) G ds := by
  have hl := hd.length
  refine ⟨fun H s => ⟨vs, .inl (.inl (s _ _ h)), by omega⟩, fun i d H e s => ?_⟩
  obtain ⟨v, h1, h2⟩ := hd.get e
  refine ⟨⟨vs, v, .inl (.inl (s _ _ h)), h1⟩, fun x H' y => ?_⟩
  obtain ⟨rfl, y⟩ := y
  have z := y vs (.inl (.inl (s _ _ h)))
  rw [h1] at z
  cases z
  exact ⟨Same.refl _, dd_mono (ex_same s) _ _ h2⟩
theorem walk_t {a : Addr} {vs : List V} {ds : List D} (h : SqT K G a vs) (hd : DdAll K G vs ds) : WalkD K (Itt K a) G ds := by
  have hl := hd.length
  refine ⟨fun H s => ⟨vs, sqT_mono s h, by omega⟩, fun i d H e s => ?_⟩
  obtain ⟨v, h1, h2⟩ := hd.get e
  refine ⟨⟨vs, v, sqT_mono s h, h1⟩, fun x H' y => ?_⟩
  obtain ⟨rfl, y⟩ := y
  have z := y vs (sqT_mono s h)
  rw [h1] at z
  cases z
  exact ⟨Same.refl _, dd_mono (ex_same s) _ _ h2⟩
theorem walk_s {z : Str} : WalkD K (Its z) G (z.cps.toList.map fun c => PyData.str ⟨#[c]⟩) := by
  refine ⟨fun H s => ?_, fun i d H e s => ?_⟩
  · show z.cps.size ≤ _
    simp
  · rw [List.getElem?_map, Array.getElem?_toList] at e
    cases q : z.cps[i]? with
    | none => rw [q] at e; cases e
    | some c =>
      rw [q] at e
      cases e
      refine ⟨(Array.getElem?_eq_some_iff.mp q).1, fun x H' y => ?_⟩
      obtain ⟨rfl, c', h1, rfl⟩ := y
      rw [q] at h1
      cases h1
      exact ⟨Same.refl _, .str _⟩
theorem i_seq {g : Ev D} (hl : PE X l (tE X.K cl W g)) : PI X tg l (tI X.K cl W (eIt g)) := by
  refine PI.weak (pi_seq hl) ?_
  rintro σ H Q ⟨M, ρ, R, p⟩
  refine tG_bind R p fun v d ρ1 H1 _ g1 R1 q1 p1 => ?_
  cases d with
  | list ds =>
    cases q1 with
    | lst hs ha => exact .inl ⟨_, rfl, ⟨_, .inl (.inl (rs_of hs).1)⟩, p1 _ H1 Go.refl R1 (walk_l hs ha)⟩
  | tuple ds =>
    cases q1 with
    | tup hs ha => exact .inr (.inl ⟨_, rfl, ⟨_, .inl (.inl (rs_of hs).1)⟩, p1 _ H1 Go.refl R1 (walk_t (.inl (.inl hs)) ha)⟩)
  | str z =>
    cases q1
    exact .inr (.inr ⟨z, rfl, p1 _ H1 Go.refl R1 walk_s⟩)
  | none => exact p1.elim
  | bool _ => exact p1.elim
  | int _ => exact p1.elim
  | dict _ => exact p1.elim
/-- range(n), range(a, b) -/
def rgD (a b : Int) : List D := (List.range (b - a).toNat).map fun i => .int (a + (i : Nat))
theorem walk_r {lo : Int} {n : Nat} : WalkD K (Itr lo n) G ((List.range n).map fun i => PyData.int (lo + (i : Nat))) := by
  refine ⟨fun H s => ?_, fun i d H e s => ?_⟩
  · show n ≤ _
    simp
  · have hi : i < n := by
      have := (List.getElem?_eq_some_iff.mp e).1
      simpa using this
    rw [List.getElem?_map, List.getElem?_range hi] at e
    cases e
    refine ⟨hi, fun x H' y => ?_⟩
    obtain ⟨rfl, rfl⟩ := y
    exact ⟨Same.refl _, .int _⟩
/-- one expression's value as an argument list -/
def eOne (a : Opd) : Ev (List OV) := fun ρ => (a.run ρ).bind fun x r => .ok [x] r
def rg1D : D → Option (List D)
  | .int j => if -(2 ^ 62) ≤ j ∧ j < 2 ^ 62 then some (rgD 0 j) else none
  | _ => none
def rg2D : D → D → Option (List D)
  | .int i, .int j => if -(2 ^ 62) ≤ i ∧ i < 2 ^ 62 ∧ -(2 ^ 62) ≤ j ∧ j < 2 ^ 62 then some (rgD i j) else none
  | _, _ => none
variable {A B : Opd} {a b : Expr} {p pos : Pos}
theorem tc1_w {R : Rk (List D) It} {f : D → Option (List D)} {k : List V → Hp → Prop} (M : Addr → Prop) (ρ : Rho) (σ : St) (H : Hp) (Q : It → Hp → Prop) (hR : Rel K M σ H ρ) (p : Pst K cl W R M σ ρ H (e1 f A ρ) Q)
    (hk : ∀ v d ds ρ1 H1, Rel K M σ H1 ρ1 → DpB K (rs (Mu M σ ρ1) H1) H1 v d → f d = some ds → Pst K cl W R M σ ρ1 H1 (.ok ds ρ1) Q → k [v] H1) : tCons (tP K cl W A) tNil σ H k := by
  refine tG_bind hR p fun v x ρ1 H1 _ g1 R1 q1 p1 => ?_
  cases q : (x.fin ρ1).bind f with
  | none => rw [q] at p1; exact p1.elim
  | some ds =>
    rw [q] at p1
    obtain ⟨d, e1, e2⟩ := Option.bind_eq_some_iff.mp q
    exact hk v d ds ρ1 H1 R1 (RV0.fin R1 q1 e1) e2 p1
theorem i_range1 (hg : Gl X "range") (hm : X.mg "range" = none) (ha : PE X a (tP X.K cl W A)) (hs : starEach [a] X.env = [(false, eval a X.env)] := by rfl) : PI X tg (.Call (.Name "range" p) [a] [] pos) (tI X.K cl W (e1 rg1D A)) := by
  refine PI.weak (pi_range1 hg hm (pa_cons ha pa_nil (by rw [hs]; rfl)) hs) ?_
  rintro σ H Q ⟨M, ρ, R, q⟩
  refine tc1_w M ρ σ H Q R q fun v d ds ρ1 H1 R1 hd e p1 => ?_
  cases d with
  | int j =>
    simp only [rg1D] at e
    split at e
    · rename_i hc
      cases e
      refine ⟨j, by rw [hd.int], hc.1, hc.2, p1 _ H1 Go.refl R1 ?_⟩
      have z : j.toNat = (j - 0).toNat := by simp
      rw [z]
      exact walk_r
    · cases e
  | none => cases e
  | bool _ => cases e
  | str _ => cases e
  | list _ => cases e
  | tuple _ => cases e
  | dict _ => cases e
theorem i_range2 (hg : Gl X "range") (hm : X.mg "range" = none) (ha : PE X a (tP X.K cl W A)) (hb : PE X b (tP X.K cl W B)) (hs : starEach [a, b] X.env = [(false, eval a X.env), (false, eval b X.env)] := by rfl) (hs2 : starEach [b] X.env = [(false, eval b X.env)] := by rfl) :
    PI X tg (.Call (.Name "range" p) [a, b] [] pos) (tI X.K cl W (e2 rg2D A B)) := by
  refine PI.weak (pi_range2 hg hm (pa_cons ha (pa_cons hb pa_nil (by rw [hs2]; rfl)) (by rw [hs, hs2])) hs hs2) ?_
  rintro σ H Q ⟨M, ρ, R, q⟩
  refine tG_bind R q fun v x ρ1 H1 _ g1 R1 q1 p1 => ?_
  refine tG_bind R1 p1 fun w y ρ2 H2 _ g2 R2 q2 p2 => ?_
  cases z : (x.fin ρ2).bind (fun p => (y.fin ρ2).bind fun q => rg2D p q) with
  | none => rw [z] at p2; exact p2.elim
  | some ds =>
    rw [z] at p2
    obtain ⟨d1, e1, z⟩ := Option.bind_eq_some_iff.mp z
    obtain ⟨d2, e2, z⟩ := Option.bind_eq_some_iff.mp z
    have h1 := RV0.fin R2 (RV0.go g2 q1) e1
    have h2 := RV0.fin R2 q2 e2
    unfold rg2D at z
    split at z
    · split at z
      · rename_i hc
        cases z
        exact ⟨_, _, by rw [h1.int, h2.int], hc, p2 _ H2 Go.refl R2 walk_r⟩
      · cases z
    · cases z
end

/-! ### for -/
def loopS (t : Tg) (body : Ev Fl) : List D → Ev Fl
  | [], r => .ok .nx r
  | d :: ds, r => match t.f d r with
    | none => .no
    | some r1 => (body r1).bind fun f r2 => match f with
      | .nx => loopS t body ds r2
      | .ct => loopS t body ds r2
      | .bk => .ok .nx r2
      | .rt v => .ok (.rt v) r2
def forS (gi : Ev (List D)) (t : Tg) (body : Ev Fl) : Ev Fl := fun ρ => (gi ρ).bind fun ds r => loopS t body ds r
section
variable {X : Cx} {cl : Cl} {W : WX} {tg iter : Expr} {body : List Stmt} {pos : Pos} {gi : Ev (List D)} {t : Tg} {gb : Ev Fl}
theorem s_for (hp : PassesOwn (model X.prog X.w) X.A X.env X.xe) (hc : X.calm = true) (hi : PI X tg iter (tI X.K cl W gi)) (hg : PG X tg (gD X.K t)) (hb : PSs X body (tS X.K cl W gb))
    (hs : ∀ x, foldedSetIterable iter X.env x = pure x := by intro _; rfl) : PS X (.For tg iter body [] pos) (tS X.K cl W (forS gi t gb)) := by
  refine PS.weak (ps_for hp hc hi hg hb hs) ?_
  rintro E σ H ⟨M, ρ, R, p⟩
  refine tS_bind R p fun J ds ρ1 H1 _ g1 R1 q1 p1 => ?_
  refine ⟨fun i m σ' H' => m = ds.length - i ∧ i ≤ ds.length ∧ ∃ ρ', Go σ ρ1 H1 σ' ρ' H' ∧ Rel X.K M σ' H' ρ' ∧ Sst X.K cl W M E σ' ρ' H' (loopS t gb (ds.drop i) ρ'), ⟨ds.length, by simp, Nat.zero_le _, ρ1, Go.refl, R1, p1⟩, ?_⟩
  rintro i m σ2 H2 ⟨rfl, hi2, ρ2, g2, R2, p2⟩
  by_cases hlt : i < ds.length
  · have ed : ds[i]? = some ds[i] := List.getElem?_eq_getElem hlt
    have sm := g2.same (M := M)
    obtain ⟨go, yl⟩ := q1.go i ds[i] H2 ed fun q o e => rs_sub _ _ _ _ (sm q o e)
    rw [List.drop_eq_getElem_cons hlt] at p2
    refine .inr ⟨go, fun σ' H' => ∃ ρ', Go σ ρ1 H1 σ' ρ' H' ∧ Rel X.K M σ' H' ρ' ∧ Sst X.K cl W M E σ' ρ' H' (loopS t gb (ds.drop (i + 1)) ρ'), fun σ' H' z => ⟨ds.length - (i + 1), by omega, rfl, hlt, z⟩, fun x H3 y => ?_⟩
    obtain ⟨s3, hx⟩ := yl x H3 y
    have g3 : Go σ2 ρ2 H2 σ2 ρ2 H3 := Go.ext R2 s3
    have R3 := R2.ext s3
    have hx : Dd X.K (rs (Mu M σ2 ρ2) H3) x ds[i] := by
      refine dd_mono (fun q o e => ?_) _ _ hx
      refine R2.ex_le s3 q o ?_
      unfold Ex at e ⊢
      cases z : H2 q with
      | none => rw [z] at e; exact e
      | some u => rw [z] at e; exact sm q o e
    have p3 := Sst.step g3 p2
    unfold loopS at p3
    cases et : t.f ds[i] ρ2 with
    | none => rw [et] at p3; exact p3.elim
    | some ρ4 =>
      rw [et] at p3
      refine ⟨M, ρ2, ds[i], ρ4, R3, hx, et, fun σ4 g4 R4 _ _ => ?_⟩
      have p4 := Sst.step g4 p3
      refine ⟨M, ρ4, R4, ?_⟩
      have back : ∀ {σ5 H5 ρ5}, Go σ4 ρ4 H3 σ5 ρ5 H5 → Go σ ρ1 H1 σ5 ρ5 H5 := fun g5 => g2.trans (g3.trans (g4.trans g5))
      dsimp only at p4
      cases eb : gb ρ4 with
      | ok f ρ5 =>
        rw [eb] at p4
        cases f with
        | nx => exact fun σ5 H5 g5 R5 => ⟨ρ5, back g5, R5, Sst.step g5 p4⟩
        | ct => exact fun σ5 H5 g5 R5 => ⟨ρ5, back g5, R5, Sst.step g5 p4⟩
        | bk => exact p4
        | rt d => exact p4
      | er c ρ5 => rw [eb] at p4; exact p4
      | no => rw [eb] at p4; exact p4
  · have ei : i = ds.length := by omega
    subst ei
    rw [List.drop_length] at p2
    exact .inl ⟨q1.stop H2 fun q o e => rs_sub _ _ _ _ (g2.same (M := M) q o e), p2 σ2 H2 Go.refl R2⟩

/-! ### while -/
def whileS (c : Ev Bool) (body : Ev Fl) : Nat → Ev Fl
  | 0, _ => .no
  | n + 1, r => (c r).bind fun b r1 => if b = true then (body r1).bind fun f r2 => match f with
      | .nx => whileS c body n r2
      | .ct => whileS c body n r2
      | .bk => .ok .nx r2
      | .rt v => .ok (.rt v) r2
    else .ok .nx r1
theorem s_while (n : Nat) {c : Expr} {gc : Ev Bool} (hp : PassesOwn (model X.prog X.w) X.A X.env X.xe) (hc : PT X c (tT X.K cl W gc)) (hb : PSs X body (tS X.K cl W gb)) : PS X (.While c body [] pos) (tS X.K cl W (whileS gc gb n)) := by
  refine PS.weak (ps_while hp hc hb) ?_
  rintro E σ H ⟨M, ρ, R, p⟩
  refine ⟨fun m σ' H' => ∃ ρ', Rel X.K M σ' H' ρ' ∧ Sst X.K cl W M E σ' ρ' H' (whileS gc gb m ρ'), ⟨n, ρ, R, p⟩, ?_⟩
  rintro m σ1 H1 ⟨ρ1, R1, p1⟩
  cases m with
  | zero => exact p1.elim
  | succ m =>
    unfold whileS at p1
    refine tS_bind R1 p1 fun k k' ρ2 H2 _ g2 R2 q2 p2 => ?_
    have q2 : k = k' := q2
    subst q2
    cases k with
    | false =>
      rw [if_neg (by decide)] at p2 ⊢
      exact p2 σ1 H2 Go.refl R2
    | true =>
      rw [if_pos rfl] at p2 ⊢
      refine ⟨fun σ' H' => ∃ ρ', Rel X.K M σ' H' ρ' ∧ Sst X.K cl W M E σ' ρ' H' (whileS gc gb m ρ'), fun σ' H' z => ⟨m, Nat.lt_succ_self m, z⟩, M, ρ2, R2, ?_⟩
      cases eb : gb ρ2 with
      | ok f ρ5 =>
        rw [eb] at p2
        cases f with
        | nx => exact fun σ5 H5 g5 R5 => ⟨ρ5, R5, Sst.step g5 p2⟩
        | ct => exact fun σ5 H5 g5 R5 => ⟨ρ5, R5, Sst.step g5 p2⟩
        | bk => exact p2
        | rt d => exact p2
      | er c ρ5 => rw [eb] at p2; exact p2
      | no => rw [eb] at p2; exact p2
end
end DL
end
section
set_option Elab.async false
set_option linter.all false
set_option maxRecDepth 100000
set_option autoImplicit false
namespace DL
open PySem PySem.Spec L2

/-! ### arguments: data, or a list of our own that the callee may change -/
inductive AE where
  | g (e : Ev D)
  | s (i : Nat)
inductive AV where
  | d (x : D)
  | s (i : Nat)
def argE : AE → Ev AV
  | .g e => fun ρ => (e ρ).bind fun x r => .ok (.d x) r
  | .s i => fun ρ => match ρ[i]? with
    | some (.ow _ _) => .ok (.s i) ρ
    | _ => .no
def argsE : List AE → Ev (List AV)
  | [] => fun ρ => .ok [] ρ
  | a :: as => fun ρ => (argE a ρ).bind fun x r => (argsE as r).bind fun xs r2 => .ok (x :: xs) r2
def RA0 (K : PySem.W.Frag) (M : Addr → Prop) (σ : St) (ρ : Rho) (H : Hp) (v : V) (x : AV) : Prop := match x with
  | .d d => Dd K (rs (Mu M σ ρ) H) v d
  | .s i => σ[i]? = some (some v)
def RA (K : PySem.W.Frag) : Rk AV V := ⟨fun M σ ρ _ H v x => RA0 K M σ ρ H v x, fun _ h => h⟩
def RAs (K : PySem.W.Frag) : Rk (List AV) (List V) := ⟨fun M σ ρ _ H vs xs => Paired (RA0 K M σ ρ H) vs xs, fun _ h => h⟩
theorem RA0.go {K : PySem.W.Frag} {M : Addr → Prop} {σ : St} {ρ ρ' : Rho} {H H' : Hp} {v : V} {x : AV} (g : Go σ ρ H σ ρ' H') (h : RA0 K M σ ρ H v x) : RA0 K M σ ρ' H' v x := by
  cases x with
  | d d => exact dd_mono g.same _ _ h
  | s i => exact h
abbrev tAe (K : PySem.W.Frag) (cl : Cl) (W : WX) (a : AE) : TE := tG K cl W (RA K) (argE a)
abbrev tAs (K : PySem.W.Frag) (cl : Cl) (W : WX) (as : List AE) : TA := tG K cl W (RAs K) (argsE as)
section
variable {X : Cx} {cl : Cl} {W : WX} {e : Expr} {es : List Expr} {a : AE} {as : List AE}
theorem a_g {g : Ev D} (h : PE X e (tE X.K cl W g)) : PE X e (tAe X.K cl W (.g g)) := by
  refine PE.weak h ?_
  rintro σ H Q ⟨M, ρ, r, p⟩
  refine tG_bind (f := fun x r => Res.ok (AV.d x) r) r p fun v d ρ1 H1 _ g1 r1 q p1 => ?_
  exact p1 v H1 Go.refl r1 q
theorem a_s {i : Nat} (h : PE X e (tVar i)) : PE X e (tAe X.K cl W (.s i)) := by
  refine PE.weak h ?_
  rintro σ H Q ⟨M, ρ, R, p⟩
  cases q : ρ[i]? with
  | none => simp only [argE, q] at p; exact p.elim
  | some sl =>
    cases sl with
    | un => simp only [argE, q] at p; exact p.elim
    | fz d => simp only [argE, q] at p; exact p.elim
    | ow b o =>
      simp only [argE, q] at p
      obtain ⟨a, h1, h2⟩ := R.ow i _ _ q
      exact ⟨_, h1, p _ H Go.refl R h1⟩
theorem as_nil : PA X [] (tAs X.K cl W []) := by
  refine PA.weak pa_nil ?_
  rintro σ H Q ⟨M, ρ, R, p⟩
  exact p [] H Go.refl R .nil
theorem as_cons (ha : PE X e (tAe X.K cl W a)) (hr : PA X es (tAs X.K cl W as)) (hs : starEach (e :: es) X.env = (false, eval e X.env) :: starEach es X.env := by rfl) : PA X (e :: es) (tAs X.K cl W (a :: as)) := by
  refine PA.weak (pa_cons ha hr hs) ?_
  rintro σ H Q ⟨M, ρ, R, p⟩
  refine tG_bind R p fun v d ρ1 H1 _ g1 R1 q1 p1 => ?_
  refine tG_bind R1 p1 fun vs ds ρ2 H2 _ g2 R2 q2 p2 => ?_
  exact p2 _ H2 Go.refl R2 (.cons (RA0.go g2 q1) q2)
end

/-! ### what the callee gets, what comes back -/
def slots : List AV → List Nat
  | [] => []
  | .d _ :: as => slots as
  | .s i :: as => i :: slots as
def mk : List AV → Rho → Option Rho
  | [], _ => some []
  | .d x :: as, r => (mk as r).map (Sl.fz x :: ·)
  | .s i :: as, r => match r[i]? with
    | some (.ow _ o) => (mk as r).map (Sl.ow true o :: ·)
    | _ => none
def back (o : Sl) (s : Option Sl) : Sl := match o, s with
  | .ow true o', some (.ow b _) => .ow b o'
  | _, _ => .un
theorem back_at {o s : Sl} {q : Option Sl} (h : back o q = s) : s = Sl.un ∨ ∃ (o' : Ob) (b : Bool) (o2 : Ob), o = Sl.ow true o' ∧ q = some (Sl.ow b o2) ∧ s = Sl.ow b o' := by
  unfold back at h
  split at h
  · exact .inr ⟨_, _, _, rfl, rfl, h.symm⟩
  · exact .inl h.symm
def put : List AV → Rho → Rho → Rho
  | .d _ :: as, _ :: out, r => put as out r
  | .s i :: as, o :: out, r => put as out (r.set i (back o r[i]?))
  | .d _ :: as, [], r => put as [] r
  | .s i :: as, [], r => put as [] (r.set i .un)
  | [], _, r => r
theorem mk_len : ∀ {as : List AV} {r q : Rho}, mk as r = some q → q.length = as.length
  | [], _, _, h => by cases h; rfl
  | .d x :: as, r, q, h => by
    obtain ⟨q', e, rfl⟩ := Option.map_eq_some_iff.mp (show (mk as r).map (Sl.fz x :: ·) = some q from h)
    simp [mk_len e]
  | .s i :: as, r, q, h => by
    unfold mk at h
    split at h
    · obtain ⟨q', e, rfl⟩ := Option.map_eq_some_iff.mp h
      simp [mk_len e]
    · cases h
theorem mk_at : ∀ {as : List AV} {r q : Rho} {j : Nat} {s : Sl}, mk as r = some q → q[j]? = some s → (∃ x, as[j]? = some (.d x) ∧ s = .fz x) ∨ (∃ (i : Nat) (b : Bool) (o : Ob), as[j]? = some (AV.s i) ∧ r[i]? = some (Sl.ow b o) ∧ s = Sl.ow true o)
  | [], _, _, j, s, h, e => by cases h; simp at e
  | .d x :: as, r, q, j, s, h, e => by
    obtain ⟨q', e', rfl⟩ := Option.map_eq_some_iff.mp (show (mk as r).map (Sl.fz x :: ·) = some q from h)
    cases j with
    | zero => simp at e; subst e; exact .inl ⟨x, rfl, rfl⟩
    | succ j => exact mk_at (j := j) e' (by simpa using e)
  | .s i :: as, r, q, j, s, h, e => by
    unfold mk at h
    split at h
    · rename_i b o hi
      obtain ⟨q', e', rfl⟩ := Option.map_eq_some_iff.mp h
      cases j with
      | zero => simp at e; subst e; exact .inr ⟨i, b, o, rfl, hi, rfl⟩
      | succ j => exact mk_at (j := j) e' (by simpa using e)
    · cases h
theorem mk_slot : ∀ {as : List AV} {r q : Rho} {i : Nat}, mk as r = some q → i ∈ slots as → ∃ (j : Nat) (b : Bool) (o : Ob), as[j]? = some (AV.s i) ∧ r[i]? = some (Sl.ow b o) ∧ q[j]? = some (Sl.ow true o)
  | [], _, _, _, _, e => by simp [slots] at e
  | .d x :: as, r, q, i, h, e => by
    obtain ⟨q', e', rfl⟩ := Option.map_eq_some_iff.mp (show (mk as r).map (Sl.fz x :: ·) = some q from h)
    obtain ⟨j, b, o, h1, h2, h3⟩ := mk_slot e' (by simpa [slots] using e)
    exact ⟨j + 1, b, o, by simpa using h1, h2, by simpa using h3⟩
  | .s k :: as, r, q, i, h, e => by
    unfold mk at h
    split at h
    · rename_i b o hi
      obtain ⟨q', e', rfl⟩ := Option.map_eq_some_iff.mp h
      by_cases ik : i = k
      · subst ik
        exact ⟨0, b, o, rfl, hi, rfl⟩
      · obtain ⟨j, b, o, h1, h2, h3⟩ := mk_slot e' (by simpa [slots, ik] using e)
        exact ⟨j + 1, b, o, by simpa using h1, h2, by simpa using h3⟩
    · cases h
theorem slot_mem : ∀ {as : List AV} {j i : Nat}, as[j]? = some (.s i) → i ∈ slots as
  | [], _, _, h => by simp at h
  | .d x :: as, 0, i, h => by simp at h
  | .s k :: as, 0, i, h => by simp at h; simp [slots, h]
  | .d x :: as, j + 1, i, h => by simpa [slots] using slot_mem (as := as) (j := j) (by simpa using h)
  | .s k :: as, j + 1, i, h => by
    have := slot_mem (as := as) (j := j) (i := i) (by simpa using h)
    simp [slots, this]
theorem slot_inj : ∀ {as : List AV} {j k i : Nat}, (slots as).Nodup → as[j]? = some (.s i) → as[k]? = some (.s i) → j = k
  | [], _, _, _, _, h, _ => by simp at h
  | .d x :: as, 0, _, i, _, h, _ => by simp at h
  | .d x :: as, j + 1, 0, i, _, _, h => by simp at h
  | .d x :: as, j + 1, k + 1, i, n, h, h' => by
    have := slot_inj (as := as) (j := j) (k := k) (by simpa [slots] using n) (by simpa using h) (by simpa using h')
    omega
  | .s l :: as, 0, 0, i, n, h, h' => rfl
  | .s l :: as, 0, k + 1, i, n, h, h' => by
    simp at h
    subst h
    have n1 : l ∉ slots as := (List.nodup_cons.mp (show (l :: slots as).Nodup from n)).1
    exact absurd (slot_mem (j := k) (by simpa using h')) n1
  | .s l :: as, j + 1, 0, i, n, h, h' => by
    simp at h'
    subst h'
    have n1 : l ∉ slots as := (List.nodup_cons.mp (show (l :: slots as).Nodup from n)).1
    exact absurd (slot_mem (j := j) (by simpa using h)) n1
  | .s l :: as, j + 1, k + 1, i, n, h, h' => by
    have := slot_inj (as := as) (j := j) (k := k) (List.nodup_cons.mp (show (l :: slots as).Nodup from n)).2 (by simpa using h) (by simpa using h')
    omega
theorem put_len : ∀ {as : List AV} {out r : Rho}, (put as out r).length = r.length
  | [], _, _ => by unfold put; rfl
  | .d _ :: as, _ :: out, r => by unfold put; exact put_len
  | .d _ :: as, [], r => by unfold put; exact put_len
  | .s i :: as, o :: out, r => by unfold put; rw [put_len, List.length_set]
  | .s i :: as, [], r => by unfold put; rw [put_len, List.length_set]
theorem put_out : ∀ {as : List AV} {out r : Rho} {k : Nat}, k ∉ slots as → (put as out r)[k]? = r[k]?
  | [], _, _, _, _ => by unfold put; rfl
  | .d _ :: as, _ :: out, r, k, h => by unfold put; exact put_out (by simpa [slots] using h)
  | .d _ :: as, [], r, k, h => by unfold put; exact put_out (by simpa [slots] using h)
  | .s i :: as, o :: out, r, k, h => by
    have h' : k ≠ i ∧ k ∉ slots as := by simpa [slots] using h
    unfold put; rw [put_out h'.2, List.getElem?_set_ne h'.1.symm]
  | .s i :: as, [], r, k, h => by
    have h' : k ≠ i ∧ k ∉ slots as := by simpa [slots] using h
    unfold put; rw [put_out h'.2, List.getElem?_set_ne h'.1.symm]
theorem put_in : ∀ {as : List AV} {out r : Rho} {j k : Nat} {s : Sl}, (slots as).Nodup → as[j]? = some (.s k) → (put as out r)[k]? = some s → s = Sl.un ∨ ∃ (b : Bool) (o o' : Ob), out[j]? = some (Sl.ow true o') ∧ r[k]? = some (Sl.ow b o) ∧ s = Sl.ow b o'
  | [], _, _, _, _, _, _, h, _ => by simp at h
  | .d _ :: as, out, r, 0, k, s, n, h, e => by simp at h
  | .d _ :: as, o :: out, r, j + 1, k, s, n, h, e => by
    unfold put at e
    rcases put_in (j := j) (by simpa [slots] using n) (by simpa using h) e with z | ⟨b, o1, o2, h1, h2, h3⟩
    · exact .inl z
    · exact .inr ⟨b, o1, o2, by simpa using h1, h2, h3⟩
  | .d _ :: as, [], r, j + 1, k, s, n, h, e => by
    unfold put at e
    rcases put_in (j := j) (by simpa [slots] using n) (by simpa using h) e with z | ⟨b, o1, o2, h1, h2, h3⟩
    · exact .inl z
    · simp at h1
  | .s i :: as, [], r, 0, k, s, n, h, e => by
    simp at h
    subst h
    have n1 : i ∉ slots as := (List.nodup_cons.mp (show (i :: slots as).Nodup from n)).1
    unfold put at e
    rw [put_out n1] at e
    by_cases hl : i < r.length
    · rw [List.getElem?_set_self hl] at e; cases e; exact .inl rfl
    · rw [List.getElem?_eq_none (by simpa using hl)] at e; cases e
  | .s i :: as, o :: out, r, 0, k, s, n, h, e => by
    simp at h
    subst h
    have n1 : i ∉ slots as := (List.nodup_cons.mp (show (i :: slots as).Nodup from n)).1
    unfold put at e
    rw [put_out n1] at e
    by_cases hl : i < r.length
    · rw [List.getElem?_set_self hl] at e
      have e : back o r[i]? = s := Option.some.inj e
      rcases back_at e with z | ⟨o', b, o2, h1, h2, h3⟩
      · exact .inl z
      · exact .inr ⟨b, o2, o', by simp [h1], h2, h3⟩
    · rw [List.getElem?_eq_none (by simpa using hl)] at e; cases e
  | .s i :: as, [], r, j + 1, k, s, n, h, e => by
    have n2 := List.nodup_cons.mp (show (i :: slots as).Nodup from n)
    have ik : i ≠ k := fun z => by subst z; exact n2.1 (slot_mem (j := j) (by simpa using h))
    unfold put at e
    rcases put_in (j := j) n2.2 (by simpa using h) e with z | ⟨b, o1, o2, h1, h2, h3⟩
    · exact .inl z
    · simp at h1
  | .s i :: as, o :: out, r, j + 1, k, s, n, h, e => by
    have n2 := List.nodup_cons.mp (show (i :: slots as).Nodup from n)
    have ik : i ≠ k := fun z => by subst z; exact n2.1 (slot_mem (j := j) (by simpa using h))
    unfold put at e
    rcases put_in (j := j) n2.2 (by simpa using h) e with z | ⟨b, o1, o2, h1, h2, h3⟩
    · exact .inl z
    · rw [List.getElem?_set_ne ik] at h2
      exact .inr ⟨b, o1, o2, by simpa using h1, h2, h3⟩
theorem paired_at {α β : Type} {F : α → β → Prop} : ∀ {l : List α} {m : List β} {j : Nat} {y : β}, Paired F l m → m[j]? = some y → ∃ x, l[j]? = some x ∧ F x y
  | _, _, _, _, .nil, e => by simp at e
  | _, _, 0, _, .cons r _, e => by simp at e; subst e; exact ⟨_, rfl, r⟩
  | _, _, j + 1, y, .cons _ t, e => by
    obtain ⟨x, h1, h2⟩ := paired_at (j := j) (y := y) t (by simpa using e)
    exact ⟨x, by simpa using h1, h2⟩

section
variable {K : PySem.W.Frag} {M : Addr → Prop} {σ : St} {r as' out : Rho} {H H' : Hp} {vs : List V} {avs : List AV}
def Psd (σ : St) (avs : List AV) (p : Addr) : Prop := ∃ i ∈ slots avs, σ[i]? = some (some (.ref p))
def Mc (M : Addr → Prop) (σ : St) (r : Rho) (avs : List AV) (p : Addr) : Prop := M p ∨ (Own σ r p ∧ ¬ Psd σ avs p)
abbrev st_ (vs : List V) : St := vs.map some
theorem st_at {vs : List V} {j : Nat} {v : V} (h : vs[j]? = some v) : (st_ vs)[j]? = some (some v) := by simp [st_, h]
theorem at_st {vs : List V} {j : Nat} {v : V} (h : (st_ vs)[j]? = some (some v)) : vs[j]? = some v := by simpa [st_] using h
theorem own_mk (hv : Paired (RA0 K M σ r H) vs avs) (hm : mk avs r = some as') {p : Addr} (h : Own (st_ vs) as' p) : Own σ r p ∧ Psd σ avs p := by
  obtain ⟨j, b, o, h1, h2⟩ := h
  rcases mk_at hm h1 with ⟨x, e1, e2⟩ | ⟨i, b', o', e1, e2, e3⟩
  · cases e2
  · obtain ⟨v, v1, v2⟩ := paired_at hv e1
    have v2 : σ[i]? = some (some v) := v2
    rw [at_st h2] at v1
    cases v1
    exact ⟨⟨i, b', o', e2, v2⟩, i, slot_mem e1, v2⟩
theorem mu_mk (hv : Paired (RA0 K M σ r H) vs avs) (hm : mk avs r = some as') {p : Addr} (h : Mu (Mc M σ r avs) (st_ vs) as' p) : Mu M σ r p := by
  rcases h with (h | h) | h
  · exact .inl h
  · exact .inr h.1
  · exact .inr (own_mk hv hm h).1
theorem rel_mk (R : Rel K M σ H r) (hn : (slots avs).Nodup) (hv : Paired (RA0 K M σ r H) vs avs) (hm : mk avs r = some as') : Rel K (Mc M σ r avs) (st_ vs) H as' where
  len := by rw [mk_len hm, ← Paired.length hv]; simp [st_]
  live := fun p h => h.elim (R.live p) fun h => R.olive h.1
  fz := fun j d e => by
    rcases mk_at hm e with ⟨x, e1, e2⟩ | ⟨i, b', o', e1, e2, e3⟩
    · cases e2
      obtain ⟨v, v1, v2⟩ := paired_at hv e1
      exact ⟨v, st_at v1, dd_mono (rs_le fun p => mu_mk hv hm) _ _ v2⟩
    · cases e3
  ow := fun j b o e => by
    rcases mk_at hm e with ⟨x, e1, e2⟩ | ⟨i, b', o', e1, e2, e3⟩
    · cases e2
    · cases e3
      obtain ⟨v, v1, v2⟩ := paired_at hv e1
      have v2 : σ[i]? = some (some v) := v2
      obtain ⟨p, h1, h2, h3⟩ := R.ow i _ _ e2
      rw [v2] at h1
      cases h1
      exact ⟨p, st_at v1, fun z => z.elim h2 fun z => z.2 ⟨i, slot_mem e1, v2⟩, h3.mono (rs_le fun p => mu_mk hv hm) rfl⟩
  inj := fun j k b o b' o' p h1 h2 h3 h4 => by
    rcases mk_at hm h1 with ⟨x, e1, e2⟩ | ⟨i1, b1, o1, e1, e2, e3⟩
    · cases e2
    rcases mk_at hm h2 with ⟨x, f1, f2⟩ | ⟨i2, b2, o2, f1, f2, f3⟩
    · cases f2
    obtain ⟨v, v1, v2⟩ := paired_at hv e1
    obtain ⟨u, u1, u2⟩ := paired_at hv f1
    have v2 : σ[i1]? = some (some v) := v2
    have u2 : σ[i2]? = some (some u) := u2
    rw [at_st h3] at v1
    rw [at_st h4] at u1
    cases v1
    cases u1
    have e := R.inj i1 i2 _ _ _ _ p e2 f2 v2 u2
    subst e
    exact slot_inj hn e1 f1
/-- behind the call -/
theorem rel_put (R : Rel K M σ H r) (hn : (slots avs).Nodup) (hv : Paired (RA0 K M σ r H) vs avs) (hm : mk avs r = some as') (g : Go (st_ vs) as' H (st_ vs) out H') (R' : Rel K (Mc M σ r avs) (st_ vs) H' out) :
    Go σ r H σ (put avs out r) H' ∧ Rel K M σ H' (put avs out r) ∧ Same (rs (Mu (Mc M σ r avs) (st_ vs) out) H') (rs (Mu M σ (put avs out r)) H') := by
  -- a slot behind the call
  have cs : ∀ (k : Nat) (s : Sl), (put avs out r)[k]? = some s → (k ∉ slots avs ∧ r[k]? = some s) ∨ (s = Sl.un) ∨ ∃ (j : Nat) (b : Bool) (o o' : Ob), avs[j]? = some (AV.s k) ∧ out[j]? = some (Sl.ow true o') ∧ r[k]? = some (Sl.ow b o) ∧ s = Sl.ow b o' := fun k s e => by
    by_cases hk : k ∈ slots avs
    · obtain ⟨j, b, o, h1, h2, h3⟩ := mk_slot hm hk
      rcases put_in hn h1 e with z | ⟨b', o1, o', z1, z2, z3⟩
      · exact .inr (.inl z)
      · exact .inr (.inr ⟨j, b', o1, o', h1, z1, z2, z3⟩)
    · rw [put_out hk] at e
      exact .inl ⟨hk, e⟩
  have va : ∀ {j k : Nat} {p : Addr}, avs[j]? = some (AV.s k) → σ[k]? = some (some (V.ref p)) → (st_ vs)[j]? = some (some (V.ref p)) := fun {j k p} h1 h2 => by
    obtain ⟨v, v1, v2⟩ := paired_at hv h1
    have v2 : σ[k]? = some (some v) := v2
    rw [h2] at v2
    cases v2
    exact st_at v1
  have npsd : ∀ {k : Nat} {b : Bool} {o : Ob} {p : Addr}, k ∉ slots avs → r[k]? = some (Sl.ow b o) → σ[k]? = some (some (V.ref p)) → ¬ Psd σ avs p := fun {k b o p} hk h1 h2 ⟨i, hi, h3⟩ => by
    obtain ⟨j, b', o', z1, z2, z3⟩ := mk_slot hm hi
    have := R.inj i k _ _ _ _ p z2 h1 h3 h2
    subst this
    exact hk hi
  have ow : ∀ {p}, Own σ (put avs out r) p → Own σ r p ∧ Mu (Mc M σ r avs) (st_ vs) out p := fun {p} ⟨k, b, o, h1, h2⟩ => by
    rcases cs k _ h1 with ⟨hk, e⟩ | z | ⟨j, b', o1, o', e1, e2, e3, e4⟩
    · exact ⟨⟨k, b, o, e, h2⟩, .inl (.inr ⟨⟨k, b, o, e, h2⟩, npsd hk e h2⟩)⟩
    · cases z
    · exact ⟨⟨k, b', o1, e3, h2⟩, .inr ⟨j, true, o', e2, va e1 h2⟩⟩
  have le : ∀ p, Mu M σ (put avs out r) p → Mu (Mc M σ r avs) (st_ vs) out p := fun p z => z.elim (fun z => .inl (.inl z)) fun z => (ow z).2
  have sm : Same (rs (Mu (Mc M σ r avs) (st_ vs) out) H') (rs (Mu M σ (put avs out r)) H') := rs_le le
  have sm0 : Same (rs (Mu M σ r) H) (rs (Mu M σ (put avs out r)) H') := fun q u e => sm q u (g.same (M := Mc M σ r avs) q u (rs_le (fun p => mu_mk hv hm) q u e))
  refine ⟨⟨fun p o h n => g.keep p o h fun z => n (own_mk hv hm z).1, fun p h => .inl (ow h).1, fun k o' h => ?_, g.live⟩, ⟨by rw [put_len, R.len], fun p h => ?_, fun k d h => ?_, fun k b o h => ?_, fun k l b o b' o' p h1 h2 h3 h4 => ?_⟩, sm⟩
  · rcases cs k _ h with ⟨hk, e⟩ | z | ⟨j, b', o1, o2, e1, e2, e3, e4⟩
    · exact ⟨⟨o', e⟩, rfl⟩
    · cases z
    · cases e4
      exact ⟨⟨o1, e3⟩, rfl⟩
  · obtain ⟨o, e⟩ := R.live p h
    exact g.live p o e
  · rcases cs k _ h with ⟨hk, e⟩ | z | ⟨j, b', o1, o', e1, e2, e3, e4⟩
    · obtain ⟨v, h1, h2⟩ := R.fz k d e
      exact ⟨v, h1, dd_mono sm0 _ _ h2⟩
    · cases z
    · cases e4
  · rcases cs k _ h with ⟨hk, e⟩ | z | ⟨j, b', o1, o', e1, e2, e3, e4⟩
    · obtain ⟨p, h1, h2, h3⟩ := R.ow k b o e
      obtain ⟨u, hu⟩ := h3.live
      refine ⟨p, h1, h2, h3.mono sm0 ?_⟩
      rw [hu, g.keep p u hu fun z => npsd hk e h1 (own_mk hv hm z).2]
    · cases z
    · cases e4
      obtain ⟨p, h1, h2, h3⟩ := R'.ow j _ _ e2
      obtain ⟨a, g1, _⟩ := R.ow k _ _ e3
      have := va e1 g1
      rw [h1] at this
      cases this
      exact ⟨p, g1, fun z => h2 (.inl z), h3.mono sm rfl⟩
  · have own : ∀ {k : Nat} {b : Bool} {o : Ob}, (put avs out r)[k]? = some (Sl.ow b o) → ∃ (b : Bool) (o : Ob), r[k]? = some (Sl.ow b o) := fun {k b o} h => by
      rcases cs k _ h with ⟨hk, e⟩ | z | ⟨j, b', o1, o', e1, e2, e3, e4⟩
      · exact ⟨_, _, e⟩
      · cases z
      · exact ⟨_, _, e3⟩
    obtain ⟨b1, o1, e1⟩ := own h1
    obtain ⟨b2, o2, e2⟩ := own h2
    exact R.inj k l _ _ _ _ p e1 e2 h3 h4
end

/-! ### calls of defs -/
def callR (F : Rho → Res D) (avs : List AV) (r : Rho) : Res D := if (slots avs).Nodup then match mk avs r with
    | none => .no
    | some as => match F as with
      | .ok d out => .ok d (put avs out r)
      | .er c out => .er c (put avs out r)
      | .no => .no
  else .no
def callE (F : Rho → Res D) (as : List AE) : Ev D := fun ρ => (argsE as ρ).bind fun avs r => callR F avs r
/-- a def's promise: it hands back what F says -/
def spF (K : PySem.W.Frag) (cl : Cl) (n : Nat) (F : Rho → Res D) : Sp := fun vs H Q E => vs.length = n ∧ ∃ M as, Rel K M (st_ vs) H as ∧ Pst K cl (fun cls dd _ H => E cls dd H) (RD K) M (st_ vs) as H (F as) Q
section
variable {X : Cx} {cl : Cl} {W : WX} {k : Nat} {f : Addr} {fd : FuncData} {ps : List Str} {x : Str} {p pos : Pos} {e : Expr} {es : List Expr} {as : List AE} {F : Rho → Res D}
theorem d_call (tk : Takes X W) (G : FnOk X.prog X.w X.K X.mg X.base (L2.CX X.prog X.w) k f fd ps (spF X.K cl ps.length F)) (hr : Room k X.A) (hg : Gl X x) (hm : X.mg x = some (.ref f)) (hk : PySem.W.keepIn X.K (.ref f) = true) (hb : Binds X.K fd ps [])
    (ha : PA X (e :: es) (tAs X.K cl W as)) (hl : as.length = ps.length := by rfl) (hdb : (x == ("__debug__" : Str)) = false := by decide) (he : starEach (e :: es) X.env = (false, eval e X.env) :: starEach es X.env := by rfl) (hpl : (backTo pos (starEach es X.env)).any (·.1) = false := by rfl) :
    PE X (.Call (.Name x p) (e :: es) [] pos) (tE X.K cl W (callE F as)) := by
  refine PE.weak (pe_callS (E := WE W) G hr hg hm hk hb (fun σ => passAt tk σ) ha hdb he hpl) ?_
  rintro σ H Q ⟨M, ρ, R, q⟩
  refine tG_bind R q fun vs avs ρ1 H1 ea g1 R1 q1 p1 => ?_
  have q1 : Paired (RA0 X.K M σ ρ1 H1) vs avs := q1
  have lz : ∀ {as : List AE} {ρ ρ1 : Rho} {avs : List AV}, argsE as ρ = .ok avs ρ1 → avs.length = as.length := by
    intro as
    induction as with
    | nil => intro ρ ρ1 avs h; cases h; rfl
    | cons a as ih =>
      intro ρ ρ1 avs h
      unfold argsE at h
      cases h1 : argE a ρ with
      | ok x r =>
        rw [h1] at h
        simp only [Res.bind_ok] at h
        cases h2 : argsE as r with
        | ok xs r2 =>
          rw [h2] at h
          cases h
          simp [ih h2]
        | er c r2 => rw [h2] at h; cases h
        | no => rw [h2] at h; cases h
      | er c r => rw [h1] at h; cases h
      | no => rw [h1] at h; cases h
  unfold callR at p1
  split at p1
  · rename_i hn
    split at p1
    · exact p1.elim
    · rename_i as' hm'
      refine ⟨by rw [Paired.length q1, lz ea, hl], Mc M σ ρ1 avs, as', rel_mk R1 hn q1 hm', ?_⟩
      cases eF : F as' with
      | ok d out =>
        rw [eF] at p1
        intro v H2 g2 R2 hv
        obtain ⟨z1, z2, z3⟩ := rel_put R1 hn q1 hm' g2 R2
        exact p1 v H2 z1 z2 (dd_mono z3 _ _ hv)
      | er c out =>
        rw [eF] at p1
        intro cls dd H2 hc g2 R2
        obtain ⟨z1, z2, z3⟩ := rel_put R1 hn q1 hm' g2 R2
        exact p1 cls dd H2 hc z1 z2
      | no => rw [eF] at p1; exact p1.elim
  · exact p1.elim
end

/-! ### a def by its body -/
@[simp] def keepO : Sl → Sl → Sl
  | .ow true _, .ow true o => .ow true o
  | _, _ => .un
@[simp] def outOf : Rho → Rho → Rho
  | a :: as, b :: r => keepO a b :: outOf as r
  | _ :: as, [] => .un :: outOf as []
  | [], _ => []
theorem outOf_len : ∀ {as r : Rho}, (outOf as r).length = as.length
  | [], _ => by unfold outOf; rfl
  | a :: as, [] => by
    unfold outOf
    simp [outOf_len (as := as) (r := [])]
  | a :: as, s :: r => by
    unfold outOf
    simp [outOf_len (as := as) (r := r)]
theorem keepO_at {a b s : Sl} (h : keepO a b = s) : s = Sl.un ∨ ∃ (o o' : Ob), a = Sl.ow true o ∧ b = Sl.ow true o' ∧ s = Sl.ow true o' := by
  unfold keepO at h
  split at h
  · exact .inr ⟨_, _, rfl, rfl, h.symm⟩
  · exact .inl h.symm
theorem outOf_at : ∀ {as r : Rho} {j : Nat} {s : Sl}, (outOf as r)[j]? = some s → s = Sl.un ∨ ∃ (o o' : Ob), as[j]? = some (Sl.ow true o) ∧ r[j]? = some (Sl.ow true o') ∧ s = Sl.ow true o'
  | [], r, j, s, h => by unfold outOf at h; simp at h
  | a :: as, [], 0, s, h => by unfold outOf at h; simp at h; exact .inl h.symm
  | a :: as, [], j + 1, s, h => by
    unfold outOf at h
    rcases outOf_at (as := as) (r := []) (j := j) (by simpa using h) with z | ⟨o, o', h1, h2, h3⟩
    · exact .inl z
    · simp at h2
  | a :: as, b :: r, 0, s, h => by
    unfold outOf at h
    rcases keepO_at (a := a) (b := b) (s := s) (by simpa using h) with z | ⟨o, o', h1, h2, h3⟩
    · exact .inl z
    · exact .inr ⟨o, o', by simp [h1], by simp [h2], h3⟩
  | a :: as, b :: r, j + 1, s, h => by
    unfold outOf at h
    rcases outOf_at (as := as) (r := r) (j := j) (by simpa using h) with z | ⟨o, o', h1, h2, h3⟩
    · exact .inl z
    · exact .inr ⟨o, o', by simpa using h1, by simpa using h2, h3⟩
/-- what a body with n names hands back for its arguments -/
def bodyF (n : Nat) (g : Ev Fl) (as : Rho) : Res D := match g (as ++ List.replicate (n - as.length) .un) with
  | .ok (.rt d) r => .ok d (outOf as r)
  | .ok .nx r => .ok .none (outOf as r)
  | .er c r => .er c (outOf as r)
  | _ => .no
section
variable {K : PySem.W.Frag} {M : Addr → Prop} {σ' : St} {as r : Rho} {H H' : Hp} {vs : List V} {n : Nat}
theorem start_at {N : List Str} {i : Nat} (h : i < vs.length) : (L2.start N vs)[i]? = (st_ vs)[i]? := by
  unfold L2.start
  rw [List.getElem?_append_left (by simpa using h)]
theorem as_at {i : Nat} {s : Sl} (hs : s ≠ .un) (h : (as ++ List.replicate n Sl.un)[i]? = some s) : as[i]? = some s := by
  by_cases hi : i < as.length
  · rw [List.getElem?_append_left hi] at h; exact h
  · rw [List.getElem?_append_right (by omega), List.getElem?_replicate] at h
    split at h
    · exact absurd (Option.some.inj h).symm hs
    · cases h
theorem own_start {N : List Str} (R : Rel K M (st_ vs) H as) {p : Addr} : Own (L2.start N vs) (as ++ List.replicate n Sl.un) p ↔ Own (st_ vs) as p := by
  have hl := R.len
  constructor
  · rintro ⟨i, b, o, h1, h2⟩
    have h1 := as_at (by intro z; cases z) h1
    have hi := (List.getElem?_eq_some_iff.mp h1).1
    exact ⟨i, b, o, h1, by rw [← start_at (N := N) (by simp [st_] at hl; omega)]; exact h2⟩
  · rintro ⟨i, b, o, h1, h2⟩
    have hi := (List.getElem?_eq_some_iff.mp h1).1
    exact ⟨i, b, o, by rw [List.getElem?_append_left hi]; exact h1, by rw [start_at (by simp [st_] at hl; omega)]; exact h2⟩
theorem rel_start {N : List Str} (R : Rel K M (st_ vs) H as) (hn : n = N.length - vs.length) (hN : vs.length ≤ N.length) : Rel K M (L2.start N vs) H (as ++ List.replicate n Sl.un) := by
  have hl := R.len
  have hv : as.length = vs.length := by simp [st_] at hl; omega
  have le : ∀ p, Mu M (L2.start N vs) (as ++ List.replicate n Sl.un) p → Mu M (st_ vs) as p := fun p z => z.elim .inl fun z => .inr ((own_start R).mp z)
  refine ⟨by unfold L2.start; simp; omega, R.live, fun i d e => ?_, fun i b o e => ?_, fun i j b o b' o' p h1 h2 h3 h4 => ?_⟩
  · have e := as_at (by intro z; cases z) e
    have hi := (List.getElem?_eq_some_iff.mp e).1
    obtain ⟨v, h1, h2⟩ := R.fz i d e
    exact ⟨v, by rw [start_at (by omega)]; exact h1, dd_mono (rs_le le) _ _ h2⟩
  · have e := as_at (by intro z; cases z) e
    have hi := (List.getElem?_eq_some_iff.mp e).1
    obtain ⟨p, h1, h2, h3⟩ := R.ow i b o e
    exact ⟨p, by rw [start_at (by omega)]; exact h1, h2, h3.mono (rs_le le) rfl⟩
  · have h1 := as_at (by intro z; cases z) h1
    have h2 := as_at (by intro z; cases z) h2
    have i1 := (List.getElem?_eq_some_iff.mp h1).1
    have i2 := (List.getElem?_eq_some_iff.mp h2).1
    rw [start_at (by omega)] at h3 h4
    exact R.inj i j _ _ _ _ p h1 h2 h3 h4
theorem rel_out {N : List Str} (R : Rel K M (st_ vs) H as) (g : Go (L2.start N vs) (as ++ List.replicate n Sl.un) H σ' r H') (R' : Rel K M σ' H' r) :
    Go (st_ vs) as H (st_ vs) (outOf as r) H' ∧ Rel K M (st_ vs) H' (outOf as r) ∧ Same (rs (Mu M σ' r) H') (rs (Mu M (st_ vs) (outOf as r)) H') := by
  have hl := R.len
  have hv : as.length = vs.length := by simp [st_] at hl; omega
  -- a slot that comes back stands where it stood
  have at_ : ∀ {j : Nat} {o o' : Ob}, as[j]? = some (Sl.ow true o) → r[j]? = some (Sl.ow true o') → σ'[j]? = (st_ vs)[j]? := fun {j o o'} h1 h2 => by
    have hj := (List.getElem?_eq_some_iff.mp h1).1
    rw [← start_at (N := N) (by omega)]
    exact (g.io j o' h2).2
  have ow : ∀ {p}, Own (st_ vs) (outOf as r) p → Own (st_ vs) as p ∧ Own σ' r p := fun {p} ⟨j, b, o, h1, h2⟩ => by
    rcases outOf_at h1 with z | ⟨o1, o2, e1, e2, e3⟩
    · cases z
    · exact ⟨⟨j, _, _, e1, h2⟩, j, _, _, e2, by rw [at_ e1 e2]; exact h2⟩
  have le : ∀ p, Mu M (st_ vs) (outOf as r) p → Mu M σ' r p := fun p z => z.elim .inl fun z => .inr (ow z).2
  refine ⟨⟨fun p o h z => g.keep p o h fun y => z ((own_start R).mp y), fun p h => .inl (ow h).1, fun j o' h => ?_, g.live⟩, ⟨by rw [outOf_len, hl], fun p h => ?_, fun j d h => ?_, fun j b o h => ?_, fun j k b o b' o' p h1 h2 h3 h4 => ?_⟩, rs_le le⟩
  · rcases outOf_at h with z | ⟨o1, o2, e1, e2, e3⟩
    · cases z
    · exact ⟨⟨o1, e1⟩, rfl⟩
  · exact R'.live p h
  · rcases outOf_at h with z | ⟨o1, o2, e1, e2, e3⟩
    · cases z
    · cases e3
  · rcases outOf_at h with z | ⟨o1, o2, e1, e2, e3⟩
    · cases z
    · cases e3
      obtain ⟨p, h1, h2, h3⟩ := R'.ow j _ _ e2
      exact ⟨p, by rw [← at_ e1 e2]; exact h1, h2, h3.mono (rs_le le) rfl⟩
  · rcases outOf_at h1 with z | ⟨o1, o2, e1, e2, e3⟩
    · cases z
    rcases outOf_at h2 with z | ⟨p1, p2, f1, f2, f3⟩
    · cases z
    exact R'.inj j k _ _ _ _ p e2 f2 (by rw [at_ e1 e2]; exact h3) (by rw [at_ f1 f2]; exact h4)
end
section
variable {P : Program} {w : World} {K : PySem.W.Frag} {mg : Str → Option Value} {base : Heap}
abbrev bx (P : Program) (w : World) (K : PySem.W.Frag) (mg : Str → Option Value) (base : Heap) (N : List Str) (qual : Str) (st : Stmt) (f : Addr) (cdv : Value) (A : Around) (outer : List Env) (s : Shared) (H : Hp) (E : XK) : Cx :=
  cxOf (L2.CX P w) P w K mg base N qual (defScope st) f cdv A outer s H E
abbrev WF (E : XK) : WX := fun cls dd _ H => E cls dd H
theorem def_ok {x qual : Str} {st : Stmt} {f : Addr} {fd : FuncData} {N ps : List Str} {k : Nat} {cl : Cl} {g : Ev Fl} (F : Fun K x qual st f fd) (S : FnScope N ps (defScope st)) (hN : ps.length ≤ N.length)
    (hbody : ∀ (cdv : Value) (A : Around) (outer : List Env) (s : Shared) (H : Hp) (E : XK), Room k (A.deeper (PyProof.Rows.envOfC qual (defScope st) s.heap.objs.size f cdv)) →
      PSs (bx P w K mg base N qual st f cdv A outer s H E) (defBody st) (tS K cl (WF E) g)) : FnOk P w K mg base (L2.CX P w) (k + 1) f fd ps (spF K cl ps.length (bodyF N.length g)) := by
  refine F.okX S (fun vs H Q E h => h.1) (fun cdv A outer s H vs Q E hr h => ⟨_, hbody cdv A outer s H E hr, ?_⟩)
  obtain ⟨hl, M, as, R, p⟩ := h
  have hv : as.length = vs.length := by have := R.len; simp [st_] at this; omega
  refine ⟨M, as ++ List.replicate (N.length - as.length) .un, rel_start R (by omega) (by omega), ?_⟩
  unfold bodyF at p
  cases e : g (as ++ List.replicate (N.length - as.length) .un) with
  | ok f r =>
    rw [e] at p
    cases f with
    | nx =>
      intro σ' H' g1 R1
      obtain ⟨z1, z2, z3⟩ := rel_out R g1 R1
      exact p .non H' z1 z2 .non
    | rt d =>
      intro v σ' H' g1 R1 hd
      obtain ⟨z1, z2, z3⟩ := rel_out R g1 R1
      exact p v H' z1 z2 (dd_mono z3 _ _ hd)
    | bk => exact p.elim
    | ct => exact p.elim
  | er c r =>
    rw [e] at p
    intro cls dd σ' H' hc g1 R1
    obtain ⟨z1, z2, z3⟩ := rel_out R g1 R1
    exact p cls dd H' hc z1 z2
  | no => rw [e] at p; exact p
theorem def_no {f : Addr} {fd : FuncData} {ps : List Str} {k : Nat} {cl : Cl} : FnOk P w K mg base (L2.CX P w) k f fd ps (spF K cl ps.length fun _ => .no) :=
  ⟨fun vs H Q E h => h.1, fun A outer s H args us vs Q E hr e0 hb hv h => by obtain ⟨_, M, as, _, z⟩ := h; exact z.elim⟩
end
end DL
end
section
set_option Elab.async false
set_option linter.all false
set_option maxRecDepth 100000
set_option autoImplicit false
namespace DL
open PySem PySem.Spec L2

/-! ### comprehensions -/
/-- the slots of the block's own names forgotten -/
def wipeR (ρ : Rho) : List Nat → Rho
  | [] => ρ
  | v :: vs => (wipeR ρ vs).set v .un
theorem wipeR_len (ρ : Rho) : ∀ vs : List Nat, (wipeR ρ vs).length = ρ.length
  | [] => rfl
  | v :: vs => by unfold wipeR; rw [List.length_set, wipeR_len ρ vs]
theorem wipeR_at {ρ : Rho} {i : Nat} {s : Sl} (hs : s ≠ .un) : ∀ {vs : List Nat}, (wipeR ρ vs)[i]? = some s → ρ[i]? = some s ∧ i ∉ vs
  | [], h => ⟨h, by simp⟩
  | v :: vs, h => by
    unfold wipeR at h
    by_cases hi : v = i
    · subst hi
      by_cases hv : v < (wipeR ρ vs).length
      · rw [List.getElem?_set_self hv] at h
        exact absurd (Option.some.inj h).symm hs
      · rw [List.getElem?_eq_none (by simpa using hv)] at h; cases h
    · rw [List.getElem?_set_ne hi] at h
      obtain ⟨h1, h2⟩ := wipeR_at hs h
      exact ⟨h1, by simp only [List.mem_cons, not_or]; exact ⟨fun e => hi e.symm, h2⟩⟩
theorem wipeR_ne {ρ : Rho} {i : Nat} : ∀ {vs : List Nat}, i ∉ vs → (wipeR ρ vs)[i]? = ρ[i]?
  | [], _ => rfl
  | v :: vs, h => by
    simp only [List.mem_cons, not_or] at h
    unfold wipeR
    rw [List.getElem?_set_ne (Ne.symm h.1)]
    exact wipeR_ne h.2
def Wp (ρ : Rho) (vs : List Nat) : Prop := ∀ i s, ρ[i]? = some s → s ≠ Sl.un → i ∉ vs
theorem wp_wipe (ρ : Rho) (vs : List Nat) : Wp (wipeR ρ vs) vs := fun i s h hs => (wipeR_at hs h).2
theorem wipe_eq {σ σ2 : St} {vs : List Nat} (hl : σ2.length = σ.length) (h : ∀ j, j ∉ vs → σ2[j]? = σ[j]?) : wipe σ2 vs = wipe σ vs := by
  induction vs generalizing σ σ2 with
  | nil => exact List.ext_getElem? fun j => h j (by simp)
  | cons v vs ih =>
    unfold wipe
    refine List.ext_getElem? fun j => ?_
    by_cases e : v = j
    · subst e
      by_cases hv : v < σ.length
      · rw [List.getElem?_set_self (by rw [wipe_length]; omega), List.getElem?_set_self (by rw [wipe_length]; omega)]
      · rw [List.getElem?_eq_none (by rw [List.length_set, wipe_length]; omega), List.getElem?_eq_none (by rw [List.length_set, wipe_length]; omega)]
    · rw [List.getElem?_set_ne e, List.getElem?_set_ne e]
      by_cases hj : j ∈ vs
      · have z : ∀ (τ : St), τ.length = σ.length → ∀ us : List Nat, j ∈ us → (wipe τ us)[j]? = if j < σ.length then some none else none := by
          intro τ ht us hu
          induction us with
          | nil => simp at hu
          | cons u us ihu =>
            unfold wipe
            by_cases eu : u = j
            · subst eu
              by_cases hjl : u < σ.length
              · rw [List.getElem?_set_self (by rw [wipe_length]; omega), if_pos hjl]
              · rw [List.getElem?_eq_none (by rw [List.length_set, wipe_length]; omega), if_neg hjl]
            · rw [List.getElem?_set_ne eu]
              exact ihu (by simpa [Ne.symm eu] using hu)
        rw [z σ2 hl vs hj, z σ rfl vs hj]
      · rw [wipe_out hj, wipe_out hj]
        exact h j (by simp [hj, Ne.symm e])
theorem wipe_ne {σ : St} {vs : List Nat} {j : Nat} (h : j ∉ vs) : (wipe σ vs)[j]? = σ[j]? := wipe_out h
section
variable {K : PySem.W.Frag} {M : Addr → Prop} {σ σ2 : St} {ρ ρ0 ρ2 : Rho} {H H0 H2 : Hp} {vs : List Nat}
/-- the slots of other names alike -/
def Alk (vs : List Nat) (σ σ2 : St) : Prop := σ2.length = σ.length ∧ ∀ j, j ∉ vs → σ2[j]? = σ[j]?
theorem Alk.wipe (σ : St) (vs : List Nat) : Alk vs σ (wipe σ vs) := ⟨wipe_length σ vs, fun j h => wipe_ne h⟩
theorem own_alk (a : Alk vs σ σ2) (w : Wp ρ vs) {p : Addr} : Own σ2 ρ p ↔ Own σ ρ p := by
  constructor
  · rintro ⟨i, b, o, h1, h2⟩
    exact ⟨i, b, o, h1, by rw [← a.2 i (w i _ h1 (by intro z; cases z))]; exact h2⟩
  · rintro ⟨i, b, o, h1, h2⟩
    exact ⟨i, b, o, h1, by rw [a.2 i (w i _ h1 (by intro z; cases z))]; exact h2⟩
theorem mu_alk (a : Alk vs σ σ2) (w : Wp ρ vs) : (Mu M σ2 ρ) = (Mu M σ ρ) := by
  funext p
  exact propext ⟨fun z => z.elim .inl fun z => .inr ((own_alk a w).mp z), fun z => z.elim .inl fun z => .inr ((own_alk a w).mpr z)⟩
/-- slots whose names are forgotten don't matter -/
theorem rel_alk (a : Alk vs σ σ2) (w : Wp ρ vs) (R : Rel K M σ2 H ρ) : Rel K M σ H ρ := by
  refine ⟨by rw [← a.1, R.len], R.live, fun i d e => ?_, fun i b o e => ?_, fun i j b o b' o' p h1 h2 h3 h4 => ?_⟩
  · obtain ⟨v, h1, h2⟩ := R.fz i d e
    rw [a.2 i (w i _ e (by intro z; cases z))] at h1
    rw [mu_alk a w] at h2
    exact ⟨v, h1, h2⟩
  · obtain ⟨p, h1, h2, h3⟩ := R.ow i b o e
    rw [a.2 i (w i _ e (by intro z; cases z))] at h1
    rw [mu_alk a w] at h3
    exact ⟨p, h1, h2, h3⟩
  · rw [← a.2 i (w i _ h1 (by intro z; cases z))] at h3
    rw [← a.2 j (w j _ h2 (by intro z; cases z))] at h4
    exact R.inj i j _ _ _ _ p h1 h2 h3 h4
theorem Alk.symm (a : Alk vs σ σ2) : Alk vs σ2 σ := ⟨a.1.symm, fun j h => (a.2 j h).symm⟩
theorem Alk.trans {σ3 : St} (a : Alk vs σ σ2) (b : Alk vs σ2 σ3) : Alk vs σ σ3 := ⟨b.1.trans a.1, fun j h => (b.2 j h).trans (a.2 j h)⟩
theorem own_wipe {p : Addr} (h : Own σ (wipeR ρ vs) p) : Own σ ρ p := by
  obtain ⟨i, b, o, h1, h2⟩ := h
  exact ⟨i, b, o, (wipeR_at (by intro z; cases z) h1).1, h2⟩
theorem rel_wipe (R : Rel K M σ H ρ) : Rel K M σ H (wipeR ρ vs) := by
  have le : ∀ p, Mu M σ (wipeR ρ vs) p → Mu M σ ρ p := fun p z => z.elim .inl fun z => .inr (own_wipe z)
  refine ⟨by rw [wipeR_len, R.len], R.live, fun i d e => ?_, fun i b o e => ?_, fun i j b o b' o' p h1 h2 h3 h4 => ?_⟩
  · obtain ⟨v, h1, h2⟩ := R.fz i d (wipeR_at (by intro z; cases z) e).1
    exact ⟨v, h1, dd_mono (rs_le le) _ _ h2⟩
  · obtain ⟨p, h1, h2, h3⟩ := R.ow i b o (wipeR_at (by intro z; cases z) e).1
    exact ⟨p, h1, h2, h3.mono (rs_le le) rfl⟩
  · exact R.inj i j _ _ _ _ p (wipeR_at (by intro z; cases z) h1).1 (wipeR_at (by intro z; cases z) h2).1 h3 h4
theorem go_wipe : Go σ ρ H σ (wipeR ρ vs) H := ⟨fun _ _ h _ => h, fun p h => .inl (own_wipe h), fun i o h => ⟨⟨o, (wipeR_at (by intro z; cases z) h).1⟩, rfl⟩, fun _ o h => ⟨o, h⟩⟩
/-- from within the block -/
theorem go_alk (a : Alk vs σ σ2) (w : Wp ρ vs) (w2 : Wp ρ2 vs) (g : Go σ2 ρ H σ2 ρ2 H2) : Go σ ρ H σ ρ2 H2 :=
  ⟨fun p o h n => g.keep p o h fun z => n ((own_alk a w).mp z), fun p h => (g.own p ((own_alk a w2).mpr h)).imp (own_alk a w).mp id, fun i o h => ⟨(g.io i o h).1, rfl⟩, g.live⟩
/-- .. and what the block's store did -/
theorem go_in (a : Alk vs σ (wipe σ vs)) (w : Wp ρ vs) (g : Go (wipe σ vs) ρ H σ2 ρ2 H2) (a2 : Alk vs σ σ2) : Go σ ρ H σ2 ρ2 H2 :=
  ⟨fun p o h n => g.keep p o h fun z => n ((own_alk a w).mp z), fun p h => (g.own p h).imp (own_alk a w).mp id, fun i o h => by
    obtain ⟨⟨o1, h1⟩, h2⟩ := g.io i o h
    exact ⟨⟨o1, h1⟩, by rw [h2]; exact a.2 i (w i _ h1 (by intro z; cases z))⟩, g.live⟩
theorem go_out (g : Go σ ρ H σ2 ρ2 H2) (a2 : Alk vs σ σ2) : Go σ ρ H σ (wipeR ρ2 vs) H2 :=
  ⟨g.keep, fun p h => by
    obtain ⟨i, b, o, h1, h2⟩ := h
    obtain ⟨h3, h4⟩ := wipeR_at (by intro z; cases z) h1
    exact g.own p ⟨i, b, o, h3, by rw [a2.2 i h4]; exact h2⟩, fun i o h => ⟨(g.io i o (wipeR_at (by intro z; cases z) h).1).1, rfl⟩, g.live⟩
/-- a write to what the things changed hold -/
theorem rel_upd {D : Addr} {o : HO} (R : Rel K M σ H ρ) (hD : M D) : Rel K M σ (upd H D o) ρ ∧ rs (Mu M σ ρ) (upd H D o) = rs (Mu M σ ρ) H := by
  have e : rs (Mu M σ ρ) (upd H D o) = rs (Mu M σ ρ) H := by
    funext p
    unfold rs
    by_cases z : Mu M σ ρ p
    · rw [if_pos z, if_pos z]
    · rw [if_neg z, if_neg z, upd_ne]
      intro q
      subst q
      exact z (.inl hD)
  refine ⟨⟨R.len, fun p h => ?_, fun i d q => by rw [e]; exact R.fz i d q, fun i b ob q => ?_, R.inj⟩, e⟩
  · by_cases z : p = D
    · exact ⟨o, by rw [z, upd_same]⟩
    · rw [upd_ne z]; exact R.live p h
  · obtain ⟨p, h1, h2, h3⟩ := R.ow i b ob q
    have ne : p ≠ D := fun z => h2 (by rw [z]; exact hD)
    exact ⟨p, h1, h2, by rw [e]; exact h3.mono (Same.refl _) (upd_ne ne)⟩
end
def W0 : WX := fun _ _ _ _ => False
/-- nothing is raised in a block -/
def noEr {α : Type} : Res α → Res α
  | .er _ _ => .no
  | x => x
def lcLoop (t : Tg) (tt : Ev Bool) (te : Ev D) (vs : List Nat) : List D → Nat → Rho → Res (List D)
  | [], _, r => .ok [] r
  | d :: ds, n, r => match t.f d r with
    | none => .no
    | some r1 => (noEr (tt r1)).bind fun b r2 => if b = true then (noEr (te r2)).bind fun x r3 => if n < 16777216 then (lcLoop t tt te vs ds (n + 1) (wipeR r3 vs)).bind fun xs r4 => .ok (x :: xs) r4 else .no
      else lcLoop t tt te vs ds n (wipeR r2 vs)
def lcE (gi : Ev (List D)) (t : Tg) (tt : Ev Bool) (te : Ev D) (vs : List Nat) : Ev Ob := fun ρ => (gi ρ).bind fun ds r => (lcLoop t tt te vs ds 0 (wipeR r vs)).bind fun xs r2 => .ok (.ls xs) r2
def apR (acc : List D) (x : Res (List D)) : Res (List D) := x.bind fun xs r => .ok (acc ++ xs) r
theorem apR_nil (x : Res (List D)) : apR [] x = x := by cases x <;> rfl
theorem apR_cons (acc : List D) (y : D) (x : Res (List D)) : apR acc (x.bind fun xs r4 => .ok (y :: xs) r4) = apR (acc ++ [y]) x := by
  cases x with
  | ok xs r => simp [apR]
  | er c r => rfl
  | no => rfl
def yesT : Ev Bool := fun ρ => .ok true ρ
section
variable {K : PySem.W.Frag} {cl : Cl} {W : WX} {gi : Ev (List D)} {t : Tg} {tt : Ev Bool} {te : Ev D} {vs : List Nat}
theorem lc_w (hts : ∀ j, j ∈ t.ss → j ∈ vs) (σ : St) (H : Hp) (Q : VK) (h : tO K cl W (lcE gi t tt te vs) σ H Q) : tLc (tI K cl W gi) (gD K t) (tT K cl W0 tt) (tE K cl W0 te) vs σ H Q := by
  obtain ⟨M, ρ, R, p⟩ := h
  refine tG_bind R p fun J ds ρ1 H1 _ g1 R1 q1 p1 => ?_
  intro D hD
  have q1 : WalkD K J (rs (Mu M σ ρ1) H1) ds := q1
  have nM : ¬ M D := fun z => by obtain ⟨o, e⟩ := R1.live D z; rw [hD] at e; cases e
  generalize hL : lcLoop t tt te vs ds 0 (wipeR ρ1 vs) = LL at p1
  have s0 : Same H1 (upd H1 D (.lst [])) := fun q o e => by rw [upd_ne (ne_of_none e hD)]; exact e
  -- what holds ahead of turn i
  refine ⟨fun i m H' => m = ds.length - i ∧ i ≤ ds.length ∧ ∃ ρ' acc va, Wp ρ' vs ∧ Go σ ρ1 H1 σ ρ' H' ∧ Rel K (fun q => M q ∨ q = D) σ H' ρ' ∧ H' D = some (.lst va) ∧ DdAll K (rs (Mu (fun q => M q ∨ q = D) σ ρ') H') va acc ∧
      LL = apR acc (lcLoop t tt te vs (ds.drop i) acc.length ρ'), ⟨ds.length, by simp, Nat.zero_le _, wipeR ρ1 vs, [], [], wp_wipe _ _, ?_, ?_, upd_same, .nil, ?_⟩, ?_⟩
  · exact (go_wipe (vs := vs)).trans (Go.ext (rel_wipe R1) s0)
  · exact (rel_wipe R1).plus (o := .ls []) s0 hD ⟨_, upd_same⟩
  · rw [List.drop_zero, apR_nil]; exact hL.symm
  rintro i m H2 ⟨rfl, hi, ρ2, acc, va, w2, g2, R2, hacc, dacc, eL⟩
  -- what was frozen ahead of the loop
  have sm : Same (rs (Mu M σ ρ1) H1) (rs (Mu (fun q => M q ∨ q = D) σ ρ2) H2) := fun q o e => by
    have e2 := g2.same (M := M) q o e
    obtain ⟨z1, z2⟩ := rs_of e2
    refine rs_mk z1 fun z => ?_
    rcases z with (z | z) | z
    · exact z2 (.inl z)
    · obtain ⟨y1, _⟩ := rs_of e
      rw [z, hD] at y1; cases y1
    · exact z2 (.inr z)
  by_cases hlt : i < ds.length
  · have ed : ds[i]? = some ds[i] := List.getElem?_eq_getElem hlt
    obtain ⟨go, yl⟩ := q1.go i ds[i] H2 ed fun q o e => rs_sub _ _ _ _ (sm q o e)
    rw [List.drop_eq_getElem_cons hlt] at eL
    refine .inr ⟨go, fun H' => ∃ ρ' acc va, Wp ρ' vs ∧ Go σ ρ1 H1 σ ρ' H' ∧ Rel K (fun q => M q ∨ q = D) σ H' ρ' ∧ H' D = some (.lst va) ∧ DdAll K (rs (Mu (fun q => M q ∨ q = D) σ ρ') H') va acc ∧
      LL = apR acc (lcLoop t tt te vs (ds.drop (i + 1)) acc.length ρ'), fun H' z => ⟨ds.length - (i + 1), by omega, rfl, hlt, z⟩, fun x H3 y => ?_⟩
    obtain ⟨s3, hx⟩ := yl x H3 y
    have a0 := Alk.wipe σ vs
    have R3 : Rel K (fun q => M q ∨ q = D) (wipe σ vs) H3 ρ2 := rel_alk a0.symm w2 (R2.ext s3)
    have g3 : Go σ ρ2 H2 σ ρ2 H3 := Go.ext R2 s3
    have hx : Dd K (rs (Mu (fun q => M q ∨ q = D) (wipe σ vs) ρ2) H3) x ds[i] := by
      rw [mu_alk a0 w2]
      refine dd_mono (fun q o e => ?_) _ _ hx
      refine R2.ex_le s3 q o ?_
      unfold Ex at e ⊢
      cases z : H2 q with
      | none => rw [z] at e; exact e
      | some u => rw [z] at e; exact sm q o e
    unfold lcLoop at eL
    cases et : t.f ds[i] ρ2 with
    | none => rw [et] at eL; rw [eL] at p1; exact p1.elim
    | some ρ4 =>
      rw [et] at eL
      refine ⟨_, ρ2, ds[i], ρ4, R3, hx, et, fun σ4 g4 R4 h4 l4 => ?_⟩
      have a4 : Alk vs (wipe σ vs) σ4 := ⟨l4, fun j hj => h4 j fun z => hj (hts j z)⟩
      have a5 : Alk vs σ σ4 := a0.trans a4
      have G4 : Go σ ρ1 H1 σ4 ρ4 H3 := (g2.trans g3).trans (go_in a0 w2 g4 a5)
      refine ⟨by rw [wipe_eq a4.1 a4.2]; exact wipe_eq (wipe_length σ vs) fun j hj => wipe_ne hj, _, ρ4, R4, ?_⟩
      dsimp only at eL
      cases ett : tt ρ4 with
      | er c r => rw [ett] at eL; rw [eL] at p1; exact p1.elim
      | no => rw [ett] at eL; rw [eL] at p1; exact p1.elim
      | ok b ρ5 =>
        rw [ett] at eL
        intro b' H5 g5 R5 eb
        have eb : b' = b := eb
        subst eb
        have stay : H5 D = H3 D := by
          have e3 : H3 D = some (.lst va) := s3 _ _ hacc
          rw [e3]
          exact g5.keep D _ e3 fun z => by
            obtain ⟨k, b, o, z1, z2⟩ := z
            obtain ⟨q, y1, y2, _⟩ := R4.ow k b o z1
            rw [z2] at y1; cases y1
            exact y2 (.inr rfl)
        have e3 : H3 D = some (.lst va) := s3 _ _ hacc
        have G5 := G4.trans g5
        cases b' with
        | false =>
          rw [if_neg (by decide)]
          refine ⟨wipeR ρ5 vs, acc, va, wp_wipe _ _, go_out G5 a5, rel_alk a5 (wp_wipe _ _) (rel_wipe R5), by rw [stay, e3], ?_, eL⟩
          have z1 := ddAll_mono (fun q u e => ?_ : Same (rs (Mu (fun q => M q ∨ q = D) σ ρ2) H2) (rs (Mu (fun q => M q ∨ q = D) σ (wipeR ρ5 vs)) H5)) _ _ dacc
          exact z1
          have := ((g3.trans (go_in a0 w2 g4 a5)).trans g5)
          exact (go_out this a5).same (M := fun q => M q ∨ q = D) q u e
        | true =>
          rw [if_pos rfl]
          refine ⟨_, ρ5, R5, ?_⟩
          have eL : LL = apR acc ((noEr (te ρ5)).bind fun x r3 => if acc.length < 16777216 then (lcLoop t tt te vs (ds.drop (i + 1)) (acc.length + 1) (wipeR r3 vs)).bind fun xs r4 => .ok (x :: xs) r4 else .no) := eL
          cases ete : te ρ5 with
          | er c r => rw [ete] at eL; rw [eL] at p1; exact p1.elim
          | no => rw [ete] at eL; rw [eL] at p1; exact p1.elim
          | ok yd ρ6 =>
            rw [ete] at eL
            intro yv H6 g6 R6 hy
            have hy : Dd K (rs (Mu (fun q => M q ∨ q = D) σ4 ρ6) H6) yv yd := hy
            have e6 : H6 D = some (.lst va) := by
              have e5 : H5 D = some (.lst va) := stay.trans e3
              exact g6.keep D _ e5 fun z => by
                obtain ⟨k, b, o, z1, z2⟩ := z
                obtain ⟨q, y1, y2, _⟩ := R5.ow k b o z1
                rw [z2] at y1; cases y1
                exact y2 (.inr rfl)
            have hln := DdAll.length dacc
            by_cases hn : acc.length < 16777216
            · have eL : LL = apR acc (if acc.length < 16777216 then (lcLoop t tt te vs (ds.drop (i + 1)) (acc.length + 1) (wipeR ρ6 vs)).bind fun xs r4 => .ok (yd :: xs) r4 else .no) := eL
              rw [if_pos hn, apR_cons] at eL
              have G6 := G5.trans g6
              have R7 : Rel K (fun q => M q ∨ q = D) σ H6 (wipeR ρ6 vs) := rel_alk a5 (wp_wipe _ _) (rel_wipe R6)
              obtain ⟨R8, er⟩ := rel_upd (o := .lst (va ++ [yv])) R7 (.inr rfl)
              refine ⟨va, e6, by rw [line_, hln]; exact hn, wipeR ρ6 vs, acc ++ [yd], va ++ [yv], wp_wipe _ _, ?_, R8, upd_same, ?_, by rw [List.length_append]; exact eL⟩
              · have z := go_out G6 a5
                refine ⟨fun q o e n => ?_, z.own, z.io, fun q o e => ?_⟩
                · rw [upd_ne (ne_of_none e hD)]; exact z.keep q o e n
                · rw [upd_ne (ne_of_none e hD)]; exact z.live q o e
              · rw [er]
                refine DdAll.append (ddAll_mono (fun q u e => ?_) _ _ dacc) (.cons (dd_mono (fun q u e => ?_) _ _ hy) .nil)
                · have := ((g3.trans (go_in a0 w2 g4 a5)).trans g5).trans g6
                  exact (go_out this a5).same (M := fun q => M q ∨ q = D) q u e
                · obtain ⟨z1, z2⟩ := rs_of e
                  refine rs_mk z1 fun z => z2 ?_
                  rcases z with z | ⟨k, b, o, y1, y2⟩
                  · exact .inl z
                  · obtain ⟨y3, y4⟩ := wipeR_at (by intro z; cases z) y1
                    exact .inr ⟨k, b, o, y3, by rw [a5.2 k y4]; exact y2⟩
            · have eL : LL = apR acc (if acc.length < 16777216 then (lcLoop t tt te vs (ds.drop (i + 1)) (acc.length + 1) (wipeR ρ6 vs)).bind fun xs r4 => .ok (yd :: xs) r4 else .no) := eL
              rw [if_neg hn] at eL
              rw [eL] at p1; exact p1.elim
  · have ei : i = ds.length := by omega
    subst ei
    rw [List.drop_length] at eL
    have eL : LL = .ok acc ρ2 := by rw [eL]; simp [lcLoop, apR]
    rw [eL] at p1
    refine .inl ⟨q1.stop H2 fun q o e => rs_sub _ _ _ _ (sm q o e), p1 _ H2 g2 ?_ ⟨D, rfl, hD, fun z => ?_, R2, va, hacc, dacc⟩⟩
    · exact R2.weak fun _ z => .inl z
    · rcases z with z | ⟨k, b, o, z1, z2⟩
      · exact nM z
      · obtain ⟨q, y1, y2, _⟩ := R2.ow k b o z1
        rw [z2] at y1; cases y1
        exact y2 (.inr rfl)
end
end DL
end
section
set_option Elab.async false
set_option linter.all false
set_option maxRecDepth 100000
set_option autoImplicit false
namespace DL
open PySem PySem.Spec L2

/-! ### the block's rules -/
section
variable {X : Cx} {cl : Cl} {W : WX} {elt tg iter : Expr} {ifs : List Expr} {scope : Scope} {own : List (Str × Nat)} {pos : Pos} {gi : Ev (List D)} {t : Tg} {tt : Ev Bool} {te : Ev D} {vs : List Nat}
theorem PTs.weak {X : Cx} {e : List Expr} {t t' : TT} (h : PTs X e t) (w : ∀ σ H Q, t' σ H Q → t σ H Q) : PTs X e t' := ⟨fun pins s σ H Q I q => h.run pins s σ H Q I (w σ H Q q)⟩
theorem c_nil {W : WX} : PTs X [] (tT X.K cl W yesT) := by
  refine PTs.weak pts_nil ?_
  rintro σ H Q ⟨M, ρ, R, p⟩
  exact p true H Go.refl R rfl
theorem c_one {W : WX} {c : Expr} {g : Ev Bool} (h : PT X c (tT X.K cl W g)) : PTs X [c] (tT X.K cl W g) := pts_one h
theorem o_lc (hc : X.calm = true) (hN : X.N.Nodup) (hi : PI X tg iter (tI X.K cl W gi)) (ok : BlkOk X.N X.env.scope scope own)
    (hg : ∀ (s : Shared) (H : Hp) (C : Addr) (ce : List (Str × Addr)) (fp : List Addr), PG (X.blk s H scope (compEnvC scope ce C X.env) fp) tg (gD X.K t)) (ht : ∀ (s : Shared) (H : Hp) (C : Addr) (ce : List (Str × Addr)) (fp : List Addr), PTs (X.blk s H scope (compEnvC scope ce C X.env) fp) ifs (tT X.K cl W0 tt))
    (he : ∀ (s : Shared) (H : Hp) (C : Addr) (ce : List (Str × Addr)) (fp : List Addr), PE (X.blk s H scope (compEnvC scope ce C X.env) fp) elt (tE X.K cl W0 te)) (hvs : own.map (·.2) = vs := by rfl) (hts : ∀ j, j ∈ t.ss → j ∈ own.map (·.2) := by decide) (hs : ∀ x, foldedSetIterable iter X.env x = pure x := by intro _; rfl) :
    PE X (.ListComp elt [⟨tg, iter, ifs, 0⟩] scope pos) (tO X.K cl W (lcE gi t tt te vs)) := by
  subst hvs
  exact PE.weak (pe_lc hc hN hi ok hg ht he hs) (lc_w hts)
theorem s_setLc {i : Nat} {y : Str} {py spos : Pos} (hc : X.calm = true) (hN : X.N.Nodup) (hy : X.N[i]? = some y) (hyl : X.env.scope.names.lookup y = some .local)
    (hsw : swapsWith (.ListComp elt [⟨tg, iter, ifs, 0⟩] scope pos) (some (.Name y py)) spos.line X.env = pure true) (hi : PI X tg iter (tI X.K cl W gi)) (ok : BlkOk X.N X.env.scope scope own)
    (hg : ∀ (s : Shared) (H : Hp) (C : Addr) (ce : List (Str × Addr)) (fp : List Addr), PG (X.blk s H scope (compEnvC scope ce C X.env) fp) tg (gD X.K t)) (ht : ∀ (s : Shared) (H : Hp) (C : Addr) (ce : List (Str × Addr)) (fp : List Addr), PTs (X.blk s H scope (compEnvC scope ce C X.env) fp) ifs (tT X.K cl W0 tt))
    (he : ∀ (s : Shared) (H : Hp) (C : Addr) (ce : List (Str × Addr)) (fp : List Addr), PE (X.blk s H scope (compEnvC scope ce C X.env) fp) elt (tE X.K cl W0 te)) (hvs : own.map (·.2) = vs := by rfl) (hts : ∀ j, j ∈ t.ss → j ∈ own.map (·.2) := by decide) (hs : ∀ x, foldedSetIterable iter X.env x = pure x := by intro _; rfl) :
    PS X (.Assign [.Name y py] (.ListComp elt [⟨tg, iter, ifs, 0⟩] scope pos) spos) (tS X.K cl W (setO i (lcE gi t tt te vs))) := by
  subst hvs
  exact PS.weak (ps_setLc hc hN hy hyl hsw hi ok hg ht he hs) fun E σ H h => lc_w hts σ H _ (setO_w E σ H h)
end

/-! ### calls of built-ins by name -/
def Sb1 (K : PySem.W.Frag) (r : List V → Hp → VK → Prop) (f : D → Option D) : Prop := ∀ G H v d1 d Q, Same G H → DpB K G H v d1 → f d1 = some d → (∀ u H', Same H H' → Dd K (Ex G H H') u d → Q u H') → r [v] H Q
def Sb2 (K : PySem.W.Frag) (r : List V → Hp → VK → Prop) (f : D → D → Option D) : Prop := ∀ G H v w d1 d2 d Q, Same G H → DpB K G H v d1 → DpB K G H w d2 → f d1 d2 = some d → (∀ u H', Same H H' → Dd K (Ex G H H') u d → Q u H') → r [v, w] H Q
def Sc1 (K : PySem.W.Frag) (r : List V → Hp → VK → Prop) (f : D → Option Ob) : Prop := ∀ G H v d1 o Q, Same G H → DpB K G H v d1 → f d1 = some o → (∀ p H', Same H H' → H p = none → ObAt K G H' p o → Q (.ref p) H') → r [v] H Q
section
variable {K : PySem.W.Frag} {cl : Cl} {W : WX} {A B : Opd} {r : List V → Hp → VK → Prop}
theorem cb1_w {f : D → Option D} (S : Sb1 K r f) (σ : St) (H : Hp) (Q : VK) (h : tE K cl W (e1 f A) σ H Q) : tCB r (tCons (tP K cl W A) tNil) σ H Q := by
  obtain ⟨M, ρ, R, p⟩ := h
  refine tG_bind R p fun v x ρ1 H1 _ g1 R1 q1 p1 => ?_
  refine end_d R1 p1 fun d e k => ?_
  obtain ⟨d1, e1, e⟩ := Option.bind_eq_some_iff.mp e
  exact S _ H1 v d1 d Q (rs_sub _ _) (RV0.fin R1 q1 e1) e k
theorem cc1_w {f : D → Option Ob} (S : Sc1 K r f) (σ : St) (H : Hp) (Q : VK) (h : tO K cl W (e1 f A) σ H Q) : tCB r (tCons (tP K cl W A) tNil) σ H Q := by
  obtain ⟨M, ρ, R, p⟩ := h
  refine tG_bind R p fun v x ρ1 H1 _ g1 R1 q1 p1 => ?_
  refine end_o R1 p1 fun d e k => ?_
  obtain ⟨d1, e1, e⟩ := Option.bind_eq_some_iff.mp e
  exact S _ H1 v d1 d Q (rs_sub _ _) (RV0.fin R1 q1 e1) e k
theorem cb2_w {f : D → D → Option D} (S : Sb2 K r f) (σ : St) (H : Hp) (Q : VK) (h : tE K cl W (e2 f A B) σ H Q) : tCB r (tCons (tP K cl W A) (tCons (tP K cl W B) tNil)) σ H Q := by
  obtain ⟨M, ρ, R, p⟩ := h
  refine tG_bind R p fun v x ρ1 H1 _ g1 R1 q1 p1 => ?_
  refine tG_bind R1 p1 fun w y ρ2 H2 _ g2 R2 q2 p2 => ?_
  refine end_d R2 p2 fun d e k => ?_
  obtain ⟨d1, e1, e⟩ := Option.bind_eq_some_iff.mp e
  obtain ⟨d2, e2, e⟩ := Option.bind_eq_some_iff.mp e
  exact S _ H2 v w d1 d2 d Q (rs_sub _ _) (RV0.fin R2 (RV0.go g2 q1) e1) (RV0.fin R2 q2 e2) e k
end
section
variable {X : Cx} {cl : Cl} {W : WX} {a b : Expr} {A B : Opd} {x : Str} {id : String} {p pos : Pos} {r : List V → Hp → VK → Prop}
theorem d_b1 {f : D → Option D} (hc : CallR X (.builtin id) r) (S : Sb1 X.K r f) (hg : Gl X x) (hm : X.mg x = none) (hv : bootBuiltins x = some (.builtin id)) (ha : PE X a (tP X.K cl W A)) (hn : x ≠ "__name__" := by decide) (hdb : (x == ("__debug__" : Str)) = false := by decide)
    (he : starEach [a] X.env = (false, eval a X.env) :: starEach [] X.env := by rfl) (hpl : (backTo pos (starEach [] X.env)).any (·.1) = false := by rfl) : PE X (.Call (.Name x p) [a] [] pos) (tE X.K cl W (e1 f A)) :=
  PE.weak (pe_callB hc hg hm hv (pa_cons ha pa_nil he) hn hdb he hpl) (cb1_w S)
theorem d_y1 {f : D → Option D} (hc : CallR X (.type id) r) (S : Sb1 X.K r f) (hg : Gl X x) (hm : X.mg x = none) (hv : bootBuiltins x = some (.type id)) (ha : PE X a (tP X.K cl W A)) (hn : x ≠ "__name__" := by decide) (hdb : (x == ("__debug__" : Str)) = false := by decide)
    (he : starEach [a] X.env = (false, eval a X.env) :: starEach [] X.env := by rfl) (hpl : (backTo pos (starEach [] X.env)).any (·.1) = false := by rfl) : PE X (.Call (.Name x p) [a] [] pos) (tE X.K cl W (e1 f A)) :=
  PE.weak (pe_callTy hc hg hm hv (pa_cons ha pa_nil he) hn hdb he hpl) (cb1_w S)
theorem o_b1 {f : D → Option Ob} (hc : CallR X (.builtin id) r) (S : Sc1 X.K r f) (hg : Gl X x) (hm : X.mg x = none) (hv : bootBuiltins x = some (.builtin id)) (ha : PE X a (tP X.K cl W A)) (hn : x ≠ "__name__" := by decide) (hdb : (x == ("__debug__" : Str)) = false := by decide)
    (he : starEach [a] X.env = (false, eval a X.env) :: starEach [] X.env := by rfl) (hpl : (backTo pos (starEach [] X.env)).any (·.1) = false := by rfl) : PE X (.Call (.Name x p) [a] [] pos) (tO X.K cl W (e1 f A)) :=
  PE.weak (pe_callB hc hg hm hv (pa_cons ha pa_nil he) hn hdb he hpl) (cc1_w S)
theorem o_y1 {f : D → Option Ob} (hc : CallR X (.type id) r) (S : Sc1 X.K r f) (hg : Gl X x) (hm : X.mg x = none) (hv : bootBuiltins x = some (.type id)) (ha : PE X a (tP X.K cl W A)) (hn : x ≠ "__name__" := by decide) (hdb : (x == ("__debug__" : Str)) = false := by decide)
    (he : starEach [a] X.env = (false, eval a X.env) :: starEach [] X.env := by rfl) (hpl : (backTo pos (starEach [] X.env)).any (·.1) = false := by rfl) : PE X (.Call (.Name x p) [a] [] pos) (tO X.K cl W (e1 f A)) :=
  PE.weak (pe_callTy hc hg hm hv (pa_cons ha pa_nil he) hn hdb he hpl) (cc1_w S)
theorem d_b2 {f : D → D → Option D} (hc : CallR X (.builtin id) r) (S : Sb2 X.K r f) (hg : Gl X x) (hm : X.mg x = none) (hv : bootBuiltins x = some (.builtin id)) (ha : PE X a (tP X.K cl W A)) (hb : PE X b (tP X.K cl W B)) (hn : x ≠ "__name__" := by decide) (hdb : (x == ("__debug__" : Str)) = false := by decide)
    (he : starEach [a, b] X.env = (false, eval a X.env) :: starEach [b] X.env := by rfl) (he2 : starEach [b] X.env = (false, eval b X.env) :: starEach [] X.env := by rfl) (hpl : (backTo pos (starEach [b] X.env)).any (·.1) = false := by rfl) : PE X (.Call (.Name x p) [a, b] [] pos) (tE X.K cl W (e2 f A B)) :=
  PE.weak (pe_callB hc hg hm hv (pa_cons ha (pa_cons hb pa_nil he2) he) hn hdb he hpl) (cb2_w S)
end
section
variable {K : PySem.W.Frag} {X : Cx}
def lenD : D → Option D
  | .str z => if z.length ≤ 16777216 then some (.int z.length) else none
  | .list xs => some (.int xs.length)
  | .tuple xs => some (.int xs.length)
  | _ => none
theorem sb_len : Sb1 K (fun xs H Q => ∃ x n, xs = [x] ∧ LenV K x H n ∧ Q (.int n) H) lenD := by
  intro G H v d1 d Q s h1 e k
  unfold lenD at e
  split at e
  · split at e
    · rename_i z hz
      cases e
      rw [h1.str]
      exact ⟨_, _, rfl, ⟨by rw [line_]; exact hz, rfl⟩, keep_ k (.int _)⟩
    · cases e
  · cases e
    obtain ⟨p, vs, rfl, hp, hd⟩ := h1.list s
    exact ⟨_, vs.length, rfl, .inl ⟨vs, .inl (.inl hp), rfl⟩, by rw [hd.length]; exact keep_ k (.int _)⟩
  · cases e
    obtain ⟨p, vs, rfl, hp, hd⟩ := h1.tuple s
    exact ⟨_, vs.length, rfl, .inr ⟨vs, .inl (.inl (s _ _ hp)), rfl⟩, by rw [hd.length]; exact keep_ k (.int _)⟩
  · cases e
/-- int(..) of a whole number or a truth value -/
def intD : D → Option D
  | .int i => some (.int i)
  | .bool b => some (.int (if b then 1 else 0))
  | _ => none
theorem sb_int : Sb1 K (fun xs H Q => (∃ i, xs = [.int i] ∧ Q (.int i) H) ∨ ∃ k, xs = [.bl k] ∧ Q (.int (if k then 1 else 0)) H) intD := by
  intro G H v d1 d Q s h1 e k
  unfold intD at e
  split at e
  · cases e
    rw [h1.int]
    exact .inl ⟨_, rfl, keep_ k (.int _)⟩
  · cases e
    rw [h1.bool]
    exact .inr ⟨_, rfl, keep_ k (.int _)⟩
  · cases e
def maxD : D → D → Option D
  | .int i, .int j => some (.int (if j > i then j else i))
  | _, _ => none
def minD : D → D → Option D
  | .int i, .int j => some (.int (if j < i then j else i))
  | _, _ => none
theorem sb_max : Sb2 K (fun xs H Q => ∃ i j, xs = [.int i, .int j] ∧ Q (.int (if j > i then j else i)) H) maxD := by
  intro G H v w d1 d2 d Q s h1 h2 e k
  unfold maxD at e
  split at e
  · cases e
    rw [h1.int, h2.int]
    exact ⟨_, _, rfl, keep_ k (.int _)⟩
  · cases e
theorem sb_min : Sb2 K (fun xs H Q => ∃ i j, xs = [.int i, .int j] ∧ Q (.int (if j < i then j else i)) H) minD := by
  intro G H v w d1 d2 d Q s h1 h2 e k
  unfold minD at e
  split at e
  · cases e
    rw [h1.int, h2.int]
    exact ⟨_, _, rfl, keep_ k (.int _)⟩
  · cases e
/-- tuple(..) of a list, a tuple -/
@[simp] def tupD : D → Option D
  | .list xs => some (.tuple xs)
  | .tuple xs => some (.tuple xs)
  | _ => none
theorem sb_tup : Sb1 K (fun xs H Q => ∃ p ys, xs = [.ref p] ∧ ((SqL K H p ys ∧ ∀ l, H l = none → Q (.ref l) (upd H l (.tup ys))) ∨ (SqT K H p ys ∧ Q (.ref p) H))) tupD := by
  intro G H v d1 d Q s h1 e k
  unfold tupD at e
  split at e
  · cases e
    obtain ⟨p, vs, rfl, hp, hd⟩ := h1.list s
    refine ⟨p, vs, rfl, .inl ⟨.inl (.inl hp), fun l n => ?_⟩⟩
    exact k _ _ (fun q o e => by rw [upd_ne (ne_of_none e n)]; exact e) (.tup (ex_new n upd_same) (ddAll_mono (ex_same s) _ _ hd))
  · cases e
    obtain ⟨p, vs, rfl, hp, hd⟩ := h1.tuple s
    exact ⟨p, vs, rfl, .inr ⟨.inl (.inl (s _ _ hp)), keep_ k (dd_mono (ex_same s) _ _ (.tup hp hd))⟩⟩
  · cases e
/-- list(..) of a list, a tuple: a list of our own -/
@[simp] def lstO : D → Option Ob
  | .list xs => some (.ls xs)
  | .tuple xs => some (.ls xs)
  | _ => none
theorem sc_lst : Sc1 K (fun xs H Q => ∃ p ys, xs = [.ref p] ∧ (SqL K H p ys ∨ SqT K H p ys) ∧ ∀ l, H l = none → Q (.ref l) (upd H l (.lst ys))) lstO := by
  intro G H v d1 o Q s h1 e k
  unfold lstO at e
  split at e
  · cases e
    obtain ⟨p, vs, rfl, hp, hd⟩ := h1.list s
    exact ⟨p, vs, rfl, .inl (.inl (.inl hp)), fun l n => k l _ (fun q o e => by rw [upd_ne (ne_of_none e n)]; exact e) n ⟨_, upd_same, hd⟩⟩
  · cases e
    obtain ⟨p, vs, rfl, hp, hd⟩ := h1.tuple s
    exact ⟨p, vs, rfl, .inr (.inl (.inl (s _ _ hp))), fun l n => k l _ (fun q o e => by rw [upd_ne (ne_of_none e n)]; exact e) n ⟨_, upd_same, hd⟩⟩
  · cases e

/-! ### sorted -/
def rSortedD (K : PySem.W.Frag) : List V → Hp → VK → Prop := fun xs H Q => ∃ (p : Addr) (bs : List (V × D)), xs = [.ref p] ∧ H p = some (.lst (bs.map Prod.fst)) ∧ (∀ b ∈ bs, Dp K H b.1 b.2) ∧ PySem.W.AllAlike (bs.map Prod.snd) ∧ PySem.W.Sortable (bs.map Prod.snd) ∧ (∀ b ∈ bs, b.2.depth ≤ 64) ∧
  ∀ l, H l = none → Q (.ref l) (upd H l (.lst ((bs.mergeSort (PySem.W.dataLe false Prod.snd)).map Prod.fst)))
theorem vals_each {bs : List (V × D)} : ∀ {us : List Value}, Vals (bs.map Prod.fst) us → PySem.W.EachIs (fun u (b : V × D) => RelV b.1 u) us bs := by
  induction bs with
  | nil => intro us h; cases h; exact .nil
  | cons b bs ih =>
    intro us h
    cases h with
    | cons r t => exact .cons r (ih t)
theorem each_vals {bs : List (V × D)} : ∀ {us : List Value}, PySem.W.EachIs (fun u (b : V × D) => RelV b.1 u) us bs → Vals (bs.map Prod.fst) us := by
  induction bs with
  | nil => intro us h; cases h; exact .nil
  | cons b bs ih =>
    intro us h
    cases h with
    | cons r t => exact .cons r (ih t)
theorem each_reads {pins : List (Addr × Obj)} {σ : St} {H : Hp} {s : Shared} (I : Inv X pins σ H s) {bs : List (V × D)} (h : ∀ b ∈ bs, Dp X.K H b.1 b.2) : ∀ {us : List Value}, Vals (bs.map Prod.fst) us → PySem.W.EachIs (fun u (b : V × D) => ∃ as, Reads s.heap u b.2 as) us bs := by
  induction bs with
  | nil => intro us h; cases h; exact .nil
  | cons b bs ih =>
    intro us hv
    cases hv with
    | cons r t => exact .cons (Dp.reads I _ _ _ (h b (by simp)) r) (ih (fun c hc => h c (by simp [hc])) t)
theorem cr_sortedD (hu : X.A.units + 200 < cLine) : CallR X (.builtin "sorted") (rSortedD X.K) := by
  intro pins s σ H xs us Q I r h
  obtain ⟨p, bs, rfl, hp, hd, ha, hs, hdep, q⟩ := h
  rw [Vals.ref1 r]
  obtain ⟨z, its, n, rv, hl, e⟩ := I.lstM hp
  have hz : bs.length ≤ sizeLine := by simpa using z
  refine PySem.W.sorted_data (vs := its) (bs := bs) (enc := Prod.snd) (R := fun u b => RelV b.1 u) ⟨_, e, rfl, _, rfl⟩ (vals_each rv) (each_reads I hd rv) ha hs hz (fun b hb => by have := hdep b hb; omega) fun out ho eo => ?_
  obtain ⟨c, hc⟩ := PyProof.Rows.sortedAll_at s.heap its out.toArray
  have hn : H (s.heap.objs.size + 1) = none := I.hok.fresh (Nat.le_succ _)
  refine ⟨.ref (s.heap.objs.size + 1), _, I.laid (t' := s.toks) (o := .lst ((bs.mergeSort (PySem.W.dataLe false Prod.snd)).map Prod.fst)) (fun b u q => PyProof.Rows.sortedAll_old q) (Nat.le_succ _) ⟨?_, out, c, each_vals eo, hc⟩, rfl, q _ hn⟩
  rw [List.length_map, List.length_mergeSort]
  exact hz
/-- the conditions under which data are sorted -/
def sortOk (ds : List D) : Bool := (ds.all fun x => ds.all fun y => PySem.W.alike x y) && (ds.all fun d => decide (d.depth ≤ 64)) && ((ds.all fun d => match d with | .tuple (_ :: _) => true | _ => false) || ds.all fun d => match d with | .tuple _ => false | .none => false | _ => true)
def sortL (ds : List D) : List D := ds.mergeSort (PySem.W.dataLe false id)
def sortO : D → Option Ob
  | .list ds => if sortOk ds = true then some (.ls (sortL ds)) else none
  | _ => none
theorem sortOk_of {ds : List D} (h : sortOk ds = true) : PySem.W.AllAlike ds ∧ PySem.W.Sortable ds ∧ ∀ d ∈ ds, d.depth ≤ 64 := by
  unfold sortOk at h
  simp only [Bool.and_eq_true, Bool.or_eq_true, List.all_eq_true, decide_eq_true_eq] at h
  obtain ⟨⟨h1, h2⟩, h3⟩ := h
  refine ⟨fun d hd e he => h1 d hd e he, ?_, h2⟩
  rcases h3 with h3 | h3
  · refine .inl fun d hd => ?_
    have := h3 d hd
    split at this
    · exact ⟨_, _, rfl⟩
    · cases this
  · refine .inr fun d hd => ?_
    have := h3 d hd
    split at this
    · cases this
    · cases this
    · rename_i n1 n2
      exact ⟨fun z => n2 z, fun xs z => n1 xs z⟩
theorem zip_dd {K : PySem.W.Frag} {G : Hp} : ∀ {vs : List V} {ds : List D}, DdAll K G vs ds → (vs.zip ds).map Prod.fst = vs ∧ (vs.zip ds).map Prod.snd = ds ∧ ∀ b ∈ vs.zip ds, Dd K G b.1 b.2
  | _, _, .nil => ⟨rfl, rfl, fun _ h => by simp at h⟩
  | _, _, .cons h t => by
    obtain ⟨h1, h2, h3⟩ := zip_dd t
    refine ⟨by simp [h1], by simp [h2], fun b hb => ?_⟩
    simp only [List.zip_cons_cons, List.mem_cons] at hb
    rcases hb with rfl | hb
    · exact h
    · exact h3 b hb
theorem dd_zip {K : PySem.W.Frag} {G : Hp} : ∀ {bs : List (V × D)}, (∀ b ∈ bs, Dd K G b.1 b.2) → DdAll K G (bs.map Prod.fst) (bs.map Prod.snd)
  | [], _ => .nil
  | b :: bs, h => .cons (h b (by simp)) (dd_zip fun c hc => h c (by simp [hc]))
theorem sc_sorted : Sc1 K (rSortedD K) sortO := by
  intro G H v d1 o Q s h1 e k
  unfold sortO at e
  split at e
  · split at e
    · rename_i ds hc
      cases e
      obtain ⟨p, vs, rfl, hp, hd⟩ := h1.list s
      obtain ⟨z1, z2, z3⟩ := zip_dd hd
      obtain ⟨c1, c2, c3⟩ := sortOk_of hc
      refine ⟨p, vs.zip ds, rfl, by rw [z1]; exact hp, fun b hb => Dd.dp _ _ (dd_mono s _ _ (z3 b hb)), by rw [z2]; exact c1, by rw [z2]; exact c2, fun b hb => c3 b.2 (by rw [← z2]; exact List.mem_map_of_mem hb), fun l n => ?_⟩
      refine k l _ (fun q o e => by rw [upd_ne (ne_of_none e n)]; exact e) n ⟨_, upd_same, ?_⟩
      have e2 : sortL ds = ((vs.zip ds).mergeSort (PySem.W.dataLe false Prod.snd)).map Prod.snd := by
        have z := PySem.W.sort_maps (r := PySem.W.dataLe false (Prod.snd : V × D → D)) (s := PySem.W.dataLe false id) (Prod.snd : V × D → D) (l := vs.zip ds) (fun _ _ _ _ => rfl)
        rw [z2] at z
        exact z.symm
      rw [e2]
      exact dd_zip fun b hb => z3 b ((List.mergeSort_perm _ _).mem_iff.mp hb)
    · cases e
  · cases e
end
end DL
end
section
set_option Elab.async false
set_option linter.all false
set_option maxRecDepth 100000
set_option autoImplicit false
namespace DL
open PySem PySem.Spec L2

/-! ### isinstance -/
def tyN : D → String
  | .none => "NoneType"
  | .bool _ => "bool"
  | .int _ => "int"
  | .str _ => "str"
  | .list _ => "list"
  | .tuple _ => "tuple"
  | .dict _ => "dict"
def isiB (T : String) : D → Bool
  | .none => T == "NoneType"
  | .bool _ => T == "bool" || T == "int"
  | .int _ => T == "int"
  | .str _ => T == "str"
  | .list _ => T == "list"
  | .tuple _ => T == "tuple"
  | .dict _ => false
def isiD (T : String) (d : D) : Option D := match d with
  | .dict _ => none
  | d => some (.bool (isiB T d))
def KitOk (T : String) : Prop := kitB "NoneType" T = some (T == "NoneType") ∧ kitB "bool" T = some (T == "bool" || T == "int") ∧ kitB "int" T = some (T == "int") ∧ kitB "str" T = some (T == "str") ∧ kitB "list" T = some (T == "list") ∧ kitB "tuple" T = some (T == "tuple")
theorem kit_int : KitOk "int" := by unfold KitOk; decide +kernel
theorem kit_bool : KitOk "bool" := by unfold KitOk; decide +kernel
theorem kit_str : KitOk "str" := by unfold KitOk; decide +kernel
theorem kit_list : KitOk "list" := by unfold KitOk; decide +kernel
theorem kit_tuple : KitOk "tuple" := by unfold KitOk; decide +kernel
theorem tyx_of {K : PySem.W.Frag} {G H : Hp} {v : V} {d : D} (s : Same G H) (h : DpB K G H v d) : TyX K H v (.type (tyN d)) := by
  have h := h.dd s
  cases h with
  | non => exact .base .non
  | bl b => exact .base (.bl b)
  | int i => exact .base (.int i)
  | str x => exact .base (.str x)
  | lst hs _ => exact .base (.lst hs)
  | tup hs _ => exact .base (.tup hs)
section
variable {X : Cx} {cl : Cl} {W : WX} {a : Expr} {A : Opd} {x : Str} {T : String} {p p2 pos : Pos}
theorem d_isi (kt : KitOk T) (hg : Gl X "isinstance") (hm : X.mg "isinstance" = none) (hgT : Gl X x) (hmT : X.mg x = none) (hvT : bootBuiltins x = some (.type T)) (ha : PE X a (tP X.K cl W A)) (hnT : x ≠ "__name__" := by decide) (hdT : (x == ("__debug__" : Str)) = false := by decide)
    (he : starEach [a, .Name x p2] X.env = (false, eval a X.env) :: starEach [.Name x p2] X.env := by rfl) (he2 : starEach [Expr.Name x p2] X.env = (false, eval (.Name x p2) X.env) :: starEach [] X.env := by rfl) (hpl : (backTo pos (starEach [Expr.Name x p2] X.env)).any (·.1) = false := by rfl) :
    PE X (.Call (.Name "isinstance" p) [a, .Name x p2] [] pos) (tE X.K cl W (e1 (isiD T) A)) := by
  have hT : PE X (.Name x p2) (tC (.ty T)) := pe_bltn hgT hmT hvT rfl hnT hdT
  refine PE.weak (pe_callB call_isi hg hm PyProof.Rows.boot_isinstance (pa_cons ha (pa_cons hT pa_nil he2) he) (by decide) (by decide) he hpl) ?_
  rintro σ H Q ⟨M, ρ, R, q⟩
  refine tG_bind R q fun v y ρ1 H1 _ g1 R1 q1 p1 => ?_
  refine end_d R1 p1 fun d e k => ?_
  obtain ⟨d1, h1, e⟩ := Option.bind_eq_some_iff.mp e
  have hb := RV0.fin R1 q1 h1
  have ty := tyx_of (rs_sub _ _) hb
  have fin : ∀ b, some (PyData.bool b) = some d → Q (.bl b) H1 := fun b z => by
    cases z
    exact keep_ k (.bl _)
  obtain ⟨k1, k2, k3, k4, k5, k6⟩ := kt
  refine ⟨v, .ty T, _, .type T, isiB T d1, rfl, .ty T, ty, ?_, fin _ ?_⟩
  · refine kit_ty ?_
    cases d1 with
    | none => exact k1
    | bool b => exact k2
    | int b => exact k3
    | str b => exact k4
    | list b => exact k5
    | tuple b => exact k6
    | dict b => cases e
  · cases d1 <;> first | exact e | cases e
end

/-! ### list(range(..)), tuple(range(..)) -/
theorem rgV_dd {K : PySem.W.Frag} {G : Hp} (a b : Int) : DdAll K G (rgV a b) (rgD a b) := by
  unfold rgV rgD
  have : ∀ l : List Nat, DdAll K G (l.map fun i => V.int (a + (i : Nat))) (l.map fun i => PyData.int (a + (i : Nat))) := fun l => by
    induction l with
    | nil => exact .nil
    | cons x l ih => exact .cons (.int _) ih
  exact this _
def rgC (a b : Int) : Bool := decide (-(2 ^ 62) ≤ a ∧ a < 2 ^ 62 ∧ -(2 ^ 62) ≤ b ∧ b < 2 ^ 62 ∧ (b - a).toNat ≤ 2 ^ 24)
@[simp] def lrg1 : D → Option Ob
  | .int n => if rgC 0 n = true then some (.ls (rgD 0 n)) else none
  | _ => none
@[simp] def trg1 : D → Option D
  | .int n => if rgC 0 n = true then some (.tuple (rgD 0 n)) else none
  | _ => none
section
variable {X : Cx} {cl : Cl} {W : WX} {a : Expr} {A : Opd} {p p2 pos pos2 : Pos}
theorem o_lrg1 (hc : X.calm = true) (hg : Gl X "list") (hm : X.mg "list" = none) (hgr : Gl X "range") (hmr : X.mg "range" = none) (ha : PE X a (tP X.K cl W A)) (na : starEach [a] X.env = (false, eval a X.env) :: starEach [] X.env := by rfl)
    (nb : starEach [Expr.Call (.Name "range" p2) [a] [] pos2] X.env = (false, eval (.Call (.Name "range" p2) [a] [] pos2) X.env) :: starEach [] X.env := by rfl) :
    PE X (.Call (.Name "list" p) [.Call (.Name "range" p2) [a] [] pos2] [] pos) (tO X.K cl W (e1 lrg1 A)) := by
  refine PE.weak (pe_listRg hc hg hm (prg_1 hgr hmr ha na) nb) ?_
  rintro σ H Q ⟨M, ρ, R, q⟩
  refine tG_bind R q fun v y ρ1 H1 _ g1 R1 q1 p1 => ?_
  refine end_o R1 p1 fun o e k => ?_
  obtain ⟨d1, h1, e⟩ := Option.bind_eq_some_iff.mp e
  unfold lrg1 at e
  split at e
  · split at e
    · rename_i hr
      cases e
      have hb := RV0.fin R1 q1 h1
      refine ⟨_, hb.int, (by unfold rgC at hr; have z := of_decide_eq_true hr; exact z), fun l n => ?_⟩
      exact k l _ (fun q o e => by rw [upd_ne (ne_of_none e n)]; exact e) n ⟨_, upd_same, rgV_dd _ _⟩
    · cases e
  · cases e
theorem d_trg1 (hc : X.calm = true) (hg : Gl X "tuple") (hm : X.mg "tuple" = none) (hgr : Gl X "range") (hmr : X.mg "range" = none) (ha : PE X a (tP X.K cl W A)) (na : starEach [a] X.env = (false, eval a X.env) :: starEach [] X.env := by rfl)
    (nb : starEach [Expr.Call (.Name "range" p2) [a] [] pos2] X.env = (false, eval (.Call (.Name "range" p2) [a] [] pos2) X.env) :: starEach [] X.env := by rfl) :
    PE X (.Call (.Name "tuple" p) [.Call (.Name "range" p2) [a] [] pos2] [] pos) (tE X.K cl W (e1 trg1 A)) := by
  refine PE.weak (pe_tupRg hc hg hm (prg_1 hgr hmr ha na) nb) ?_
  rintro σ H Q ⟨M, ρ, R, q⟩
  refine tG_bind R q fun v y ρ1 H1 _ g1 R1 q1 p1 => ?_
  refine end_d R1 p1 fun o e k => ?_
  obtain ⟨d1, h1, e⟩ := Option.bind_eq_some_iff.mp e
  unfold trg1 at e
  split at e
  · split at e
    · rename_i hr
      cases e
      have hb := RV0.fin R1 q1 h1
      refine ⟨_, hb.int, (by unfold rgC at hr; have z := of_decide_eq_true hr; exact z), fun l n => ?_⟩
      exact k _ _ (fun q o e => by rw [upd_ne (ne_of_none e n)]; exact e) (.tup (ex_new n upd_same) (rgV_dd _ _))
    · cases e
  · cases e
end

/-! ### slices -/
def optE : Option (Ev D) → Ev (Option Int)
  | none => fun ρ => .ok none ρ
  | some g => fun ρ => (g ρ).bind fun d r => match d with
    | .int i => .ok (some i) r
    | _ => .no
def eSl {α : Type} (f : D → Option Int → Option Int → Option α) (a : Opd) (lo hi : Option (Ev D)) : Ev α := fun ρ => (a.run ρ).bind fun x r => (optE lo r).bind fun l r2 => (optE hi r2).bind fun h r3 => ofO ((x.fin r3).bind fun d => f d l h) r3
def RPo : Rk (Option Int) (Option Int) := ⟨fun _ _ _ _ _ b c => b = c, fun _ h => h⟩
abbrev tPo (K : PySem.W.Frag) (cl : Cl) (W : WX) (o : Option (Ev D)) : TO := tG K cl W RPo (optE o)
theorem PO.weak {X : Cx} {e : Option Expr} {t t' : TO} (h : PO X e t) (w : ∀ σ H Q, t' σ H Q → t σ H Q) : PO X e t' := ⟨fun pins s σ H Q I q => h.run pins s σ H Q I (w σ H Q q)⟩
def cutL {α : Type} (xs : List α) (lo hi : Option Int) : List α := (xs.drop (HT.sIx xs.length 0 lo)).take (HT.sIx xs.length xs.length hi - HT.sIx xs.length 0 lo)
def slD : D → Option Int → Option Int → Option D
  | .tuple xs, lo, hi => some (.tuple (cutL xs lo hi))
  | .str z, lo, hi => if z.length ≤ 16777216 then some (.str (cutS z lo hi)) else none
  | _, _, _ => none
def slO : D → Option Int → Option Int → Option Ob
  | .list xs, lo, hi => some (.ls (cutL xs lo hi))
  | _, _, _ => none
theorem cut_dd {K : PySem.W.Frag} {G : Hp} {vs : List V} {ds : List D} (h : DdAll K G vs ds) (lo hi : Option Int) : DdAll K G (cutV vs lo hi) (cutL ds lo hi) := by
  unfold cutV cutL
  rw [h.length]
  exact (h.drop _).take _
theorem cutL_all {α : Type} {xs : List α} {lo hi : Option Int} (h : HT.sIx xs.length 0 lo = 0 ∧ HT.sIx xs.length xs.length hi = xs.length) : cutL xs lo hi = xs := by
  unfold cutL
  rw [h.1, h.2]
  simp
section
variable {X : Cx} {cl : Cl} {W : WX} {a : Expr} {A : Opd} {lo hi : Option Expr} {gl gh : Option (Ev D)} {p2 pos : Pos}
theorem p_no : PO X none (tPo X.K cl W none) := by
  refine PO.weak po_none ?_
  rintro σ H Q ⟨M, ρ, R, p⟩
  exact p none H Go.refl R rfl
theorem p_so {e : Expr} {g : Ev D} (h : PE X e (tE X.K cl W g)) : PO X (some e) (tPo X.K cl W (some g)) := by
  refine PO.weak (po_some h) ?_
  rintro σ H Q ⟨M, ρ, R, p⟩
  refine tG_bind R p fun v d ρ1 H1 _ g1 R1 q1 p1 => ?_
  cases d with
  | int i =>
    have e : v = .int i := by cases q1; rfl
    exact ⟨i, e, p1 _ H1 Go.refl R1 rfl⟩
  | none => exact p1.elim
  | bool _ => exact p1.elim
  | str _ => exact p1.elim
  | list _ => exact p1.elim
  | tuple _ => exact p1.elim
  | dict _ => exact p1.elim
theorem d_sl (ha : PE X a (tP X.K cl W A)) (hl : PO X lo (tPo X.K cl W gl)) (hh : PO X hi (tPo X.K cl W gh)) : PE X (.Subscript a (.Slice lo hi none p2) pos) (tE X.K cl W (eSl slD A gl gh)) := by
  refine PE.weak (pe_slice (sl_tupA.or sl_str) ha hl hh) ?_
  rintro σ H Q ⟨M, ρ, R, p⟩
  refine tG_bind R p fun v x ρ1 H1 _ g1 R1 q1 p1 => ?_
  refine tG_bind R1 p1 fun l l' ρ2 H2 _ g2 R2 q2 p2 => ?_
  refine tG_bind R2 p2 fun h h' ρ3 H3 _ g3 R3 q3 p3 => ?_
  have q2 : l = l' := q2
  have q3 : h = h' := q3
  subst q2 q3
  refine end_d R3 p3 fun d e k => ?_
  obtain ⟨d1, e1, e⟩ := Option.bind_eq_some_iff.mp e
  have hb := RV0.fin R3 (RV0.go (g2.trans g3) q1) e1
  have s := rs_sub (Mu M σ ρ3) H3
  unfold slD at e
  split at e
  · cases e
    obtain ⟨q, vs, rfl, hp, hd⟩ := hb.tuple s
    refine .inl ⟨q, vs, rfl, .inl (.inl (s _ _ hp)), fun w => ?_, fun w t n => ?_⟩
    · rw [hd.length] at w
      rw [cutL_all w] at k
      exact keep_ k (dd_mono (ex_same s) _ _ (.tup hp hd))
    · exact k _ _ (fun q o e => by rw [upd_ne (ne_of_none e n)]; exact e) (.tup (ex_new n upd_same) (ddAll_mono (ex_same s) _ _ (cut_dd hd _ _)))
  · split at e
    · rename_i hz
      cases e
      exact .inr ⟨_, hb.str, by rw [line_]; exact hz, keep_ k (.str _)⟩
    · cases e
  · cases e
theorem o_sl (ha : PE X a (tP X.K cl W A)) (hl : PO X lo (tPo X.K cl W gl)) (hh : PO X hi (tPo X.K cl W gh)) : PE X (.Subscript a (.Slice lo hi none p2) pos) (tO X.K cl W (eSl slO A gl gh)) := by
  refine PE.weak (pe_slice sl_list ha hl hh) ?_
  rintro σ H Q ⟨M, ρ, R, p⟩
  refine tG_bind R p fun v x ρ1 H1 _ g1 R1 q1 p1 => ?_
  refine tG_bind R1 p1 fun l l' ρ2 H2 _ g2 R2 q2 p2 => ?_
  refine tG_bind R2 p2 fun h h' ρ3 H3 _ g3 R3 q3 p3 => ?_
  have q2 : l = l' := q2
  have q3 : h = h' := q3
  subst q2 q3
  refine end_o R3 p3 fun o e k => ?_
  obtain ⟨d1, e1, e⟩ := Option.bind_eq_some_iff.mp e
  have hb := RV0.fin R3 (RV0.go (g2.trans g3) q1) e1
  have s := rs_sub (Mu M σ ρ3) H3
  unfold slO at e
  split at e
  · cases e
    obtain ⟨q, vs, rfl, hp, hd⟩ := hb.list s
    exact ⟨q, vs, rfl, .inl (.inl hp), fun t n => k t _ (fun q o e => by rw [upd_ne (ne_of_none e n)]; exact e) n ⟨_, upd_same, cut_dd hd _ _⟩⟩
  · cases e
theorem d_ix {b : Expr} {B : Opd} (ha : PE X a (tP X.K cl W A)) (hb : PE X b (tP X.K cl W B)) (hs : PlainIx b := by intro _ _; rfl) : PE X (.Subscript a b pos) (tE X.K cl W (e2 ixD A B)) :=
  PE.weak (pe_ix ix_seq ha hb hs) (tOp_d sd_ix)
end

/-! ### methods of texts -/
def eM1 (f : Str → D → Option D) (g : Ev D) (b : Opd) : Ev D := fun ρ => (g ρ).bind fun d r => match d with
  | .str z => (b.run r).bind fun y r2 => ofO ((y.fin r2).bind fun e => f z e) r2
  | _ => .no
def Sm1 (K : PySem.W.Frag) (r : V → List V → Hp → VK → Prop) (f : Str → D → Option D) : Prop :=
  ∀ G H z w d2 d Q, Same G H → DpB K G H w d2 → f z d2 = some d → (∀ u H', Same H H' → Dd K (Ex G H H') u d → Q u H') → r (.str z) [w] H Q
section
variable {X : Cx} {cl : Cl} {W : WX} {o a : Expr} {A : Opd} {g : Ev D} {id : String} {name : Str} {apos cpos : Pos} {r : V → List V → Hp → VK → Prop} {f : Str → D → Option D}
theorem m1_w {K : PySem.W.Frag} (S : Sm1 K r f) (σ : St) (H : Hp) (Q : VK) (h : tE K cl W (eM1 f g A) σ H Q) : tBM K "str" r (tE K cl W g) (tCons (tP K cl W A) tNil) σ H Q := by
  obtain ⟨M, ρ, R, p⟩ := h
  refine tG_bind R p fun v d ρ1 H1 _ g1 R1 q1 p1 => ?_
  cases d with
  | str z =>
    have e : v = .str z := by cases q1; rfl
    subst e
    refine ⟨rfl, ?_⟩
    refine tG_bind R1 p1 fun w y ρ2 H2 _ g2 R2 q2 p2 => ?_
    refine end_d R2 p2 fun d e k => ?_
    obtain ⟨d2, e2, e⟩ := Option.bind_eq_some_iff.mp e
    exact S _ H2 z w d2 d Q (rs_sub _ _) (RV0.fin R2 q2 e2) e k
  | none => exact p1.elim
  | bool _ => exact p1.elim
  | int _ => exact p1.elim
  | list _ => exact p1.elim
  | tuple _ => exact p1.elim
  | dict _ => exact p1.elim
theorem d_m1 (slot : Slot "str" name id) (hty : typeOf (.builtin id) = pure (.type "method_descriptor")) (hm : MtR X id r) (S : Sm1 X.K r f) (ho : PE X o (tE X.K cl W g)) (ha : PE X a (tP X.K cl W A))
    (hbase : attributeBase o name X.env (eval o X.env) = eval o X.env := by rfl)
    (hfew : ((backTo cpos (starEach [a] X.env)).all (fun x => !x.1) && (backToKw cpos (keywordEach [] X.env)).all (fun x => x.1.isSome)
      && decide (([a] : List Expr).length + ([] : List Keyword).length + (if ([] : List Keyword).isEmpty then 0 else 1) < 30)) = true := by rfl)
    (hline : (apos.endLine == cpos.line) = true := by rfl) (hs : starEach [a] X.env = (false, eval a X.env) :: starEach [] X.env := by rfl) (hplain : (backTo cpos (starEach [] X.env)).any (·.1) = false := by rfl) :
    PE X (.Call (.Attribute o name apos) [a] [] cpos) (tE X.K cl W (eM1 f g A)) :=
  PE.weak (pe_bm PySem.F.plainAttrs_str slot hty hm ho (pa_cons ha pa_nil hs) hbase hfew hline hs hplain) (m1_w S)
end
/-- the texts of a list -/
def strsOf : List D → Option (List Str)
  | [] => some []
  | .str z :: r => (strsOf r).map (z :: ·)
  | _ :: _ => none
def joinD (z : Str) : D → Option D
  | .list ds => (strsOf ds).bind fun ys => if (ys.map (·.length)).sum + ys.length * z.length ≤ 16777216 then some (.str (Txt.join z ys)) else none
  | .tuple ds => (strsOf ds).bind fun ys => if (ys.map (·.length)).sum + ys.length * z.length ≤ 16777216 then some (.str (Txt.join z ys)) else none
  | _ => none
theorem strs_dd {K : PySem.W.Frag} {G : Hp} : ∀ {vs : List V} {ds : List D} {ys : List Str}, DdAll K G vs ds → strsOf ds = some ys → vs = ys.map V.str
  | _, [], ys, h, e => by
    cases h
    cases e
    rfl
  | _, d :: ds, ys, h, e => by
    cases h with
    | cons h1 h2 =>
      cases d with
      | str z =>
        obtain ⟨zs, e1, rfl⟩ := Option.map_eq_some_iff.mp (show (strsOf ds).map (z :: ·) = some ys from e)
        cases h1
        rw [strs_dd h2 e1]
        rfl
      | none => cases e
      | bool _ => cases e
      | int _ => cases e
      | list _ => cases e
      | tuple _ => cases e
      | dict _ => cases e
def rJoin (K : PySem.W.Frag) : V → List V → Hp → VK → Prop := fun x xs H Q => ∃ a p, ∃ ys : List Str, x = .str a ∧ xs = [.ref p] ∧ (SqL K H p (ys.map V.str) ∨ SqT K H p (ys.map V.str)) ∧ (ys.map (·.length)).sum + ys.length * a.length ≤ 16777216 ∧ Q (.str (Txt.join a ys)) H
theorem sm_join {K : PySem.W.Frag} : Sm1 K (rJoin K) joinD := by
  intro G H z w d2 d Q s h2 e k
  unfold joinD at e
  split at e
  · obtain ⟨ys, e1, e⟩ := Option.bind_eq_some_iff.mp e
    split at e
    · rename_i hl
      cases e
      obtain ⟨p, vs, rfl, hp, hd⟩ := h2.list s
      exact ⟨z, p, ys, rfl, rfl, .inl (by rw [← strs_dd hd e1]; exact .inl (.inl hp)), hl, keep_ k (.str _)⟩
    · cases e
  · obtain ⟨ys, e1, e⟩ := Option.bind_eq_some_iff.mp e
    split at e
    · rename_i hl
      cases e
      obtain ⟨p, vs, rfl, hp, hd⟩ := h2.tuple s
      exact ⟨z, p, ys, rfl, rfl, .inr (by rw [← strs_dd hd e1]; exact .inl (.inl (s _ _ hp))), hl, keep_ k (.str _)⟩
    · cases e
  · cases e
def occs (x y : Str) : List Nat := Builtin.Str.occurrences x y 0 x.length 1
def sindexD (z : Str) : D → Option D
  | .str y => (occs z y).head?.map fun i => .int (i : Nat)
  | _ => none
def rSindex : V → List V → Hp → VK → Prop := fun x xs H Q => ∃ a b i rest, x = .str a ∧ xs = [.str b] ∧ Builtin.Str.occurrences a b 0 a.length 1 = i :: rest ∧ Q (.int (i : Nat)) H
theorem sm_sindex {K : PySem.W.Frag} : Sm1 K rSindex sindexD := by
  intro G H z w d2 d Q s h2 e k
  unfold sindexD at e
  split at e
  · rename_i y
    cases q : occs z y with
    | nil => rw [q] at e; cases e
    | cons i r =>
      rw [q] at e
      cases e
      rw [h2.str]
      exact ⟨z, y, i, r, rfl, rfl, q, keep_ k (.int _)⟩
  · cases e
section
variable {X : Cx} {cl : Cl} {W : WX} {o a : Expr} {A : Opd} {g : Ev D} {apos cpos : Pos}
theorem d_join (ho : PE X o (tE X.K cl W g)) (ha : PE X a (tP X.K cl W A)) (hbase : attributeBase o "join" X.env (eval o X.env) = eval o X.env := by rfl)
    (hfew : ((backTo cpos (starEach [a] X.env)).all (fun x => !x.1) && (backToKw cpos (keywordEach [] X.env)).all (fun x => x.1.isSome)
      && decide (([a] : List Expr).length + ([] : List Keyword).length + (if ([] : List Keyword).isEmpty then 0 else 1) < 30)) = true := by rfl)
    (hline : (apos.endLine == cpos.line) = true := by rfl) (hs : starEach [a] X.env = (false, eval a X.env) :: starEach [] X.env := by rfl) (hplain : (backTo cpos (starEach [] X.env)).any (·.1) = false := by rfl) :
    PE X (.Call (.Attribute o "join" apos) [a] [] cpos) (tE X.K cl W (eM1 joinD g A)) := d_m1 PySem.F.slot_str_join PySem.F.type_str_join mt_join sm_join ho ha hbase hfew hline hs hplain
theorem d_sindex (ho : PE X o (tE X.K cl W g)) (ha : PE X a (tP X.K cl W A)) (hbase : attributeBase o "index" X.env (eval o X.env) = eval o X.env := by rfl)
    (hfew : ((backTo cpos (starEach [a] X.env)).all (fun x => !x.1) && (backToKw cpos (keywordEach [] X.env)).all (fun x => x.1.isSome)
      && decide (([a] : List Expr).length + ([] : List Keyword).length + (if ([] : List Keyword).isEmpty then 0 else 1) < 30)) = true := by rfl)
    (hline : (apos.endLine == cpos.line) = true := by rfl) (hs : starEach [a] X.env = (false, eval a X.env) :: starEach [] X.env := by rfl) (hplain : (backTo cpos (starEach [] X.env)).any (·.1) = false := by rfl) :
    PE X (.Call (.Attribute o "index" apos) [a] [] cpos) (tE X.K cl W (eM1 sindexD g A)) := d_m1 PySem.F.slot_str_index PySem.F.type_str_index mt_sindex sm_sindex ho ha hbase hfew hline hs hplain
end
/-- text * int -/
def smulD : D → D → Option D
  | .str x, .int n => if x.length ≤ 1000 ∧ 0 ≤ n ∧ n ≤ 1000 then some (.str (Txt.mul x n)) else none
  | _, _ => none
def rSmul : R2 := fun x y H Q => ∃ z n, x = .str z ∧ y = .int n ∧ z.length ≤ 1000 ∧ 0 ≤ n ∧ n ≤ 1000 ∧ Q (.str (Txt.mul z n)) H
theorem op_smul {X : Cx} : OpR X (binaryOp .Mult) rSmul := by
  intro pins s σ H x y v u Q I rx ry h
  obtain ⟨z, n, rfl, rfl, h1, h2, h3, q⟩ := h
  obtain ⟨t, rfl⟩ := rx
  obtain ⟨t', rfl⟩ := ry
  exact SB.mul (PyProof.Rows.mulOk_of 1000 1000 h1 h3 (by omega) (by decide) (by decide)) fun t2 k => ⟨.str _, H, I.tok k, ⟨t2, rfl⟩, q⟩
theorem sd_smul {K : PySem.W.Frag} : Sd2 K rSmul smulD := by
  intro G H v w d1 d2 d Q s h1 h2 e k
  unfold smulD at e
  split at e
  · split at e
    · rename_i hc
      cases e
      exact ⟨_, _, h1.str, h2.int, hc.1, hc.2.1, hc.2.2, keep_ k (.str _)⟩
    · cases e
  · cases e

/-! ### what a list of our own becomes -/
section
variable {K : PySem.W.Frag} {M : Addr → Prop} {σ : St} {ρ : Rho} {H : Hp} {i : Nat} {b : Bool} {o o' : Ob} {p : Addr} {u : HO}
theorem own_obj (e : ρ[i]? = some (.ow b o)) (q : Addr) : Own σ (ρ.set i (.ow b o')) q ↔ Own σ ρ q := by
  have hl := (List.getElem?_eq_some_iff.mp e).1
  constructor
  · rintro ⟨j, b', o2, h1, h2⟩
    by_cases ij : i = j
    · subst ij; exact ⟨i, b, o, e, h2⟩
    · rw [List.getElem?_set_ne ij] at h1; exact ⟨j, b', o2, h1, h2⟩
  · rintro ⟨j, b', o2, h1, h2⟩
    by_cases ij : i = j
    · subst ij; exact ⟨i, b, o', List.getElem?_set_self hl, h2⟩
    · exact ⟨j, b', o2, by rw [List.getElem?_set_ne ij]; exact h1, h2⟩
theorem Rel.obj (R : Rel K M σ H ρ) (e : ρ[i]? = some (.ow b o)) (hp : σ[i]? = some (some (.ref p))) (new : ObAt K (rs (Mu M σ ρ) H) (upd H p u) p o') :
    Rel K M σ (upd H p u) (ρ.set i (.ow b o')) ∧ Go σ ρ H σ (ρ.set i (.ow b o')) (upd H p u) := by
  have hl := (List.getElem?_eq_some_iff.mp e).1
  have nM : ¬ M p := by
    obtain ⟨a, h1, h2, _⟩ := R.ow i b o e
    rw [hp] at h1; cases h1; exact h2
  have em : Mu M σ (ρ.set i (.ow b o')) = Mu M σ ρ := by
    funext q
    exact propext ⟨fun z => z.elim .inl fun z => .inr ((own_obj e q).mp z), fun z => z.elim .inl fun z => .inr ((own_obj e q).mpr z)⟩
  have er : rs (Mu M σ ρ) (upd H p u) = rs (Mu M σ ρ) H := by
    funext q
    unfold rs
    by_cases z : Mu M σ ρ q
    · rw [if_pos z, if_pos z]
    · rw [if_neg z, if_neg z, upd_ne]
      intro y
      subst y
      exact z (.inr ⟨i, b, o, e, hp⟩)
  have hlive : ∀ q w, H q = some w → ∃ w', upd H p u q = some w' := fun q w h => by
    by_cases z : q = p
    · exact ⟨u, by rw [z, upd_same]⟩
    · exact ⟨w, by rw [upd_ne z]; exact h⟩
  refine ⟨⟨by rw [R.len, List.length_set], fun q h => ?_, fun j d q => ?_, fun j b' o2 q => ?_, fun j k b1 o1 b2 o2 a h1 h2 h3 h4 => ?_⟩, ⟨fun q w h n => ?_, fun q h => .inl ((own_obj e q).mp h), fun j o2 h => ⟨?_, rfl⟩, hlive⟩⟩
  · obtain ⟨w, h⟩ := R.live q h
    exact hlive q w h
  · by_cases ij : i = j
    · subst ij; rw [List.getElem?_set_self hl] at q; cases q
    · rw [List.getElem?_set_ne ij] at q
      rw [em, er]
      exact R.fz j d q
  · rw [em, er]
    by_cases ij : i = j
    · subst ij
      rw [List.getElem?_set_self hl] at q
      cases q
      exact ⟨p, hp, nM, new⟩
    · rw [List.getElem?_set_ne ij] at q
      obtain ⟨a, h1, h2, h3⟩ := R.ow j b' o2 q
      have ne : a ≠ p := fun z => by
        subst z
        exact ij (R.inj i j _ _ _ _ a e q hp h1)
      exact ⟨a, h1, h2, h3.mono (Same.refl _) (upd_ne ne)⟩
  · have own : ∀ {j : Nat} {b' : Bool} {o2 : Ob}, (ρ.set i (.ow b o'))[j]? = some (Sl.ow b' o2) → ∃ (b' : Bool) (o2 : Ob), ρ[j]? = some (Sl.ow b' o2) := fun {j b' o2} h => by
      by_cases ij : i = j
      · subst ij; exact ⟨b, o, e⟩
      · rw [List.getElem?_set_ne ij] at h; exact ⟨b', o2, h⟩
    obtain ⟨_, _, z1⟩ := own h1
    obtain ⟨_, _, z2⟩ := own h2
    exact R.inj j k _ _ _ _ a z1 z2 h3 h4
  · rw [upd_ne]
    · exact h
    · intro z
      subst z
      exact n ⟨i, b, o, e, hp⟩
  · by_cases ij : i = j
    · subst ij
      rw [List.getElem?_set_self hl] at h
      cases h
      exact ⟨o, e⟩
    · rw [List.getElem?_set_ne ij] at h
      exact ⟨o2, h⟩
end
/-- a change of a list that a name holds: the name's slot, the data -/
def mutS (f : List D → D → Option (List D)) (i : Nat) (g : Ev D) : Ev Fl := fun ρ => match ρ[i]? with
  | some (.ow _ (.ls _)) => (g ρ).bind fun d r => match r[i]? with
    | some (.ow b (.ls xs)) => match f xs d with
      | some ys => .ok .nx (r.set i (.ow b (.ls ys)))
      | none => .no
    | _ => .no
  | _ => .no
def Smu (K : PySem.W.Frag) (r : V → List V → Hp → VK → Prop) (f : List D → D → Option (List D)) : Prop :=
  ∀ G H p vs w xs d ys Q, Same G H → H p = some (.lst vs) → DdAll K G vs xs → Dd K G w d → f xs d = some ys → (∀ ws u, DdAll K G ws ys → Q u (upd H p (.lst ws))) → r (.ref p) [w] H Q
section
variable {X : Cx} {cl : Cl} {W : WX} {o a : Expr} {g : Ev D} {id : String} {name : Str} {apos cpos pos : Pos} {r : V → List V → Hp → VK → Prop} {f : List D → D → Option (List D)} {i : Nat}
theorem mu_w {K : PySem.W.Frag} (S : Smu K r f) (E : Ends) (σ : St) (H : Hp) (h : tS K cl W (mutS f i g) E σ H) : tDrop (tBM K "list" r (tVar i) (tCons (tE K cl W g) tNil)) E σ H := by
  obtain ⟨M, ρ, R, p⟩ := h
  unfold mutS at p
  split at p
  · rename_i b0 xs0 e0
    obtain ⟨q, hq, nq, vs0, hv0, _⟩ := R.ow i _ _ e0
    refine ⟨_, hq, .inl ⟨rfl, vs0, .inl (.inl hv0)⟩, ?_⟩
    refine tS_bind R p fun w d ρ1 H1 _ g1 R1 q1 p1 => ?_
    split at p1
    · rename_i b xs e
      split at p1
      · rename_i ys ef
        obtain ⟨q', hq', nq', vs, hv, hd⟩ := R1.ow i _ _ e
        rw [hq] at hq'
        cases hq'
        refine S _ H1 q vs w xs d ys _ (rs_sub _ _) hv hd q1 ef fun ws u hw => ?_
        obtain ⟨R2, g2⟩ := R1.obj (o' := .ls ys) (u := .lst ws) e hq ⟨ws, upd_same, hw⟩
        exact p1 σ _ g2 R2
      · exact p1.elim
    · exact p1.elim
  · exact p.elim
theorem s_mut (slot : Slot "list" name id) (hty : typeOf (.builtin id) = pure (.type "method_descriptor")) (hm : MtR X id r) (S : Smu X.K r f) (ho : PE X o (tVar i)) (ha : PE X a (tE X.K cl W g))
    (hsw : swapsWith (.Call (.Attribute o name apos) [a] [] cpos) none pos.line X.env = pure false := by rfl)
    (hbase : attributeBase o name X.env (eval o X.env) = eval o X.env := by rfl)
    (hfew : ((backTo cpos (starEach [a] X.env)).all (fun x => !x.1) && (backToKw cpos (keywordEach [] X.env)).all (fun x => x.1.isSome)
      && decide (([a] : List Expr).length + ([] : List Keyword).length + (if ([] : List Keyword).isEmpty then 0 else 1) < 30)) = true := by rfl)
    (hline : (apos.endLine == cpos.line) = true := by rfl) (hs : starEach [a] X.env = (false, eval a X.env) :: starEach [] X.env := by rfl) (hplain : (backTo cpos (starEach [] X.env)).any (·.1) = false := by rfl) :
    PS X (.Expr (.Call (.Attribute o name apos) [a] [] cpos) pos) (tS X.K cl W (mutS f i g)) :=
  PS.weak (ps_expr (pe_bm PySem.F.plainAttrs_list slot hty hm ho (pa_cons ha pa_nil hs) hbase hfew hline hs hplain) hsw) fun E σ H h => mu_w S E σ H h
def appF (xs : List D) (d : D) : Option (List D) := if xs.length < 16777216 then some (xs ++ [d]) else none
def extF (xs : List D) (d : D) : Option (List D) := match d with
  | .list ys => if xs.length + ys.length ≤ 16777216 then some (xs ++ ys) else none
  | _ => none
theorem mu_app {K : PySem.W.Frag} : Smu K rAppend appF := by
  intro G H p vs w xs d ys Q s hv hd hw e k
  unfold appF at e
  split at e
  · rename_i hl
    cases e
    exact ⟨p, vs, w, rfl, rfl, hv, by rw [line_, hd.length]; exact hl, k _ _ (hd.append (.cons hw .nil))⟩
  · cases e
theorem mu_ext {K : PySem.W.Frag} : Smu K rExtend extF := by
  intro G H p vs w xs d ys Q s hv hd hw e k
  unfold extF at e
  split at e
  · split at e
    · rename_i zs hl
      cases e
      cases hw with
      | lst hz hzd => exact ⟨p, _, vs, _, rfl, rfl, hv, s _ _ hz, by rw [line_, hd.length, hzd.length]; exact hl, k _ _ (hd.append hzd)⟩
    · cases e
  · cases e
/-- xs[i] = e, xs a name -/
def ixS (i : Nat) (gi g : Ev D) : Ev Fl := fun ρ => (g ρ).bind fun d r => match r[i]? with
  | some (.ow _ (.ls _)) => (gi r).bind fun k r2 => match k, r2[i]? with
    | .int k, some (.ow b (.ls xs)) => match ixN xs.length k with
      | some j => .ok .nx (r2.set i (.ow b (.ls (xs.set j d))))
      | none => .no
    | _, _ => .no
  | _ => .no
theorem Rel.slot {K : PySem.W.Frag} {M : Addr → Prop} {σ : St} {ρ : Rho} {H : Hp} {b : Bool} {o : Ob} (R : Rel K M σ H ρ) {i : Nat} (e : ρ[i]? = some (.ow b o)) : ∃ p, σ[i]? = some (some (.ref p)) ∧ ObAt K (rs (Mu M σ ρ) H) H p o := by
  obtain ⟨p, h1, _, h2⟩ := R.ow i b o e
  exact ⟨p, h1, h2⟩
end
end DL
end
section
set_option Elab.async false
set_option linter.all false
set_option maxRecDepth 100000
set_option autoImplicit false
namespace DL
open PySem PySem.Spec L2

/-! ### stores into lists of our own -/
theorem DdAll.setV {K : PySem.W.Frag} {G : Hp} {vs : List V} {xs : List D} (h : DdAll K G vs xs) {v : V} {d : D} (hv : Dd K G v d) (j : Nat) : DdAll K G (vs.set j v) (xs.set j d) := DdAll.set hv j h
section
variable {X : Cx} {cl : Cl} {W : WX} {o ie e : Expr} {g gi : Ev D} {i : Nat} {pos tpos : Pos}
theorem s_ix (ho : PE X o (tVar i)) (hi : PE X ie (tE X.K cl W gi)) (he : PE X e (tE X.K cl W g))
    (ha : ∀ v, assign (.Subscript o ie tpos) X.env v = (do
      let ov ← holding [v] (eval o X.env)
      let iv ← holding [v, ov] (eval ie X.env)
      standAt tpos
      holding [v, ov, iv] (setItem ov iv v)
      release [v, ov, iv] []) := by intro _; rfl)
    (hs : swapsWithSole [.Subscript o ie tpos] e pos.line X.env = pure false := by rfl) (hw : swappedStores [.Subscript o ie tpos] e X.env = pure none := by rfl)
    (h1 : (assignEach [.Subscript o ie tpos] X.env).map (·.2) = [assign (.Subscript o ie tpos) X.env] := by rfl) : PS X (.Assign [.Subscript o ie tpos] e pos) (tS X.K cl W (ixS i gi g)) := by
  refine PS.weak (ps_asg he (pg_sub ho hi set_list ha) hs hw h1) ?_
  rintro E σ H ⟨M, ρ, R, p⟩
  refine tS_bind R p fun v d ρ1 H1 _ g1 R1 q1 p1 => ?_
  have q1 : Dd X.K (rs (Mu M σ ρ1) H1) v d := q1
  split at p1
  · rename_i b0 xs0 e0
    obtain ⟨q, hq, _⟩ := R1.slot e0
    refine ⟨_, hq, ?_⟩
    refine tS_bind R1 p1 fun w k ρ2 H2 eg g2 R2 q2 p2 => ?_
    split at p2
    · rename_i k b xs e
      obtain ⟨q', hq', vs, hv, hd⟩ := R2.slot e
      rw [hq] at hq'
      cases hq'
      have ew : w = .int k := by cases q2; rfl
      subst ew
      split at p2
      · rename_i j ej
        refine ⟨q, vs, k, j, rfl, rfl, hv, by rw [hd.length]; exact ej, ?_⟩
        obtain ⟨R3, g3⟩ := R2.obj (o' := .ls (xs.set j d)) (u := .lst (vs.set j v)) e hq ⟨_, upd_same, hd.setV (dd_mono g2.same _ _ q1) j⟩
        exact p2 σ _ g3 R3
      · exact p2.elim
    · exact p2.elim
  · exact p1.elim
/-- a list's item, at a place from 0 on -/
def rGetL : V → V → Hp → VK → Prop := fun x y H Q => ∃ p xs i v, x = .ref p ∧ y = .int i ∧ H p = some (.lst xs) ∧ 0 ≤ i ∧ xs[i.toNat]? = some v ∧ Q v H
theorem get_list : PGet X rGetL := by
  intro pins s σ H x y ov iv Q I rx ry h
  obtain ⟨p, xs, i, v, rfl, rfl, hp, h0, hx, q⟩ := h
  cases rx
  obtain ⟨t, rfl⟩ := ry
  obtain ⟨z, its, n, r, hl, e⟩ := I.lstM hp
  obtain ⟨u, hu, ru⟩ := r.get hx
  have hlt := (List.getElem?_eq_some_iff.mp hx).1
  have hb : (sizeLine : Nat) < 2 ^ 63 := line63
  exact wpAny_getItem_list ⟨_, e, rfl, _, rfl⟩ h0 (by omega) (by rw [← Array.getElem?_toList]; exact hu) ⟨v, H, I, ru, q⟩
/-- xs[i] += e, ints -/
def ixAug (i : Nat) (gi g : Ev D) : Ev Fl := fun ρ => match ρ[i]? with
  | some (.ow _ (.ls _)) => (gi ρ).bind fun k r => match k, r[i]? with
    | .int k, some (.ow _ (.ls xs)) => if 0 ≤ k then match xs[k.toNat]? with
      | some (.int a) => (g r).bind fun d r2 => match d, r2[i]? with
        | .int c, some (.ow b (.ls ys)) => if k.toNat < ys.length then .ok .nx (r2.set i (.ow b (.ls (ys.set k.toNat (.int (a + c)))))) else .no
        | _, _ => .no
      | _ => .no
      else .no
    | _, _ => .no
  | _ => .no
theorem s_ixAug (ho : PE X o (tVar i)) (hi : PE X ie (tE X.K cl W gi)) (he : PE X e (tE X.K cl W g))
    (ha : ∀ ov iv new, augStore ie ov iv new = (do holding [new, ov, iv] (setItem ov iv new); release [new, ov, iv] []; pure .next) := by intros; rfl) : PS X (.AugAssign (.Subscript o ie tpos) .Add e pos) (tS X.K cl W (ixAug i gi g)) := by
  refine PS.weak (ps_augS ho hi get_list he ip_add set_list ha) ?_
  rintro E σ H ⟨M, ρ, R, p⟩
  unfold ixAug at p
  split at p
  · rename_i b0 xs0 e0
    obtain ⟨q, hq, _⟩ := R.slot e0
    refine ⟨_, hq, ?_⟩
    refine tS_bind R p fun w k ρ1 H1 eg g1 R1 q1 p1 => ?_
    split at p1
    · rename_i k b xs e
      obtain ⟨q', hq', vs, hv, hd⟩ := R1.slot e
      rw [hq] at hq'
      cases hq'
      have ew : w = .int k := by cases q1; rfl
      subst ew
      split at p1
      · rename_i h0
        split at p1
        · rename_i a ea
          obtain ⟨va, hva, hda⟩ := hd.get ea
          refine ⟨q, vs, k, va, rfl, rfl, hv, h0, hva, ?_⟩
          refine tS_bind R1 p1 fun y d ρ2 H2 eg2 g2 R2 q2 p2 => ?_
          split at p2
          · rename_i c b2 ys e2
            split at p2
            · rename_i hlt
              obtain ⟨q', hq', ws, hw, hd2⟩ := R2.slot e2
              rw [hq] at hq'
              cases hq'
              have ea : va = .int a := by cases hda; rfl
              have ec : y = .int c := by cases q2; rfl
              refine ⟨a, c, ea, ec, q, ws, k, k.toNat, rfl, rfl, hw, ?_, ?_⟩
              · unfold ixN
                rw [if_pos h0, if_pos (by rw [hd2.length]; omega)]
              · obtain ⟨R3, g3⟩ := R2.obj (o' := .ls (ys.set k.toNat (.int (a + c)))) (u := .lst (ws.set k.toNat (.int (a + c)))) e2 hq ⟨_, upd_same, hd2.setV (.int _) _⟩
                exact p2 σ _ g3 R3
            · exact p2.elim
          · exact p2.elim
        · exact p1.elim
      · exact p1.elim
    · exact p1.elim
  · exact p.elim
/-- xs.pop(e) as a value -/
def popE (i : Nat) (g : Ev D) : Ev D := fun ρ => match ρ[i]? with
  | some (.ow _ (.ls _)) => (g ρ).bind fun d r => match d, r[i]? with
    | .int k, some (.ow b (.ls xs)) => if 0 ≤ k ∧ k < 2 ^ 63 then match xs[k.toNat]? with
      | some x => .ok x (r.set i (.ow b (.ls (xs.eraseIdx k.toNat))))
      | none => .no
      else .no
    | _, _ => .no
  | _ => .no
theorem d_pop {apos cpos : Pos} {a : Expr} (ho : PE X o (tVar i)) (ha : PE X a (tE X.K cl W g))
    (hbase : attributeBase o "pop" X.env (eval o X.env) = eval o X.env := by rfl)
    (hfew : ((backTo cpos (starEach [a] X.env)).all (fun x => !x.1) && (backToKw cpos (keywordEach [] X.env)).all (fun x => x.1.isSome)
      && decide (([a] : List Expr).length + ([] : List Keyword).length + (if ([] : List Keyword).isEmpty then 0 else 1) < 30)) = true := by rfl)
    (hline : (apos.endLine == cpos.line) = true := by rfl) (hs : starEach [a] X.env = (false, eval a X.env) :: starEach [] X.env := by rfl) (hplain : (backTo cpos (starEach [] X.env)).any (·.1) = false := by rfl) :
    PE X (.Call (.Attribute o "pop" apos) [a] [] cpos) (tE X.K cl W (popE i g)) := by
  refine PE.weak (pe_bm PySem.F.plainAttrs_list PySem.F.slot_list_pop PySem.F.type_list_pop mt_popAt ho (pa_cons ha pa_nil hs) hbase hfew hline hs hplain) ?_
  rintro σ H Q ⟨M, ρ, R, p⟩
  unfold popE at p
  split at p
  · rename_i b0 xs0 e0
    obtain ⟨q, hq, vs0, hv0, _⟩ := R.slot e0
    refine ⟨_, hq, .inl ⟨rfl, vs0, .inl (.inl hv0)⟩, ?_⟩
    refine tG_bind R p fun w k ρ1 H1 eg g1 R1 q1 p1 => ?_
    split at p1
    · rename_i k b xs e
      split at p1
      · rename_i hk
        split at p1
        · rename_i x ex
          obtain ⟨q', hq', vs, hv, hd⟩ := R1.slot e
          rw [hq] at hq'
          cases hq'
          have ew : w = .int k := by cases q1; rfl
          subst ew
          obtain ⟨vx, hvx, hdx⟩ := hd.get ex
          have hlt := (List.getElem?_eq_some_iff.mp hvx).1
          obtain ⟨R3, g3⟩ := R1.obj (o' := .ls (xs.eraseIdx k.toNat)) (u := .lst (vs.eraseIdx k.toNat)) e hq ⟨_, upd_same, hd.eraseIdx _⟩
          refine ⟨q, vs, k, k.toNat, vx, rfl, rfl, hv, by omega, hk.2, seqIndex_of hk.1 (by omega), hvx, ?_⟩
          exact p1 _ _ g3 R3 (dd_mono g3.same _ _ hdx)
        · exact p1.elim
      · exact p1.elim
    · exact p1.elim
  · exact p.elim
end

/-! ### truth -/
def truD : D → Option Bool
  | .none => some false
  | .bool b => some b
  | .int i => some (i != 0)
  | .str z => if z.length ≤ 16777216 then some ((z.length : Int) != 0) else none
  | .list xs => some (!xs.isEmpty)
  | .tuple xs => some (!xs.isEmpty)
  | .dict _ => none
theorem isE {K : PySem.W.Frag} {G : Hp} {vs : List V} {ds : List D} (h : DdAll K G vs ds) : vs.isEmpty = ds.isEmpty := by cases h <;> rfl
section
variable {X : Cx} {cl : Cl} {W : WX} {a b c : Expr} {A B C : Opd} {pos : Pos}
theorem t_tru (ha : PE X a (tP X.K cl W A)) (he : ∀ whole, isTrue a X.env whole = (do let v ← whole; standAt a.pos; holding [v] (truthy v)) := by intro _; rfl) : PT X a (tT X.K cl W (e1 truD A)) := by
  refine PT.weak (pt_truth ha he) ?_
  rintro σ H Q ⟨M, ρ, R, p⟩
  refine tG_bind R p fun v x ρ1 H1 _ g1 R1 q1 p1 => ?_
  cases q : (x.fin ρ1).bind truD with
  | none => rw [q] at p1; exact p1.elim
  | some k =>
    rw [q] at p1
    refine ⟨k, ?_, p1 k H1 Go.refl R1 rfl⟩
    obtain ⟨d1, h1, e⟩ := Option.bind_eq_some_iff.mp q
    have hb := RV0.fin R1 q1 h1
    have s := rs_sub (Mu M σ ρ1) H1
    unfold truD at e
    split at e
    · cases e; rw [hb.none]; rfl
    · cases e; rw [hb.bool]; rfl
    · cases e; rw [hb.int]; rfl
    · split at e
      · rename_i hz
        cases e; rw [hb.str]; exact ⟨by rw [line_]; exact hz, rfl⟩
      · cases e
    · cases e
      obtain ⟨q, vs, rfl, hp, hd⟩ := hb.list s
      exact .inl ⟨vs, .inl (.inl hp), by rw [isE hd]⟩
    · cases e
      obtain ⟨q, vs, rfl, hp, hd⟩ := hb.tuple s
      exact .inr (.inl ⟨vs, .inl (.inl (s _ _ hp)), by rw [isE hd]⟩)
    · cases e
/-- a op b op' c -/
def eCh (f f' : D → D → Option D) (a b c : Opd) : Ev D := fun ρ => (a.run ρ).bind fun x r => (b.run r).bind fun y r2 => (ofO ((x.fin r2).bind fun p => (y.fin r2).bind fun q => f p q) r2).bind fun d r2 => match d with
  | .bool k => if k = true then (c.run r2).bind fun z r3 => ofO ((y.fin r3).bind fun q => (z.fin r3).bind fun o => f' q o) r3 else .ok (.bool false) r2
  | _ => .no
theorem ch_w {K : PySem.W.Frag} {r r' : R2} {f f' : D → D → Option D} (S : Sd2 K r f) (S' : Sd2 K r' f') (σ : St) (H : Hp) (Q : VK) (h : tE K cl W (eCh f f' A B C) σ H Q) : tChain r r' (tP K cl W A) (tP K cl W B) (tP K cl W C) σ H Q := by
  obtain ⟨M, ρ, R, p⟩ := h
  refine tG_bind R p fun v x ρ1 H1 _ g1 R1 q1 p1 => ?_
  refine tG_bind R1 p1 fun w y ρ2 H2 _ g2 R2 q2 p2 => ?_
  cases ef : (x.fin ρ2).bind (fun p => (y.fin ρ2).bind fun q => f p q) with
  | none => rw [ef] at p2; exact p2.elim
  | some d =>
    rw [ef] at p2
    obtain ⟨d1, e1, e⟩ := Option.bind_eq_some_iff.mp ef
    obtain ⟨d2, e2, e⟩ := Option.bind_eq_some_iff.mp e
    refine S _ H2 v w d1 d2 d _ (rs_sub _ _) (RV0.fin R2 (RV0.go g2 q1) e1) (RV0.fin R2 q2 e2) e fun u H3 s3 hu => ?_
    have g3 : Go σ ρ2 H2 σ ρ2 H3 := Go.ext R2 s3
    have R3 := R2.ext s3
    have p3 := Pst.step g3 p2
    cases d with
    | bool k =>
      have eu : u = .bl k := by cases hu; rfl
      refine ⟨k, eu, ?_⟩
      have p3 : Pst K cl W (RD K) M σ ρ2 H3 (if k = true then (C.run ρ2).bind fun z r3 => ofO ((y.fin r3).bind fun q => (z.fin r3).bind fun o => f' q o) r3 else .ok (.bool false) ρ2) Q := p3
      cases k with
      | false =>
        rw [if_neg (by decide)] at p3 ⊢
        exact p3 _ H3 Go.refl R3 (.bl false)
      | true =>
        rw [if_pos rfl] at p3 ⊢
        refine tG_bind R3 p3 fun z zz ρ4 H4 _ g4 R4 q4 p4 => ?_
        refine end_d R4 p4 fun d e k => ?_
        obtain ⟨c1, h1, e⟩ := Option.bind_eq_some_iff.mp e
        obtain ⟨c2, h2, e⟩ := Option.bind_eq_some_iff.mp e
        exact S' _ H4 w z c1 c2 d Q (rs_sub _ _) (RV0.fin R4 (RV0.go (g3.trans g4) q2) h1) (RV0.fin R4 q4 h2) e k
    | none => exact p3.elim
    | int _ => exact p3.elim
    | str _ => exact p3.elim
    | list _ => exact p3.elim
    | tuple _ => exact p3.elim
    | dict _ => exact p3.elim
theorem d_chain {op op' : CmpOp} {r r' : R2} {f f' : D → D → Option D} (ho : OpR X (compareOp op) r) (S : Sd2 X.K r f) (ho' : OpR X (compareOp op') r') (S' : Sd2 X.K r' f') (ha : PE X a (tP X.K cl W A)) (hb : PE X b (tP X.K cl W B)) (hc : PE X c (tP X.K cl W C))
    (hm : lastMarks [op, op'] [b, c] = false := by with_unfolding_all rfl) : PE X (.Compare a [op, op'] [b, c] pos) (tE X.K cl W (eCh f f' A B C)) := PE.weak (pe_chain ho ho' ha hb hc hm) (ch_w S S')
theorem t_chain {op op' : CmpOp} {r r' : R2} {f f' : D → D → Option D} (ho : OpR X (compareOp op) r) (S : Sd2 X.K r f) (ho' : OpR X (compareOp op') r') (S' : Sd2 X.K r' f') (ha : PE X a (tP X.K cl W A)) (hb : PE X b (tP X.K cl W B)) (hc : PE X c (tP X.K cl W C))
    (hm : lastMarks [op, op'] [b, c] = false := by with_unfolding_all rfl) : PT X (.Compare a [op, op'] [b, c] pos) (tT X.K cl W (eT (eCh f f' A B C))) := by
  refine PT.weak (pt_chain ho ho' ha hb hc hm) fun σ H Q h => ?_
  exact ch_w S S' σ H _ (tT_of σ H Q h)
end

/-! ### raise -/
def erS (c : String) : Ev Fl := fun ρ => .er c ρ
theorem s_raise {X : Cx} {cl : Cl} {W : WX} {x m : Str} {j : Nat} {p p2 pos pos' : Pos} {c : String} {C : Addr} {B newId initId : _} {bmB : List Value} (hc : X.calm = true) (tk : Takes X W) (hcl : cl c (.ref C) none) (F : PySem.ExcBaseFacts B newId initId bmB) (q : PySem.W.excIn X.K C bmB newId = true) (gC : X.mg x = some (.ref C)) (kC : PySem.W.keepIn X.K (.ref C) = true) (r : Raises X (.ref C)) (hg : Gl X x)
    (hdb : (x == ("__debug__" : Str)) = false := by decide) : PS X (.Raise (some (.Call (.Name x p) [.Constant (.str m) j p2] [] pos')) none pos) (tS X.K cl W (erS c)) := by
  refine PS.weak (ps_raise hc tk (pmk_own F q gC kC r hg hdb)) ?_
  rintro E σ H ⟨M, ρ, R, p⟩
  exact p (.ref C) none σ H hcl Go.refl R
end DL
end
section
set_option Elab.async false
set_option linter.all false
set_option maxRecDepth 100000
set_option autoImplicit false
namespace DL
open PySem PySem.Spec L2

/-! ### dicts of our own -/
def toK : D → Option Key
  | .int i => some (.inl i)
  | .str z => some (.inr z)
  | _ => none
def toKs : List D → Option (List Key)
  | [] => some []
  | d :: ds => (toK d).bind fun k => (toKs ds).map (k :: ·)
theorem toK_dd {K : PySem.W.Frag} {G : Hp} {v : V} {d : D} {k : Key} (h : Dd K G v d) (e : toK d = some k) : v = kV k := by
  unfold toK at e
  split at e
  · cases e; cases h; rfl
  · cases e; cases h; rfl
  · cases e
theorem toKs_dd {K : PySem.W.Frag} {G : Hp} : ∀ {vs : List V} {ds : List D} {ks : List Key}, DdAll K G vs ds → toKs ds = some ks → vs = ks.map kV
  | _, [], ks, h, e => by cases h; cases e; rfl
  | _, d :: ds, ks, h, e => by
    cases h with
    | cons h1 h2 =>
      obtain ⟨k, e1, e⟩ := Option.bind_eq_some_iff.mp (show (toK d).bind (fun k => (toKs ds).map (k :: ·)) = some ks from e)
      obtain ⟨zs, e2, rfl⟩ := Option.map_eq_some_iff.mp e
      rw [toK_dd h1 e1, toKs_dd h2 e2]
      rfl
section
variable {κ : Type} [DecidableEq κ]
def lk : List (κ × D) → κ → Option D
  | [], _ => none
  | (j, d) :: r, k => if j = k then some d else lk r k
def pt' (r : List (κ × D)) (k : κ) (d : D) : List (κ × D) := if (lk r k).isSome then r.map fun p => if p.1 = k then (p.1, d) else p else r ++ [(k, d)]
variable {K : PySem.W.Frag} {G : Hp}
theorem lk_val : ∀ {ws : List (κ × V)} {kvs : List (κ × D)} (k : κ), KDp K G ws kvs → (∀ d, lk kvs k = some d → ∃ v, valV ws k = some v ∧ Dd K G v d) ∧ (lk kvs k = none → valV ws k = none)
  | _, _, k, .nil => ⟨(fun d h => by cases h), (fun _ => rfl)⟩
  | (a, v) :: ws, (b, d) :: kvs, k, .cons h t => by
    obtain ⟨h1, h2⟩ := h
    have h1 : a = b := h1
    subst h1
    obtain ⟨i1, i2⟩ := lk_val k t
    by_cases e : a = k
    · subst e
      refine ⟨fun d' z => ?_, fun z => ?_⟩
      · rw [lk, if_pos rfl] at z
        cases z
        exact ⟨v, valV_pos rfl, h2⟩
      · rw [lk, if_pos rfl] at z; cases z
    · rw [lk, if_neg e, valV_neg e]
      exact ⟨i1, i2⟩
theorem lk_some {ws : List (κ × V)} {kvs : List (κ × D)} (k : κ) (h : KDp K G ws kvs) : (valV ws k).isSome = (lk kvs k).isSome := by
  obtain ⟨h1, h2⟩ := lk_val k h
  cases e : lk kvs k with
  | none => rw [h2 e]; rfl
  | some d =>
    obtain ⟨v, e2, _⟩ := h1 d e
    rw [e2]
    rfl
theorem map_kd {k : κ} {v : V} {d : D} (hv : Dd K G v d) : ∀ {ws : List (κ × V)} {kvs : List (κ × D)}, KDp K G ws kvs → KDp K G (ws.map fun kv => if kv.1 = k then (kv.1, v) else kv) (kvs.map fun p => if p.1 = k then (p.1, d) else p)
  | _, _, .nil => .nil
  | (a, w) :: ws, (b, e) :: kvs, .cons h t => by
    obtain ⟨h1, h2⟩ := h
    have h1 : a = b := h1
    subst h1
    refine .cons ?_ (map_kd hv t)
    dsimp only
    by_cases e : a = k
    · rw [if_pos e, if_pos e]; exact ⟨rfl, hv⟩
    · rw [if_neg e, if_neg e]; exact ⟨rfl, h2⟩
theorem kd_app : ∀ {ws ws' : List (κ × V)} {kvs kvs' : List (κ × D)}, KDp K G ws kvs → KDp K G ws' kvs' → KDp K G (ws ++ ws') (kvs ++ kvs')
  | _, _, _, _, .nil, h => h
  | _, _, _, _, .cons h t, h' => .cons h (kd_app t h')
theorem pt_kd {k : κ} {v : V} {d : D} {ws : List (κ × V)} {kvs : List (κ × D)} (hv : Dd K G v d) (h : KDp K G ws kvs) : KDp K G (putK ws k v) (pt' kvs k d) := by
  have e := lk_some k h
  unfold pt'
  by_cases c : (lk kvs k).isSome = true
  · rw [if_pos c]
    have z : (ws.any fun kv => decide (kv.1 = k)) = true := by rw [valV_any, e]; exact c
    unfold putK
    rw [if_pos z]
    exact map_kd hv h
  · rw [if_neg c]
    have z : valV ws k = none := by
      cases q : valV ws k with
      | none => rfl
      | some w => rw [q] at e; exact absurd e.symm c
    rw [putK_new v z]
    exact kd_app h (.cons ⟨rfl, hv⟩ .nil)
theorem kd_len : ∀ {ws : List (κ × V)} {kvs : List (κ × D)}, KDp K G ws kvs → ws.length = kvs.length := fun h => Paired.length h
end
/-- what an owned dict holds at a key -/
def dGet (o : Ob) (d : D) : Option (Option D) := match o, d with
  | .dt kvs, .tuple ds => (toKs ds).map fun ks => lk kvs ks
  | .dk kvs, d => (toK d).map fun k => lk kvs k
  | _, _ => none
def dPut (o : Ob) (d x : D) : Option Ob := match o, d with
  | .dt kvs, .tuple ds => (toKs ds).bind fun ks => if kvs.length < 16777216 then some (.dt (pt' kvs ks x)) else none
  | .dk kvs, d => (toK d).bind fun k => if kvs.length < 16777216 then some (.dk (pt' kvs k x)) else none
  | _, _ => none
theorem dget_w {K : PySem.W.Frag} {G H : Hp} {p : Addr} {o : Ob} {w : V} {d : D} {r : Option D} (s : Same G H) (ob : ObAt K G H p o) (hw : Dd K G w d) (e : dGet o d = some r) :
    ∃ rv, DGet H p w rv ∧ rv.isSome = r.isSome ∧ ∀ x, r = some x → ∃ v, rv = some v ∧ Dd K G v x := by
  unfold dGet at e
  split at e
  · obtain ⟨ks, e1, rfl⟩ := Option.map_eq_some_iff.mp e
    obtain ⟨ws, hp, hk⟩ := ob
    cases hw with
    | tup ht hd =>
      have ev := toKs_dd hd e1
      subst ev
      exact ⟨_, DGet.t hp (s _ _ ht), lk_some ks hk, fun x z => (lk_val ks hk).1 x z⟩
  · obtain ⟨k, e1, rfl⟩ := Option.map_eq_some_iff.mp e
    obtain ⟨ws, hp, hk⟩ := ob
    have ev := toK_dd hw e1
    subst ev
    exact ⟨_, DGet.k hp, lk_some k hk, fun x z => (lk_val k hk).1 x z⟩
  · cases e
theorem dput_w {K : PySem.W.Frag} {G H : Hp} {p : Addr} {o o' : Ob} {w v : V} {d x : D} (s : Same G H) (ob : ObAt K G H p o) (hw : Dd K G w d) (hv : Dd K G v x) (e : dPut o d x = some o') :
    ∃ u, DPut H p w v (upd H p u) ∧ ObAt K G (upd H p u) p o' := by
  unfold dPut at e
  split at e
  · obtain ⟨ks, e1, e⟩ := Option.bind_eq_some_iff.mp e
    split at e
    · rename_i hl
      cases e
      obtain ⟨ws, hp, hk⟩ := ob
      cases hw with
      | tup ht hd =>
        have ev := toKs_dd hd e1
        subst ev
        exact ⟨_, DPut.t hp (s _ _ ht) (by rw [line_, kd_len hk]; exact hl), _, upd_same, pt_kd hv hk⟩
    · cases e
  · obtain ⟨k, e1, e⟩ := Option.bind_eq_some_iff.mp e
    split at e
    · rename_i hl
      cases e
      obtain ⟨ws, hp, hk⟩ := ob
      have ev := toK_dd hw e1
      subst ev
      exact ⟨_, DPut.k hp (by rw [line_, kd_len hk]; exact hl), _, upd_same, pt_kd hv hk⟩
    · cases e
  · cases e
def obS (r : Rho) (i : Nat) : Option Ob := match r[i]? with
  | some (.ow _ o) => some o
  | _ => none
theorem obS_of {r : Rho} {i : Nat} {o : Ob} (h : obS r i = some o) : ∃ b, r[i]? = some (.ow b o) := by
  unfold obS at h
  split at h
  · rename_i b o' e
    cases h
    exact ⟨b, e⟩
  · cases h
/-- k in d, k not in d -/
def dinE (n : Bool) (i : Nat) (g : Ev D) : Ev D := fun ρ => (g ρ).bind fun d r => ofO ((obS r i).bind fun o => (dGet o d).map fun x => .bool (if n then !x.isSome else x.isSome)) r
/-- d[k] -/
def dgetE (i : Nat) (g : Ev D) : Ev D := fun ρ => match obS ρ i with
  | some _ => (g ρ).bind fun d r => ofO ((obS r i).bind fun o => (dGet o d).bind fun x => x) r
  | none => .no
/-- d[k] = v -/
def dputS (i : Nat) (gi g : Ev D) : Ev Fl := fun ρ => (g ρ).bind fun x r => match obS r i with
  | some _ => (gi r).bind fun d r2 => match r2[i]? with
    | some (.ow b o) => match dPut o d x with
      | some o' => .ok .nx (r2.set i (.ow b o'))
      | none => .no
    | _ => .no
  | none => .no
section
variable {X : Cx} {cl : Cl} {W : WX} {o ie e : Expr} {g gi : Ev D} {i : Nat} {pos pos' : Pos}
theorem din_w {K : PySem.W.Frag} (σ : St) (H : Hp) (Q : VK) (h : tE K cl W (dinE false i g) σ H Q) : tDIn (tE K cl W g) (tVar i) σ H Q := by
  obtain ⟨M, ρ, R, p⟩ := h
  refine tG_bind R p fun v d ρ1 H1 _ g1 R1 q1 p1 => ?_
  refine end_d R1 p1 fun x ex k => ?_
  obtain ⟨ob, e1, ex⟩ := Option.bind_eq_some_iff.mp ex
  obtain ⟨r, e2, rfl⟩ := Option.map_eq_some_iff.mp ex
  obtain ⟨b, e3⟩ := obS_of e1
  obtain ⟨a, ha, hob⟩ := R1.slot e3
  obtain ⟨rv, z1, z2, _⟩ := dget_w (rs_sub _ _) hob q1 e2
  refine ⟨.ref a, ha, a, rv, rfl, z1, ?_⟩
  rw [z2]
  exact keep_ k (.bl _)
theorem dnin_w {K : PySem.W.Frag} (σ : St) (H : Hp) (Q : VK) (h : tE K cl W (dinE true i g) σ H Q) : tDNotIn (tE K cl W g) (tVar i) σ H Q := by
  obtain ⟨M, ρ, R, p⟩ := h
  refine tG_bind R p fun v d ρ1 H1 _ g1 R1 q1 p1 => ?_
  refine end_d R1 p1 fun x ex k => ?_
  obtain ⟨ob, e1, ex⟩ := Option.bind_eq_some_iff.mp ex
  obtain ⟨r, e2, rfl⟩ := Option.map_eq_some_iff.mp ex
  obtain ⟨b, e3⟩ := obS_of e1
  obtain ⟨a, ha, hob⟩ := R1.slot e3
  obtain ⟨rv, z1, z2, _⟩ := dget_w (rs_sub _ _) hob q1 e2
  refine ⟨.ref a, ha, a, rv, rfl, z1, ?_⟩
  rw [z2]
  exact keep_ k (.bl _)
theorem d_din (hu : X.A.units + 1 < cLine) (hi : PE X ie (tE X.K cl W g)) (ho : PE X o (tVar i)) (hm : behindInMarks .In o = false := by rfl) : PE X (.Compare ie [.In] [o] pos) (tE X.K cl W (dinE false i g)) := PE.weak (pe_cmp (pc_din hu hi ho) hm) din_w
theorem d_dnin (hu : X.A.units + 1 < cLine) (hi : PE X ie (tE X.K cl W g)) (ho : PE X o (tVar i)) (hm : behindInMarks .NotIn o = false := by rfl) : PE X (.Compare ie [.NotIn] [o] pos) (tE X.K cl W (dinE true i g)) := PE.weak (pe_cmp (pc_dnotin hu hi ho) hm) dnin_w
theorem t_din (hu : X.A.units + 1 < cLine) (hi : PE X ie (tE X.K cl W g)) (ho : PE X o (tVar i)) (hm : behindInMarks .In o = false := by rfl) : PT X (.Compare ie [.In] [o] pos) (tT X.K cl W (eT (dinE false i g))) := by
  refine PT.weak (pt_cmp (pc_din hu hi ho) hm) fun σ H Q h => ?_
  exact din_w σ H _ (tT_of σ H Q h)
theorem t_dnin (hu : X.A.units + 1 < cLine) (hi : PE X ie (tE X.K cl W g)) (ho : PE X o (tVar i)) (hm : behindInMarks .NotIn o = false := by rfl) : PT X (.Compare ie [.NotIn] [o] pos) (tT X.K cl W (eT (dinE true i g))) := by
  refine PT.weak (pt_cmp (pc_dnotin hu hi ho) hm) fun σ H Q h => ?_
  exact dnin_w σ H _ (tT_of σ H Q h)
theorem d_dget (hu : X.A.units + 1 < cLine) (ho : PE X o (tVar i)) (hi : PE X ie (tE X.K cl W g)) (hs : NoSl ie := by intro _ _; rfl) : PE X (.Subscript o ie pos) (tE X.K cl W (dgetE i g)) := by
  refine PE.weak (pe_dget hu ho hi hs) ?_
  rintro σ H Q ⟨M, ρ, R, p⟩
  unfold dgetE at p
  split at p
  · rename_i ob0 e0
    obtain ⟨b0, e0⟩ := obS_of e0
    obtain ⟨a, ha, _⟩ := R.slot e0
    refine ⟨.ref a, ha, ?_⟩
    refine tG_bind R p fun v d ρ1 H1 _ g1 R1 q1 p1 => ?_
    refine end_d R1 p1 fun x ex k => ?_
    obtain ⟨ob, e1, ex⟩ := Option.bind_eq_some_iff.mp ex
    obtain ⟨r, e2, rfl⟩ := Option.bind_eq_some_iff.mp ex
    obtain ⟨b, e3⟩ := obS_of e1
    obtain ⟨a', ha', hob⟩ := R1.slot e3
    rw [ha] at ha'
    cases ha'
    obtain ⟨rv, z1, z2, z3⟩ := dget_w (rs_sub _ _) hob q1 e2
    obtain ⟨u, rfl, hu⟩ := z3 x rfl
    exact ⟨a, u, rfl, z1, keep_ k (dd_mono (ex_same (rs_sub _ _)) _ _ hu)⟩
  · exact p.elim
theorem s_dput (hu : X.A.units + 1 < cLine) (ho : PE X o (tVar i)) (hi : PE X ie (tE X.K cl W gi)) (hv : PE X e (tE X.K cl W g)) (hs : swapsWith e (some (.Subscript o ie pos')) pos.line X.env = pure false := by rfl) :
    PS X (.Assign [.Subscript o ie pos'] e pos) (tS X.K cl W (dputS i gi g)) := by
  refine PS.weak (ps_dput hu ho hi hv hs) ?_
  rintro E σ H ⟨M, ρ, R, p⟩
  refine tS_bind R p fun v x ρ1 H1 _ g1 R1 q1 p1 => ?_
  split at p1
  · rename_i ob0 e0
    obtain ⟨b0, e0⟩ := obS_of e0
    obtain ⟨a, ha, _⟩ := R1.slot e0
    refine ⟨.ref a, ha, ?_⟩
    refine tS_bind R1 p1 fun w d ρ2 H2 eg g2 R2 q2 p2 => ?_
    split at p2
    · rename_i b ob e2
      split at p2
      · rename_i o' e3
        obtain ⟨a', ha', hob⟩ := R2.slot e2
        rw [ha] at ha'
        cases ha'
        obtain ⟨u, z1, z2⟩ := dput_w (rs_sub _ _) hob q2 (dd_mono g2.same _ _ q1) e3
        obtain ⟨R3, g3⟩ := R2.obj (o' := o') (u := u) e2 ha z2
        exact ⟨a, _, rfl, z1, p2 σ _ g3 R3⟩
      · exact p2.elim
    · exact p2.elim
  · exact p1.elim
def newT : Ev Ob := fun ρ => .ok (.dt []) ρ
def newK : Ev Ob := fun ρ => .ok (.dk []) ρ
theorem new_end {K : PySem.W.Frag} {M : Addr → Prop} {σ : St} {ρ : Rho} {H : Hp} {ob : Ob} {u : HO} {p : Addr} {Q : VK} (R : Rel K M σ H ρ) (q : Pst K cl W (RO K) M σ ρ H (.ok ob ρ) Q) (n : H p = none) (hob : ∀ G, ObAt K G (upd H p u) p ob) : Q (.ref p) (upd H p u) := by
  refine end_o (f := some ob) R q fun o e k => ?_
  cases e
  exact k p _ (fun b o e => by rw [upd_ne (ne_of_none e n)]; exact e) n (hob _)
theorem o_newT : PE X (.Dict [] [] pos) (tO X.K cl W newT) := by
  refine PE.weak pe_dnewT ?_
  rintro σ H Q ⟨M, ρ, R, q⟩ p n
  exact new_end R q n fun G => ⟨[], upd_same, .nil⟩
theorem o_newK : PE X (.Dict [] [] pos) (tO X.K cl W newK) := by
  refine PE.weak pe_dnewK ?_
  rintro σ H Q ⟨M, ρ, R, q⟩ p n
  exact new_end R q n fun G => ⟨[], upd_same, .nil⟩
end
end DL
end
section
set_option Elab.async false
set_option linter.all false
set_option maxRecDepth 100000
set_option autoImplicit false
namespace DL
open PySem PySem.Spec PyProof.Rows L2
def set0 (w : World) : Obj := { cls := .type "set", dict := none, data := .set #[] 0 (.fresh 0 0 (!w.params.followText "set-order")) }
section
variable {P : Program} {w : World} {A : Around} {E : Value → Shared → Prop} {s : Shared}
def SetMade (w : World) (s : Shared) (ns : List Int) (s2 : Shared) : Prop := ∃ (h' : Heap) (tk c : Nat), s2 = { s with heap := h', toks := tk } ∧ SetR w h' s.heap.objs.size (fun j => decide (j ∈ ns)) c ∧ c ≤ ns.length ∧ ∀ b o, s.heap.get? b = some o → h'.get? b = some o
set_option maxHeartbeats 3200000 in
theorem set_init_lst {l : Addr} {items : Array Value} (ns : List Int) {B : Around} {Q : PySem.Fin → Shared → Prop} {E' : Value → Shared → Prop} (hh : B.handled = none) (hl : s.heap.IsList l items) (hit : IntsAre items.toList ns) (hb : ns.length + 1 < scanBound)
    (hQ : ∀ s2, SetMade w s ns s2 → Q (.done (.ret .none)) s2) :
    wpAny (model P w) B (Builtin.«set.__init__» ⟨[.ref s.heap.objs.size, .ref l], []⟩) Q E' { s with heap := s.heap.push (set0 w) } := by
  have hn : items.size = ns.length := by
    have q := IntsAre.length hit
    rwa [Array.length_toList] at q
  have g0 : (s.heap.push (set0 w)).get? s.heap.objs.size = some (set0 w) := Heap.get?_push_size _ rfl
  have hT : Shared.TypeIs { s with heap := s.heap.push (set0 w) } (.ref s.heap.objs.size) "set" := ⟨_, g0, rfl⟩
  obtain ⟨⟨oc, od, odt, os⟩, hol, hcl, nl, hdl⟩ := hl
  simp only at hcl hdl
  subst hcl; subst hdl
  have llt : l < s.heap.objs.size := Heap.lt_size hol
  have hol2 : (s.heap.push (set0 w)).get? l = some { cls := .type "list", dict := od, data := .seq items nl, slots := os } := Heap.get?_push_of_some _ hol
  have lst : (s.heap.push (set0 w)).IsList l items := ⟨_, hol2, rfl, nl, rfl⟩
  have k1 := F.sub_list_set
  have k2 := F.sub_list_frozenset
  have k3 : (Value.type "list" == Value.type "dict") = false := by decide
  unfold Builtin.«set.__init__» noKeywords Builtin.Frozenset.updateFrom
  generalize hPI : pyIter = PI
  wp_walk
  subst hPI
  refine wpAny_pyIter_list lst (wpAny_bind (wpAny_runValue ?_))
  have z1 : (s.heap.push (set0 w)).objs.size = s.heap.objs.size + 1 := Heap.size_push ..
  have n1 : l ≠ (s.heap.push (set0 w)).objs.size := by rw [z1]; exact Nat.ne_of_lt (Nat.lt_succ_of_lt llt)
  have n2 : s.heap.objs.size ∉ [(s.heap.push (set0 w)).objs.size, l] := by
    rw [z1]
    intro z
    rcases List.mem_cons.mp z with z | z
    · exact absurd z (Nat.ne_of_lt (Nat.lt_succ_self _))
    · exact absurd (List.mem_singleton.mp z) (Nat.ne_of_gt llt)
  refine set_update_ints ((Walks.list (by simp [hh]) _ l n1 items).toS) s.heap.objs.size n2 ns hn hb (fun i v hv => ?_) (items.size - 0) 0 _ (by omega) (Nat.zero_le _) ⟨⟨_, Heap.get?_push_size _ rfl, rfl, rfl⟩, lst.push _⟩ ⟨0, Nat.le_refl 0, setR_new_at (Heap.get?_push_of_some _ g0)⟩ fun s' c' hm hc hS => ?_
  · have hi : i < ns.length := by rw [← hn]; exact (Array.getElem?_eq_some_iff.mp hv).1
    obtain ⟨t, e⟩ := IntsAre.int_at hit i v (by rw [Array.getElem?_toList]; exact hv)
    refine ⟨ns[i], t, List.getElem?_eq_getElem hi, ?_⟩
    rw [e, List.getD_eq_getElem?_getD, List.getElem?_eq_getElem hi]
    try rfl
  · have e1 := hm.gens
    have e2 := hm.drawn
    have e3 := hm.os
    obtain ⟨h', gg, dd, tk, oo⟩ := s'
    simp only at e1 e2 e3
    subst e1; subst e2; subst e3
    refine wpAny_pure (wpAny_pure (hQ _ ⟨h', tk, c', rfl, hS, by omega, fun b o e => ?_⟩))
    have lb := Heap.lt_size e
    refine hm.heap b o (fun z => ?_) (Heap.get?_push_of_some _ (Heap.get?_push_of_some _ e))
    rw [z1] at z
    rcases List.mem_cons.mp z with z | z
    · exact absurd z (Nat.ne_of_lt lb)
    · exact absurd (List.mem_singleton.mp z) (Nat.ne_of_lt (Nat.lt_succ_of_lt lb))
set_option maxHeartbeats 3200000 in
theorem set_lst {l : Addr} {items : Array Value} (ns : List Int) {Q : Value → Shared → Prop} (hh : A.handled = none) (hl : s.heap.IsList l items) (hit : IntsAre items.toList ns) (hb : ns.length + 1 < scanBound)
    (h : ∀ s2, SetMade w s ns s2 → Q (.ref s.heap.objs.size) s2) : wpAny (model P w) A (call (.type "set") [.ref l]) Q E s := by
  have cs := F.called_set
  obtain ⟨c, tl, hmro⟩ := cs.mro
  have a1 := cs.made
  have a2 := cs.sub
  have a3 := cs.notType
  have a4 := cs.canCreate
  have a5 := F.typeCall_set_1 (.ref l)
  refine wpAny_call (codeAny_of_tree ?_)
  show wpAny _ _ (callAny (.type "set") _) _ _ _
  refine wpAny_pure ⟨Code.quiet_builtin _ (by decide +kernel), codeAny_builtin F.entry_type_call ?_⟩
  rw [Around.under_plain (weight_type_call_type "set" [.ref l] []) rfl]
  repeat (any_goals (first | assumption | wp_step))
  refine codeAny_mono (code_set_led1 (.ref l) (E := E) (Q₁ := fun u z => u = .ref s.heap.objs.size ∧ z = { s with heap := s.heap.push (set0 w) }) ⟨rfl, rfl⟩) fun r z hz => ?_
  match r, hz with
  | .error _, hz => exact hz
  | .ok (.ret u), ⟨e1, e2⟩ =>
    subst e1 e2
    have hT : Shared.TypeIs { s with heap := s.heap.push (set0 w) } (.ref s.heap.objs.size) "set" := ⟨_, Heap.get?_push_size _ rfl, rfl⟩
    have a6 := cs.init.lookup
    have a7 := cs.init.bind (.ref s.heap.objs.size)
    repeat (any_goals (first | assumption | wp_step))
    refine codeAny_mono (codeAny_call_builtin (R := wants (fun v s2 => v = .none ∧ SetMade w s ns s2) E) cs.init.plain F.entry_set_init (check_set_init_1 hT ?_)) fun r2 s2 hr2 => ?_
    · exact set_init_lst ns (by simp [hh]) hl hit hb fun s2 q => ⟨rfl, q⟩
    · match r2, hr2 with
      | .error _, hr2 => exact hr2
      | .ok (.ret v), ⟨e1, e2⟩ =>
        subst e1
        have f := h _ e2
        repeat (any_goals (first | assumption | wp_step))
        all_goals exact f
end
end DL
end
section
set_option Elab.async false
set_option linter.all false
set_option maxRecDepth 100000
set_option autoImplicit false
namespace DL
open PySem PySem.Spec L2

/-! ### the ints of a list, each once, in order -/
def uins (k : Int) : List Int → List Int
  | [] => [k]
  | x :: l => if k < x then k :: x :: l else if k = x then x :: l else x :: uins k l
def usort (ns : List Int) : List Int := ns.foldr uins []
theorem mem_uins {k j : Int} : ∀ {l : List Int}, j ∈ uins k l ↔ j = k ∨ j ∈ l
  | [] => by simp [uins]
  | x :: l => by
    have ih := mem_uins (k := k) (j := j) (l := l)
    unfold uins
    split
    · simp
    · split
      · rename_i h; subst h; simp
      · simp only [List.mem_cons, ih]
        constructor
        · rintro (h | h | h) <;> simp [h]
        · rintro (h | h | h) <;> simp [h]
theorem mem_usort {j : Int} : ∀ {ns : List Int}, j ∈ usort ns ↔ j ∈ ns
  | [] => by simp [usort]
  | x :: l => by
    have ih := mem_usort (j := j) (ns := l)
    show j ∈ uins x (usort l) ↔ _
    rw [mem_uins, ih, List.mem_cons]
theorem uins_lt {k : Int} : ∀ {l : List Int}, l.Pairwise (· < ·) → (uins k l).Pairwise (· < ·)
  | [], _ => by simp [uins]
  | x :: l, h => by
    obtain ⟨h1, h2⟩ := List.pairwise_cons.mp h
    unfold uins
    split
    · rename_i c
      refine List.pairwise_cons.mpr ⟨fun y hy => ?_, h⟩
      rcases List.mem_cons.mp hy with z | z
      · subst z; exact c
      · have := h1 y z; omega
    · split
      · exact h
      · refine List.pairwise_cons.mpr ⟨fun y hy => ?_, uins_lt h2⟩
        rcases mem_uins.mp hy with z | z
        · omega
        · exact h1 y z
theorem usort_lt : ∀ (ns : List Int), (usort ns).Pairwise (· < ·)
  | [] => .nil
  | x :: l => uins_lt (usort_lt l)
/-- what is sorted and has the same members is the same -/
theorem lt_ext : ∀ {a b : List Int}, a.Pairwise (· < ·) → b.Pairwise (· < ·) → (∀ k, k ∈ a ↔ k ∈ b) → a = b
  | [], [], _, _, _ => rfl
  | [], y :: _, _, _, h => by have := (h y).mpr (by simp); simp at this
  | x :: _, [], _, _, h => by have := (h x).mp (by simp); simp at this
  | x :: a, y :: b, ha, hb, h => by
    obtain ⟨a1, a2⟩ := List.pairwise_cons.mp ha
    obtain ⟨b1, b2⟩ := List.pairwise_cons.mp hb
    have e : x = y := by
      have h1 := (h x).mp (by simp)
      have h2 := (h y).mpr (by simp)
      rcases List.mem_cons.mp h1 with z | z
      · exact z
      · rcases List.mem_cons.mp h2 with z2 | z2
        · exact z2.symm
        · have := b1 x z
          have := a1 y z2
          omega
    subst e
    refine congrArg _ (lt_ext a2 b2 fun k => ?_)
    have hk := h k
    simp only [List.mem_cons] at hk
    constructor
    · intro z
      rcases hk.mp (.inr z) with q | q
      · have := a1 k z; omega
      · exact q
    · intro z
      rcases hk.mpr (.inr z) with q | q
      · have := b1 k z; omega
      · exact q
theorem setR_len {w : World} {h : Heap} {a : Addr} {ns : List Int} {n : Nat} (R : SetR w h a (fun j => decide (j ∈ ns)) n) : n = (usort ns).length := by
  obtain ⟨o, es, ep, t, ho, hex, hd, g, nd, hm, hb, hf, hn, hr, hl⟩ := R
  have p := List.mergeSort_perm (es.toList.map keyOf) (fun a b => decide (a ≤ b))
  have s1 : ((es.toList.map keyOf).mergeSort fun a b => decide (a ≤ b)).Pairwise (fun a b => a ≤ b) := by
    have z := List.pairwise_mergeSort (le := fun (a b : Int) => decide (a ≤ b)) (fun a b c h1 h2 => by simp at *; omega) (fun a b => by simp; omega) (es.toList.map keyOf)
    exact z.imp fun h => by simpa using h
  have s2 := lt_of_le_nodup _ s1 (p.nodup_iff.mpr nd)
  have e := lt_ext s2 (usort_lt ns) fun k => by
    rw [p.mem_iff, ← hm k, mem_usort, decide_eq_true_eq]
  rw [← e, p.length_eq, List.length_map, Array.length_toList, hn]
/-- set(xs), a list of ints -/
def rSetL (K : PySem.W.Frag) (w : World) : List V → Hp → VK → Prop := fun xs H Q => ∃ p ns, xs = [.ref p] ∧ H p = some (.lst (ns.map V.int)) ∧ ns.length ≤ 1000 ∧ ∀ a, H a = none → Q (.ref a) (upd H a (SetO w a (fun j => decide (j ∈ ns)) (usort ns).length))
section
variable {X : Cx}
theorem cr_setL (hc : X.calm = true) : CallR X (.type "set") (rSetL X.K X.w) := by
  intro pins s σ H xs us Q I r h
  obtain ⟨p, ns, rfl, hp, hl, q⟩ := h
  rw [Vals.ref1 r]
  obtain ⟨z, its, n, rv, hl2, e⟩ := I.lstM hp
  refine set_lst (items := its.toArray) ns (I.ok.hd hc) ⟨_, e, rfl, _, rfl⟩ (by simpa using ints_of_vals rv) (by unfold scanBound; omega) fun s2 hs2 => ?_
  obtain ⟨h', tk, c, rfl, R, hcn, k⟩ := hs2
  have ec := setR_len R
  subst ec
  have hn : H s.heap.objs.size = none := I.hok.fresh (Nat.le_refl _)
  exact ⟨.ref _, _, I.laid (t' := tk) k (Nat.le_refl _) (setO_new R), rfl, q _ hn⟩
def rLenS (w : World) : List V → Hp → VK → Prop := fun vs H Q => ∃ (a : Addr) (S : Int → Bool) (n : Nat), vs = [V.ref a] ∧ H a = some (SetO w a S n) ∧ Q (.int n) H
theorem cr_lenS : CallR X (.builtin "len") (rLenS X.w) := by
  intro pins s σ H vs us Q I r h
  obtain ⟨a, S, n, rfl, ha, q⟩ := h
  obtain ⟨o, es, ep, t, ho, hex, hd, g, nd, hm, hb, hf, hn, hr, hl⟩ := setO_get I ha
  rw [Vals.ref1 r]
  refine call_len_set ho hex hd hf (by unfold scanBound at hb; omega) ⟨.int n, H, I.tok _, ⟨_, by rw [hn]⟩, q⟩
end
def intsOf : List D → Option (List Int)
  | [] => some []
  | .int i :: r => (intsOf r).map (i :: ·)
  | _ :: _ => none
theorem ints_dd {K : PySem.W.Frag} {G : Hp} : ∀ {vs : List V} {ds : List D} {ns : List Int}, DdAll K G vs ds → intsOf ds = some ns → vs = ns.map V.int
  | _, [], ys, h, e => by
    cases h
    cases e
    rfl
  | _, d :: ds, ys, h, e => by
    cases h with
    | cons h1 h2 =>
      cases d with
      | int z =>
        obtain ⟨zs, e1, rfl⟩ := Option.map_eq_some_iff.mp (show (intsOf ds).map (z :: ·) = some ys from e)
        cases h1
        rw [ints_dd h2 e1]
        rfl
      | none => cases e
      | bool _ => cases e
      | str _ => cases e
      | list _ => cases e
      | tuple _ => cases e
      | dict _ => cases e
theorem dd_ints {K : PySem.W.Frag} {G : Hp} : ∀ {ns : List Int}, DdAll K G (ns.map V.int) (ns.map PyData.int)
  | [] => .nil
  | _ :: _ => .cons (.int _) dd_ints
/-- sorted(set(xs)), fewer than 64 ints -/
def sortsetO : D → Option Ob
  | .list ds => (intsOf ds).bind fun ns => if ns.length < 64 then some (.ls ((usort ns).map .int)) else none
  | _ => none
def lensetD : D → Option D
  | .list ds => (intsOf ds).bind fun ns => if ns.length ≤ 1000 then some (.int (usort ns).length) else none
  | _ => none
theorem uins_len {k : Int} : ∀ {l : List Int}, (uins k l).length ≤ l.length + 1
  | [] => by simp [uins]
  | x :: l => by
    have ih := uins_len (k := k) (l := l)
    unfold uins
    split
    · simp
    · split
      · simp
      · simp only [List.length_cons]; omega
theorem usort_len : ∀ {ns : List Int}, (usort ns).length ≤ ns.length
  | [] => Nat.le_refl _
  | x :: l => by
    have ih := usort_len (ns := l)
    have := uins_len (k := x) (l := usort l)
    show (uins x (usort l)).length ≤ _
    simp only [List.length_cons]
    omega
section
variable {X : Cx} {cl : Cl} {W : WX} {a : Expr} {A : Opd} {p p2 pos pos2 : Pos}
theorem o_sortset (hc : X.calm = true) (hg : Gl X "sorted") (hm : X.mg "sorted" = none) (hg2 : Gl X "set") (hm2 : X.mg "set" = none) (ha : PE X a (tP X.K cl W A)) (na : starEach [a] X.env = (false, eval a X.env) :: starEach [] X.env := by rfl)
    (nb : starEach [Expr.Call (.Name "set" p2) [a] [] pos2] X.env = (false, eval (.Call (.Name "set" p2) [a] [] pos2) X.env) :: starEach [] X.env := by rfl)
    (hpl : (backTo pos2 (starEach [] X.env)).any (·.1) = false := by rfl) (hpl2 : (backTo pos (starEach [] X.env)).any (·.1) = false := by rfl) :
    PE X (.Call (.Name "sorted" p) [.Call (.Name "set" p2) [a] [] pos2] [] pos) (tO X.K cl W (e1 sortsetO A)) := by
  refine PE.weak (pe_callB (cr_sortedSet hc) hg hm PyProof.Rows.boot_sorted (pa_cons (pe_callTy (cr_setL hc) hg2 hm2 PyProof.Rows.boot_set (pa_cons ha pa_nil na) (by decide) (by decide) na hpl) pa_nil nb) (by decide) (by decide) nb hpl2) ?_
  rintro σ H Q ⟨M, ρ, R, q⟩
  refine tG_bind R q fun v y ρ1 H1 _ g1 R1 q1 p1 => ?_
  refine end_o R1 p1 fun o e k => ?_
  obtain ⟨d1, h1, e⟩ := Option.bind_eq_some_iff.mp e
  have hb := RV0.fin R1 q1 h1
  unfold sortsetO at e
  split at e
  · obtain ⟨ns, e2, e⟩ := Option.bind_eq_some_iff.mp e
    split at e
    · rename_i hl
      cases e
      obtain ⟨l, vs, rfl, hp, hd⟩ := hb.list (rs_sub _ _)
      have ev := ints_dd hd e2
      subst ev
      refine ⟨l, ns, rfl, hp, by omega, fun b hb => ?_⟩
      refine ⟨b, _, _, rfl, upd_same, Nat.lt_of_le_of_lt usort_len hl, fun ms c h2 h3 h4 h5 => ?_⟩
      have em : ms = usort ns := lt_ext h2 (usort_lt ns) fun k => by rw [h3, mem_usort]; simp
      subst em
      have h5' : H1 c = none := by
        by_cases z : c = b
        · subst z; exact hb
        · rw [upd_ne z] at h5; exact h5
      refine k c _ (fun q o e => ?_) h5' ⟨_, upd_same, dd_ints⟩
      rw [upd_ne (ne_of_none e h5'), upd_ne (ne_of_none e hb)]
      exact e
    · cases e
  · cases e
theorem d_lenset (hc : X.calm = true) (hg : Gl X "len") (hm : X.mg "len" = none) (hg2 : Gl X "set") (hm2 : X.mg "set" = none) (ha : PE X a (tP X.K cl W A)) (na : starEach [a] X.env = (false, eval a X.env) :: starEach [] X.env := by rfl)
    (nb : starEach [Expr.Call (.Name "set" p2) [a] [] pos2] X.env = (false, eval (.Call (.Name "set" p2) [a] [] pos2) X.env) :: starEach [] X.env := by rfl)
    (hpl : (backTo pos2 (starEach [] X.env)).any (·.1) = false := by rfl) (hpl2 : (backTo pos (starEach [] X.env)).any (·.1) = false := by rfl) :
    PE X (.Call (.Name "len" p) [.Call (.Name "set" p2) [a] [] pos2] [] pos) (tE X.K cl W (e1 lensetD A)) := by
  refine PE.weak (pe_callB cr_lenS hg hm PySem.boot_len (pa_cons (pe_callTy (cr_setL hc) hg2 hm2 PyProof.Rows.boot_set (pa_cons ha pa_nil na) (by decide) (by decide) na hpl) pa_nil nb) (by decide) (by decide) nb hpl2) ?_
  rintro σ H Q ⟨M, ρ, R, q⟩
  refine tG_bind R q fun v y ρ1 H1 _ g1 R1 q1 p1 => ?_
  refine end_d R1 p1 fun o e k => ?_
  obtain ⟨d1, h1, e⟩ := Option.bind_eq_some_iff.mp e
  have hb := RV0.fin R1 q1 h1
  unfold lensetD at e
  split at e
  · obtain ⟨ns, e2, e⟩ := Option.bind_eq_some_iff.mp e
    split at e
    · rename_i hl
      cases e
      obtain ⟨l, vs, rfl, hp, hd⟩ := hb.list (rs_sub _ _)
      have ev := ints_dd hd e2
      subst ev
      refine ⟨l, ns, rfl, hp, hl, fun b hb => ?_⟩
      refine ⟨b, _, _, rfl, upd_same, ?_⟩
      exact k _ _ (fun q o e => by rw [upd_ne (ne_of_none e hb)]; exact e) (.int _)
    · cases e
  · cases e
end
end DL
end
section
set_option Elab.async false
set_option linter.all false
set_option maxRecDepth 100000
set_option autoImplicit false
namespace DL
open PySem PySem.Spec L2

/-! ### comprehensions of two clauses -/
def lc2Loop (t : Tg) (tt : Ev Bool) (gi1 : Ev (List D)) (t1 : Tg) (tt1 : Ev Bool) (te : Ev D) (vs vs1 : List Nat) : List D → List D → Rho → Res (List D)
  | [], acc, r => .ok acc r
  | d :: ds, acc, r => match t.f d r with
    | none => .no
    | some r1 => (noEr (tt r1)).bind fun b r2 => if b = true then (noEr (gi1 r2)).bind fun ds1 r3 => (apR acc (lcLoop t1 tt1 te vs1 ds1 acc.length (wipeR r3 vs1))).bind fun zs r4 => lc2Loop t tt gi1 t1 tt1 te vs vs1 ds zs (wipeR r4 vs)
      else lc2Loop t tt gi1 t1 tt1 te vs vs1 ds acc (wipeR r2 vs)
def lc2G (gi : Ev (List D)) (t : Tg) (tt : Ev Bool) (gi1 : Ev (List D)) (t1 : Tg) (tt1 : Ev Bool) (te : Ev D) (vs vs1 : List Nat) : Ev Ob := fun ρ => (gi ρ).bind fun ds r => (lc2Loop t tt gi1 t1 tt1 te vs vs1 ds [] (wipeR r vs)).bind fun xs r2 => .ok (.ls xs) r2
abbrev lc2E (gi : Ev (List D)) (t : Tg) (gi1 : Ev (List D)) (t1 : Tg) (te : Ev D) (vs vs1 : List Nat) : Ev Ob := lc2G gi t yesT gi1 t1 yesT te vs vs1
section
variable {K : PySem.W.Frag} {cl : Cl} {W : WX} {gi gi1 : Ev (List D)} {t t1 : Tg} {tt tt1 : Ev Bool} {te : Ev D} {vs vs1 : List Nat} {M : Addr → Prop}
abbrev plusA (M : Addr → Prop) (D : Addr) : Addr → Prop := fun q => M q ∨ q = D
/-- where a loop of a comprehension stands: the base, the slots, the list so far -/
structure LcAt (K : PySem.W.Frag) (M : Addr → Prop) (D : Addr) (vs : List Nat) (σb : St) (ρb : Rho) (Hb : Hp) (σ : St) (ρ : Rho) (H : Hp) (acc : List DL.D) : Prop where
  wp : Wp ρ vs
  go : Go σb ρb Hb σ ρ H
  rel : Rel K (plusA M D) σ H ρ
  at_ : ∃ va, H D = some (.lst va) ∧ DdAll K (rs (Mu (plusA M D) σ ρ) H) va acc
theorem stay_ {σ4 : St} {ρ4 ρ5 : Rho} {H3 H5 : Hp} {D : Addr} {o : HO} (R4 : Rel K (plusA M D) σ4 H3 ρ4) (g5 : Go σ4 ρ4 H3 σ4 ρ5 H5) (e : H3 D = some o) : H5 D = some o :=
  g5.keep D _ e fun z => by
    obtain ⟨k, b, o, z1, z2⟩ := z
    obtain ⟨q, y1, y2, _⟩ := R4.ow k b o z1
    rw [z2] at y1; cases y1
    exact y2 (.inr rfl)
/-- one turn's store -/
theorem lc_store {D : Addr} {σb σ : St} {ρb ρ2 : Rho} {Hb H2 H3 G : Hp} {J : It} {ds : List DL.D} {acc : List DL.D} {i : Nat} {x : V} {d : DL.D} (hw : WalkD K J G ds) (sm : Same G (rs (Mu (plusA M D) σ ρ2) H2)) (L : LcAt K M D vs σb ρb Hb σ ρ2 H2 acc) (ed : ds[i]? = some d) (y : J.yld i H2 x H3) :
    J.go i H2 ∧ (J.yld i H2 x H3 → Rel K (plusA M D) (wipe σ vs) H3 ρ2 ∧ Same H2 H3 ∧ Dd K (rs (Mu (plusA M D) (wipe σ vs) ρ2) H3) x d) := by
  obtain ⟨w2, g2, R2, va, hacc, dacc⟩ := L
  obtain ⟨go, yl⟩ := hw.go i d H2 ed fun q o e => rs_sub _ _ _ _ (sm q o e)
  refine ⟨go, fun y => ?_⟩
  obtain ⟨s3, hx⟩ := yl x H3 y
  have a0 := Alk.wipe σ vs
  refine ⟨rel_alk a0.symm w2 (R2.ext s3), s3, ?_⟩
  rw [mu_alk a0 w2]
  refine dd_mono (fun q o e => ?_) _ _ hx
  refine R2.ex_le s3 q o ?_
  unfold Ex at e ⊢
  cases z : H2 q with
  | none => rw [z] at e; exact e
  | some u => rw [z] at e; exact sm q o e
/-- the loop, whatever waits behind it -/
theorem lc_run (hts : ∀ j, j ∈ t.ss → j ∈ vs) {D : Addr} {σb σ : St} {ρb ρ : Rho} {Hb H : Hp} {J : It} {ds acc : List DL.D} (hb : Hb D = none) (Lk : Res (List DL.D) → Prop) (hn : ¬ Lk .no) (Nx : Hp → Prop)
    (hw : WalkD K J (rs (Mu (plusA M D) σ ρ) H) ds) (L : LcAt K M D vs σb ρb Hb σ ρ H acc) (hL : Lk (apR acc (lcLoop t tt te vs ds acc.length ρ)))
    (fin : ∀ ρ' H' acc', LcAt K M D vs σb ρb Hb σ ρ' H' acc' → Same (rs (Mu (plusA M D) σ ρ) H) (rs (Mu (plusA M D) σ ρ') H') → Lk (.ok acc' ρ') → Nx H') :
    ∃ Wn : Nat → Nat → Hp → Prop, (∃ m, Wn 0 m H) ∧ ∀ i m H, Wn i m H → (J.stop i H ∧ Nx H) ∨ (J.go i H ∧ ∃ Nx1 : Hp → Prop, (∀ H', Nx1 H' → ∃ m', m' < m ∧ Wn (i + 1) m' H') ∧ ∀ x H', J.yld i H x H' → gD K t x (wipe σ vs) H' fun σ2 H2 => wipe σ2 vs = wipe σ vs ∧ tT K cl W0 tt σ2 H2 fun b H3 =>
      if b = true then tE K cl W0 te σ2 H3 fun y H7 => ∃ acc, H7 D = some (.lst acc) ∧ acc.length < sizeLine ∧ Nx1 (upd H7 D (.lst (acc ++ [y]))) else Nx1 H3) := by
  have nb : ∀ {p o}, Hb p = some o → p ≠ D := fun {p o} e z => by rw [z, hb] at e; cases e
  refine ⟨fun i m H' => m = ds.length - i ∧ i ≤ ds.length ∧ ∃ ρ' acc', LcAt K M D vs σb ρb Hb σ ρ' H' acc' ∧ Same (rs (Mu (plusA M D) σ ρ) H) (rs (Mu (plusA M D) σ ρ') H') ∧ Lk (apR acc' (lcLoop t tt te vs (ds.drop i) acc'.length ρ')), ⟨ds.length, by simp, Nat.zero_le _, ρ, acc, L, Same.refl _, by simpa using hL⟩, ?_⟩
  rintro i m H2 ⟨rfl, hi, ρ2, acc2, L2, sm, eL⟩
  by_cases hlt : i < ds.length
  · have ed : ds[i]? = some ds[i] := List.getElem?_eq_getElem hlt
    rw [List.drop_eq_getElem_cons hlt] at eL
    refine .inr ⟨(hw.go i ds[i] H2 ed fun q o e => rs_sub _ _ _ _ (sm q o e)).1, fun H' => ∃ ρ' acc', LcAt K M D vs σb ρb Hb σ ρ' H' acc' ∧ Same (rs (Mu (plusA M D) σ ρ) H) (rs (Mu (plusA M D) σ ρ') H') ∧ Lk (apR acc' (lcLoop t tt te vs (ds.drop (i + 1)) acc'.length ρ')), fun H' z => ⟨ds.length - (i + 1), by omega, rfl, hlt, z⟩, fun x H3 y => ?_⟩
    obtain ⟨R3, s3, hx⟩ := (lc_store hw sm L2 ed y).2 y
    obtain ⟨w2, g2, R2, va, hacc, dacc⟩ := L2
    have a0 := Alk.wipe σ vs
    have g3 : Go σ ρ2 H2 σ ρ2 H3 := Go.ext R2 s3
    unfold lcLoop at eL
    cases et : t.f ds[i] ρ2 with
    | none => rw [et] at eL; exact (hn eL).elim
    | some ρ4 =>
      rw [et] at eL
      refine ⟨_, ρ2, ds[i], ρ4, R3, hx, et, fun σ4 g4 R4 h4 l4 => ?_⟩
      have a4 : Alk vs (wipe σ vs) σ4 := ⟨l4, fun j hj => h4 j fun z => hj (hts j z)⟩
      have a5 : Alk vs σ σ4 := a0.trans a4
      have T4 : Go σ ρ2 H2 σ4 ρ4 H3 := g3.trans (go_in a0 w2 g4 a5)
      refine ⟨by rw [wipe_eq a4.1 a4.2]; exact wipe_eq (wipe_length σ vs) fun j hj => wipe_ne hj, _, ρ4, R4, ?_⟩
      dsimp only at eL
      cases ett : tt ρ4 with
      | er c r => rw [ett] at eL; exact (hn eL).elim
      | no => rw [ett] at eL; exact (hn eL).elim
      | ok b ρ5 =>
        rw [ett] at eL
        intro b' H5 g5 R5 eb
        have eb : b' = b := eb
        subst eb
        have e5 : H5 D = some (.lst va) := stay_ R4 g5 (s3 _ _ hacc)
        have T5 := T4.trans g5
        cases b' with
        | false =>
          rw [if_neg (by decide)]
          have z := (go_out T5 a5).same (M := plusA M D)
          exact ⟨wipeR ρ5 vs, acc2, ⟨wp_wipe _ _, g2.trans (go_out T5 a5), rel_alk a5 (wp_wipe _ _) (rel_wipe R5), va, e5, ddAll_mono z _ _ dacc⟩, fun q o e => z q o (sm q o e), eL⟩
        | true =>
          rw [if_pos rfl]
          refine ⟨_, ρ5, R5, ?_⟩
          have eL : Lk (apR acc2 ((noEr (te ρ5)).bind fun x r3 => if acc2.length < 16777216 then (lcLoop t tt te vs (ds.drop (i + 1)) (acc2.length + 1) (wipeR r3 vs)).bind fun xs r4 => .ok (x :: xs) r4 else .no)) := eL
          cases ete : te ρ5 with
          | er c r => rw [ete] at eL; exact (hn eL).elim
          | no => rw [ete] at eL; exact (hn eL).elim
          | ok yd ρ6 =>
            rw [ete] at eL
            intro yv H6 g6 R6 hy
            have hy : Dd K (rs (Mu (plusA M D) σ4 ρ6) H6) yv yd := hy
            have e6 : H6 D = some (.lst va) := stay_ R5 g6 e5
            have hln := DdAll.length dacc
            have eL : Lk (apR acc2 (if acc2.length < 16777216 then (lcLoop t tt te vs (ds.drop (i + 1)) (acc2.length + 1) (wipeR ρ6 vs)).bind fun xs r4 => .ok (yd :: xs) r4 else .no)) := eL
            by_cases hlen : acc2.length < 16777216
            · rw [if_pos hlen, apR_cons] at eL
              have T6 := T5.trans g6
              have R7 : Rel K (plusA M D) σ H6 (wipeR ρ6 vs) := rel_alk a5 (wp_wipe _ _) (rel_wipe R6)
              obtain ⟨R8, er⟩ := rel_upd (o := .lst (va ++ [yv])) R7 (.inr rfl)
              have z := (go_out T6 a5).same (M := plusA M D)
              have zg := g2.trans (go_out T6 a5)
              refine ⟨va, e6, by rw [line_, hln]; exact hlen, wipeR ρ6 vs, acc2 ++ [yd], ⟨wp_wipe _ _, ⟨fun q o e n => ?_, zg.own, zg.io, fun q o e => ?_⟩, R8, va ++ [yv], upd_same, ?_⟩, ?_, by rw [List.length_append]; exact eL⟩
              · rw [upd_ne (nb e)]; exact zg.keep q o e n
              · rw [upd_ne (nb e)]; exact zg.live q o e
              · rw [er]
                refine DdAll.append (ddAll_mono z _ _ dacc) (.cons (dd_mono (fun q u e => ?_) _ _ hy) .nil)
                obtain ⟨z1, z2⟩ := rs_of e
                refine rs_mk z1 fun z => z2 ?_
                rcases z with z | ⟨k, b, o, y1, y2⟩
                · exact .inl z
                · obtain ⟨y3, y4⟩ := wipeR_at (by intro z; cases z) y1
                  exact .inr ⟨k, b, o, y3, by rw [a5.2 k y4]; exact y2⟩
              · rw [er]
                exact fun q o e => z q o (sm q o e)
            · rw [if_neg hlen] at eL
              exact (hn eL).elim
  · have ei : i = ds.length := by omega
    subst ei
    rw [List.drop_length] at eL
    have eL : Lk (.ok acc2 ρ2) := by simpa [lcLoop, apR] using eL
    exact .inl ⟨hw.stop H2 fun q o e => rs_sub _ _ _ _ (sm q o e), fin ρ2 H2 acc2 L2 sm eL⟩

theorem WalkD.mono {J : It} {G G' : Hp} {ds : List DL.D} (s : Same G G') (h : WalkD K J G ds) : WalkD K J G' ds := by
  refine ⟨fun H s1 => h.stop H fun p o e => s1 p o (s p o e), fun i d H e s1 => ?_⟩
  obtain ⟨h1, h2⟩ := h.go i d H e fun p o e => s1 p o (s p o e)
  refine ⟨h1, fun x H' y => ?_⟩
  obtain ⟨h3, h4⟩ := h2 x H' y
  refine ⟨h3, dd_mono (fun p o e => ?_) _ _ h4⟩
  unfold Ex at e ⊢
  cases z : H p with
  | none => rw [z] at e; exact e
  | some u => rw [z] at e; exact s p o e
theorem out_same {M : Addr → Prop} {σ σ4 : St} {ρ6 : Rho} {H6 : Hp} (a5 : Alk vs σ σ4) : Same (rs (Mu M σ4 ρ6) H6) (rs (Mu M σ (wipeR ρ6 vs)) H6) := fun q u e => by
  obtain ⟨z1, z2⟩ := rs_of e
  refine rs_mk z1 fun z => z2 ?_
  rcases z with z | ⟨k, b, o, y1, y2⟩
  · exact .inl z
  · obtain ⟨y3, y4⟩ := wipeR_at (by intro z; cases z) y1
    exact .inr ⟨k, b, o, y3, by rw [a5.2 k y4]; exact y2⟩
theorem lc2_w (hts : ∀ j, j ∈ t.ss → j ∈ vs) (hts1 : ∀ j, j ∈ t1.ss → j ∈ vs1) (σ : St) (H : Hp) (Q : VK) (h : tO K cl W (lc2G gi t tt gi1 t1 tt1 te vs vs1) σ H Q) :
    tLc2 (tI K cl W gi) (gD K t) (tT K cl W0 tt) (tI K cl W0 gi1) (gD K t1) (tT K cl W0 tt1) (tE K cl W0 te) vs vs1 σ H Q := by
  obtain ⟨M, ρ, R, p⟩ := h
  refine tG_bind R p fun J ds ρ1 H1 _ g1 R1 q1 p1 => ?_
  intro D hD
  have q1 : WalkD K J (rs (Mu M σ ρ1) H1) ds := q1
  have nM : ¬ M D := fun z => by obtain ⟨o, e⟩ := R1.live D z; rw [hD] at e; cases e
  generalize hL : lc2Loop t tt gi1 t1 tt1 te vs vs1 ds [] (wipeR ρ1 vs) = LL at p1
  have hno : LL ≠ .no := fun z => by rw [z] at p1; exact p1.elim
  have s0 : Same H1 (upd H1 D (.lst [])) := fun q o e => by rw [upd_ne (ne_of_none e hD)]; exact e
  have L0 : LcAt K M D vs σ ρ1 H1 σ (wipeR ρ1 vs) (upd H1 D (.lst [])) [] := ⟨wp_wipe _ _, (go_wipe (vs := vs)).trans (Go.ext (rel_wipe R1) s0), (rel_wipe R1).plus (o := .ls []) s0 hD ⟨_, upd_same⟩, [], upd_same, .nil⟩
  have sw : Same (rs (Mu M σ ρ1) H1) (rs (Mu (plusA M D) σ (wipeR ρ1 vs)) (upd H1 D (.lst []))) := fun q o e => by
    have e2 := L0.go.same (M := M) q o e
    obtain ⟨z1, z2⟩ := rs_of e2
    refine rs_mk z1 fun z => ?_
    rcases z with (z | z) | z
    · exact z2 (.inl z)
    · obtain ⟨y1, _⟩ := rs_of e
      rw [z, hD] at y1; cases y1
    · exact z2 (.inr z)
  have hw := q1.mono sw
  refine ⟨fun i m H' => m = ds.length - i ∧ i ≤ ds.length ∧ ∃ ρ' acc', LcAt K M D vs σ ρ1 H1 σ ρ' H' acc' ∧ Same (rs (Mu (plusA M D) σ (wipeR ρ1 vs)) (upd H1 D (.lst []))) (rs (Mu (plusA M D) σ ρ') H') ∧ LL = lc2Loop t tt gi1 t1 tt1 te vs vs1 (ds.drop i) acc' ρ', ⟨ds.length, by simp, Nat.zero_le _, _, [], L0, Same.refl _, by rw [List.drop_zero]; exact hL.symm⟩, ?_⟩
  rintro i m H2 ⟨rfl, hi, ρ2, acc2, L2, sm, eL⟩
  by_cases hlt : i < ds.length
  · have ed : ds[i]? = some ds[i] := List.getElem?_eq_getElem hlt
    rw [List.drop_eq_getElem_cons hlt] at eL
    refine .inr ⟨(hw.go i ds[i] H2 ed fun q o e => rs_sub _ _ _ _ (sm q o e)).1, fun H' => ∃ ρ' acc', LcAt K M D vs σ ρ1 H1 σ ρ' H' acc' ∧ Same (rs (Mu (plusA M D) σ (wipeR ρ1 vs)) (upd H1 D (.lst []))) (rs (Mu (plusA M D) σ ρ') H') ∧ LL = lc2Loop t tt gi1 t1 tt1 te vs vs1 (ds.drop (i + 1)) acc' ρ', fun H' z => ⟨ds.length - (i + 1), by omega, rfl, hlt, z⟩, fun x H3 y => ?_⟩
    obtain ⟨R3, s3, hx⟩ := (lc_store hw sm L2 ed y).2 y
    obtain ⟨w2, g2, R2, va, hacc, dacc⟩ := L2
    have a0 := Alk.wipe σ vs
    have g3 : Go σ ρ2 H2 σ ρ2 H3 := Go.ext R2 s3
    unfold lc2Loop at eL
    cases et : t.f ds[i] ρ2 with
    | none => rw [et] at eL; exact (hno eL).elim
    | some ρ4 =>
      rw [et] at eL
      refine ⟨_, ρ2, ds[i], ρ4, R3, hx, et, fun σ4 g4 R4 h4 l4 => ?_⟩
      have a4 : Alk vs (wipe σ vs) σ4 := ⟨l4, fun j hj => h4 j fun z => hj (hts j z)⟩
      have a5 : Alk vs σ σ4 := a0.trans a4
      have T4 : Go σ ρ2 H2 σ4 ρ4 H3 := g3.trans (go_in a0 w2 g4 a5)
      refine ⟨by rw [wipe_eq a4.1 a4.2]; exact wipe_eq (wipe_length σ vs) fun j hj => wipe_ne hj, _, ρ4, R4, ?_⟩
      dsimp only at eL
      cases ett : tt ρ4 with
      | er c r => rw [ett] at eL; exact (hno eL).elim
      | no => rw [ett] at eL; exact (hno eL).elim
      | ok b ρ5 =>
        rw [ett] at eL
        intro b' H5 g5 R5 eb
        have eb : b' = b := eb
        subst eb
        have e5 : H5 D = some (.lst va) := stay_ R4 g5 (s3 _ _ hacc)
        have T5 := T4.trans g5
        cases b' with
        | false =>
          rw [if_neg (by decide)]
          have z := (go_out T5 a5).same (M := plusA M D)
          exact ⟨wipeR ρ5 vs, acc2, ⟨wp_wipe _ _, g2.trans (go_out T5 a5), rel_alk a5 (wp_wipe _ _) (rel_wipe R5), va, e5, ddAll_mono z _ _ dacc⟩, fun q o e => z q o (sm q o e), eL⟩
        | true =>
          rw [if_pos rfl]
          refine ⟨_, ρ5, R5, ?_⟩
          have eL : LL = (noEr (gi1 ρ5)).bind fun ds1 r3 => (apR acc2 (lcLoop t1 tt1 te vs1 ds1 acc2.length (wipeR r3 vs1))).bind fun zs r4 => lc2Loop t tt gi1 t1 tt1 te vs vs1 (ds.drop (i + 1)) zs (wipeR r4 vs) := eL
          cases eg : gi1 ρ5 with
          | er c r => rw [eg] at eL; exact (hno eL).elim
          | no => rw [eg] at eL; exact (hno eL).elim
          | ok ds1 ρ6 =>
            rw [eg] at eL
            intro J1 H6 g6 R6 hj
            have hj : WalkD K J1 (rs (Mu (plusA M D) σ4 ρ6) H6) ds1 := hj
            have e6 : H6 D = some (.lst va) := stay_ R5 g6 e5
            have T6 := T5.trans g6
            have gw : Go σ4 ρ6 H6 σ4 (wipeR ρ6 vs1) H6 := go_wipe
            have T7 := T6.trans gw
            have z7 := T7.same (M := plusA M D)
            refine lc_run hts1 hD (fun x => LL = x.bind fun zs r4 => lc2Loop t tt gi1 t1 tt1 te vs vs1 (ds.drop (i + 1)) zs (wipeR r4 vs)) (fun z => hno z) _ (hj.mono gw.same) ⟨wp_wipe _ _, g2.trans T7, rel_wipe R6, va, e6, ddAll_mono z7 _ _ dacc⟩ eL fun ρ' H' acc' L' sm' eL' => ?_
            obtain ⟨_, g8, R8, vb, hb8, db8⟩ := L'
            have o8 := out_same (M := plusA M D) (ρ6 := ρ') (H6 := H') a5
            exact ⟨wipeR ρ' vs, acc', ⟨wp_wipe _ _, go_out g8 a5, rel_alk a5 (wp_wipe _ _) (rel_wipe R8), vb, hb8, ddAll_mono o8 _ _ db8⟩, fun q o e => o8 q o (sm' q o (z7 q o (sm q o e))), eL'⟩
  · have ei : i = ds.length := by omega
    subst ei
    rw [List.drop_length] at eL
    have eL : LL = .ok acc2 ρ2 := eL
    rw [eL] at p1
    obtain ⟨w2, g2, R2, va, hacc, dacc⟩ := L2
    refine .inl ⟨hw.stop H2 fun q o e => rs_sub _ _ _ _ (sm q o e), p1 _ H2 g2 ?_ ⟨D, rfl, hD, fun z => ?_, R2, va, hacc, dacc⟩⟩
    · exact R2.weak fun _ z => .inl z
    · rcases z with z | ⟨k, b, o, z1, z2⟩
      · exact nM z
      · obtain ⟨q, y1, y2, _⟩ := R2.ow k b o z1
        rw [z2] at y1; cases y1
        exact y2 (.inr rfl)
end
section
variable {X : Cx} {cl : Cl} {W : WX} {elt tg iter tg1 iter1 : Expr} {ifs ifs1 : List Expr} {scope : Scope} {own : List (Str × Nat)} {vs vs1 : List Nat} {pos : Pos} {gi gi1 : Ev (List D)} {t t1 : Tg} {te : Ev D}
theorem o_lc2 (hc : X.calm = true) (hN : X.N.Nodup) (hi : PI X tg iter (tI X.K cl W gi)) (ok : BlkOk X.N X.env.scope scope own) (hv : ∀ i ∈ vs1, i ∈ own.map (·.2))
    (hg : ∀ (s : Shared) (H : Hp) (C : Addr) (ce : List (Str × Addr)) (fp : List Addr), PG (X.blk s H scope (compEnvC scope ce C X.env) fp) tg (gD X.K t))
    (hi1 : ∀ (s : Shared) (H : Hp) (C : Addr) (ce : List (Str × Addr)) (fp : List Addr), PI (X.blk s H scope (compEnvC scope ce C X.env) fp) tg1 iter1 (tI X.K cl W0 gi1))
    (hg1 : ∀ (s : Shared) (H : Hp) (C : Addr) (ce : List (Str × Addr)) (fp : List Addr), PG (X.blk s H scope (compEnvC scope ce C X.env) fp) tg1 (gD X.K t1))
    (he : ∀ (s : Shared) (H : Hp) (C : Addr) (ce : List (Str × Addr)) (fp : List Addr), PE (X.blk s H scope (compEnvC scope ce C X.env) fp) elt (tE X.K cl W0 te))
    (hvs : own.map (·.2) = vs := by rfl) (hts : ∀ j, j ∈ t.ss → j ∈ own.map (·.2) := by decide) (hts1 : ∀ j, j ∈ t1.ss → j ∈ vs1 := by decide)
    (hs : ∀ x, foldedSetIterable iter X.env x = pure x := by intro _; rfl) (hs1 : ∀ env x, foldedSetIterable iter1 env x = pure x := by intro _ _; rfl) :
    PE X (.ListComp elt [⟨tg, iter, [], 0⟩, ⟨tg1, iter1, [], 0⟩] scope pos) (tO X.K cl W (lc2E gi t gi1 t1 te vs vs1)) := by
  subst hvs
  exact PE.weak (pe_lc2 hc hN hi ok hv hg (fun _ _ _ _ _ => c_nil) hi1 hg1 (fun _ _ _ _ _ => c_nil) he hs hs1) (lc2_w hts hts1)
theorem s_setLc2 {i : Nat} {y : Str} {py spos : Pos} (hc : X.calm = true) (hN : X.N.Nodup) (hy : X.N[i]? = some y) (hyl : X.env.scope.names.lookup y = some .local)
    (hsw : swapsWith (.ListComp elt [⟨tg, iter, [], 0⟩, ⟨tg1, iter1, [], 0⟩] scope pos) (some (.Name y py)) spos.line X.env = pure true) (hi : PI X tg iter (tI X.K cl W gi)) (ok : BlkOk X.N X.env.scope scope own) (hv : ∀ i ∈ vs1, i ∈ own.map (·.2))
    (hg : ∀ (s : Shared) (H : Hp) (C : Addr) (ce : List (Str × Addr)) (fp : List Addr), PG (X.blk s H scope (compEnvC scope ce C X.env) fp) tg (gD X.K t))
    (hi1 : ∀ (s : Shared) (H : Hp) (C : Addr) (ce : List (Str × Addr)) (fp : List Addr), PI (X.blk s H scope (compEnvC scope ce C X.env) fp) tg1 iter1 (tI X.K cl W0 gi1))
    (hg1 : ∀ (s : Shared) (H : Hp) (C : Addr) (ce : List (Str × Addr)) (fp : List Addr), PG (X.blk s H scope (compEnvC scope ce C X.env) fp) tg1 (gD X.K t1))
    (he : ∀ (s : Shared) (H : Hp) (C : Addr) (ce : List (Str × Addr)) (fp : List Addr), PE (X.blk s H scope (compEnvC scope ce C X.env) fp) elt (tE X.K cl W0 te))
    (hvs : own.map (·.2) = vs := by rfl) (hts : ∀ j, j ∈ t.ss → j ∈ own.map (·.2) := by decide) (hts1 : ∀ j, j ∈ t1.ss → j ∈ vs1 := by decide)
    (hs : ∀ x, foldedSetIterable iter X.env x = pure x := by intro _; rfl) (hs1 : ∀ env x, foldedSetIterable iter1 env x = pure x := by intro _ _; rfl) :
    PS X (.Assign [.Name y py] (.ListComp elt [⟨tg, iter, [], 0⟩, ⟨tg1, iter1, [], 0⟩] scope pos) spos) (tS X.K cl W (setO i (lc2E gi t gi1 t1 te vs vs1))) := by
  subst hvs
  exact PS.weak (ps_setLc2 hc hN hy hyl hsw hi ok hv hg (fun _ _ _ _ _ => c_nil) hi1 hg1 (fun _ _ _ _ _ => c_nil) he hs hs1) fun E σ H h => lc2_w hts hts1 σ H _ (setO_w E σ H h)
end
end DL
end
section
set_option Elab.async false
set_option linter.all false
set_option maxRecDepth 100000
set_option autoImplicit false
namespace DL
open PySem PySem.Spec PyProof.Rows L2

/-! ### comparisons of ints -/
abbrev ltI (i j : Int) : Bool := decide (i < j)
abbrev leI (i j : Int) : Bool := decide (i ≤ j)
abbrev gtI (i j : Int) : Bool := decide (i > j)
abbrev geI (i j : Int) : Bool := decide (i ≥ j)

/-! ### enumerate -/
def Ites (x : Str) : It := ⟨fun i _ => i < x.cps.size, fun i H v H' => ∃ T c, v = .ref T ∧ H T = none ∧ H' = upd H T (.tup [.int (i : Nat), .str ⟨#[c]⟩]) ∧ x.cps[i]? = some c, fun i _ => i = x.cps.size⟩
theorem turn_enumS {P : Program} {w : World} {K : PySem.W.Frag} {elts : List Expr} {kk : Nat} {tpos : Pos} (e it : Addr) (x : Str) (t : Tok) (ty : String) (hty : ty = "str_ascii_iterator" ∨ ty = "str_iterator") :
    Turn P w K (.Tuple elts kk tpos) (Ites x) [e, it] e (fun i h => (∃ old, IsEnum h e it ((i : Nat) : Int) old) ∧ h.IsStrIter it ty x t i ∧ e ≠ it) where
  mem := by simp
  obj := fun i h st b hb => by
    obtain ⟨⟨old, he⟩, ⟨o, ho, hc, hd⟩, _⟩ := st
    rcases List.mem_cons.mp hb with z | z
    · rw [z]; exact ⟨_, he, fun v q => nomatch q⟩
    · rw [List.mem_singleton.mp z]; exact ⟨o, ho, fun v q => by rw [hd] at q; cases q⟩
  keep := fun i h h' st k => let ⟨⟨old, he⟩, ⟨o, ho, r⟩, hne⟩ := st; ⟨⟨old, k e (by simp) _ he⟩, ⟨o, k it (by simp) o ho, r⟩, hne⟩
  item := by
    intro X hP hw hK hc i pins s σ H E I hf st hg
    subst hP hw hK
    obtain ⟨⟨old, he⟩, hit, hne⟩ := st
    have hel : e < s.heap.objs.size := Heap.lt_size he
    have hil : it < s.heap.objs.size := by obtain ⟨_, q, _⟩ := hit; exact Heap.lt_size q
    have hh : X.A.in1.handled = none := by
      have := I.ok.hd hc
      simpa using this
    have D : Draws X.prog X.w X.A.in1 it [it] x.cps.size (fun i v => ∃ c u, x.cps[i]? = some c ∧ v = .str ⟨#[c]⟩ u) (fun i h => h.IsStrIter it ty x t i) := by
      rcases hty with z | z
      · subst z; exact Draws.strAscii hh it x t
      · subst z; exact Draws.strWide hh it x t
    refine wpAny_pyNext_enum_itemD D he hit hg hne (by simpa using hne) fun v h' tk hv ho hit' hT hsz hk => ?_
    obtain ⟨c, u, hcx, rfl⟩ := hv
    refine ⟨_, rfl, wpAny_letOwnedTupleGo_enum (s := { s with heap := h', toks := tk + 1 }) ho fun h'' he' sb => ?_⟩
    have hT2 : h''.get? s.heap.objs.size = some { cls := .type "tuple", data := .seq #[.int i tk, .str ⟨#[c]⟩ u] } := (sb.2 _ (Nat.ne_of_gt hel)).trans hT
    have new : ObjOk X.prog X.w (upd H s.heap.objs.size (.tup [.int (i : Nat), .str ⟨#[c]⟩])) h'' s.heap.objs.size (.tup [.int (i : Nat), .str ⟨#[c]⟩]) :=
      ⟨by show 2 ≤ sizeLine; decide, [.int i tk, .str ⟨#[c]⟩ u], .cons ⟨_, rfl⟩ (.cons ⟨_, rfl⟩ .nil), ⟨_, hT2, rfl, _, rfl⟩⟩
    have I1 : Inv X pins σ (upd H s.heap.objs.size (.tup [.int (i : Nat), .str ⟨#[c]⟩])) { s with heap := h'', toks := tk + 1 } :=
      I.turnedNew (ch := [e, it]) (fun b ob hb q => (sb.2 b (fun z => hb (by simp [z]))).trans (hk b ob (fun z => hb (by simp [z])) (fun z => hb (by simp [z])) q)) hf (Nat.le_refl _) new
    refine ⟨.ref s.heap.objs.size, _, I1, rfl, ⟨_, c, rfl, I.hok.fresh (Nat.le_refl _), rfl, hcx⟩, ⟨⟨_, he'⟩, ?_, hne⟩, fun b hb => ?_⟩
    · obtain ⟨o, q, r⟩ := hit'
      exact ⟨o, (sb.2 it (Ne.symm hne)).trans q, r⟩
    · have hb' : b < s.heap.objs.size := by
        rcases List.mem_cons.mp hb with z | z
        · rw [z]; exact hel
        · rw [List.mem_singleton.mp z]; exact hil
      rw [upd_ne (Nat.ne_of_lt hb')]
      exact (hf b hb).1
  done := by
    intro X hP hw hK hc i pins s σ H E I hf st hg
    subst hP hw hK
    obtain ⟨⟨old, he⟩, hit, hne⟩ := st
    obtain ⟨f0, f1, f2, f3, f4, f5⟩ := hf it (by simp)
    have hg : i = x.cps.size := hg
    have hh : X.A.in1.handled = none := by
      have := I.ok.hd hc
      simpa using this
    have D : Draws X.prog X.w X.A.in1 it [it] x.cps.size (fun i v => ∃ c u, x.cps[i]? = some c ∧ v = .str ⟨#[c]⟩ u) (fun i h => h.IsStrIter it ty x t i) := by
      rcases hty with z | z
      · subst z; exact Draws.strAscii hh it x t
      · subst z; exact Draws.strWide hh it x t
    subst hg
    exact wpAny_pyNext_enum_endD D he hit fun h' eb => ⟨rfl, I.turned (t' := s.toks) (fun b o hb q => eb b o hb q) f0 f1 f3 f4 f5⟩
  self := fun A i s Q E st h => let ⟨⟨_, he⟩, _⟩ := st; wpAny_pyIter_enum he h
def iEnumA (K : PySem.W.Frag) (te : TE) : TI := fun σ H R => te σ H fun v H1 => (∃ a xs, v = .ref a ∧ SqL K H1 a xs ∧ R (Ite K a) H1) ∨ ∃ x, v = .str x ∧ R (Ites x) H1
theorem pi_enumA {X : Cx} {e : Expr} {te : TE} {p pos tpos : Pos} {elts : List Expr} {kk : Nat} (hg : Gl X "enumerate") (hm : X.mg "enumerate" = none) (ha : PE X e te) (hs : starEach [e] X.env = (false, eval e X.env) :: starEach [] X.env := by rfl) :
    PI X (.Tuple elts kk tpos) (.Call (.Name "enumerate" p) [e] [] pos) (iEnumA X.K te) := by
  refine ⟨fun pins s σ H R I h => ?_⟩
  refine Call_ (ld_blt I hg hm boot_enumerate (PyProof.Rows.callWith_type1 (PyProof.Rows.args_cons (thn (ha.run pins s σ H _ I h) fun u s1 ⟨v, H1, I1, r1, q1⟩ => PyProof.Rows.args_nil ?_) hs) hs rfl))
  have two : ∀ {b : Addr}, b ∈ [s1.heap.objs.size + 1, s1.heap.objs.size] → s1.heap.objs.size ≤ b := fun {b} hb => by
    rcases List.mem_cons.mp hb with z | z
    · rw [z]; exact Nat.le_add_right _ _
    · rw [List.mem_singleton.mp z]; exact Nat.le_refl _
  rcases q1 with ⟨a, xs, rfl, hq, q⟩ | ⟨x, rfl, q⟩
  · cases r1
    obtain ⟨its, rv, p', hz⟩ := I1.list hq
    refine call_enumerate_list p'.isList fun h' he hit hsz hk => wpAny_pyIter_enum he ?_
    exact ⟨s1.heap.objs.size + 1, [s1.heap.objs.size + 1, s1.heap.objs.size], _, _, H1, rfl, I1.kept (t' := s1.toks) hk, turn_enum a _ _, ⟨⟨.none, he⟩, hit, Nat.succ_ne_self _⟩, fun b hb => I1.fpOk (two hb) (I1.hok.fresh (two hb)), q⟩
  · obtain ⟨t, rfl⟩ := r1
    refine call_enumerate_str fun h' he hit hsz hk => wpAny_pyIter_enum he ?_
    refine ⟨s1.heap.objs.size + 1, [s1.heap.objs.size + 1, s1.heap.objs.size], _, _, H1, rfl, I1.kept (t' := s1.toks) hk, turn_enumS _ _ x t (strIterType x) ?_, ⟨⟨.none, he⟩, hit, Nat.succ_ne_self _⟩, fun b hb => I1.fpOk (two hb) (I1.hok.fresh (two hb)), q⟩
    unfold strIterType
    split
    · exact .inl rfl
    · exact .inr rfl
def numD : Nat → List D → List D
  | _, [] => []
  | i, d :: ds => .tuple [.int (i : Nat), d] :: numD (i + 1) ds
theorem numD_len : ∀ (i : Nat) (ds : List D), (numD i ds).length = ds.length
  | _, [] => rfl
  | i, d :: ds => by simp [numD, numD_len (i + 1) ds]
theorem numD_get : ∀ (i : Nat) (ds : List D) (j : Nat) (d : D), (numD i ds)[j]? = some d → ∃ x, ds[j]? = some x ∧ d = .tuple [.int ((i + j : Nat) : Int), x]
  | _, [], _, _, h => by simp [numD] at h
  | i, x :: ds, 0, d, h => by simp [numD] at h; exact ⟨x, rfl, by simp [h]⟩
  | i, x :: ds, j + 1, d, h => by
    obtain ⟨y, h1, h2⟩ := numD_get (i + 1) ds j d (by simpa [numD] using h)
    exact ⟨y, by simpa using h1, by rw [h2]; congr 3; congr 1; omega⟩
def enD : D → Option (List D)
  | .list xs => some (numD 0 xs)
  | .str z => some (numD 0 (z.cps.toList.map fun c => .str ⟨#[c]⟩))
  | _ => none
def eEn (g : Ev D) : Ev (List D) := fun ρ => (g ρ).bind fun d r => ofO (enD d) r
section
variable {X : Cx} {cl : Cl} {W : WX} {e : Expr} {p pos tpos : Pos} {elts : List Expr} {kk : Nat}
theorem i_enum {g : Ev D} (hg : Gl X "enumerate") (hm : X.mg "enumerate" = none) (ha : PE X e (tE X.K cl W g)) (hs : starEach [e] X.env = (false, eval e X.env) :: starEach [] X.env := by rfl) : PI X (.Tuple elts kk tpos) (.Call (.Name "enumerate" p) [e] [] pos) (tI X.K cl W (eEn g)) := by
  refine PI.weak (pi_enumA hg hm ha hs) ?_
  rintro σ H Q ⟨M, ρ, R, q⟩
  refine tG_bind R q fun v d ρ1 H1 _ g1 R1 q1 p1 => ?_
  have pr : ∀ {G H H' : Hp} {T : Addr} {i : Nat} {u : V} {x : D}, Same G H → H T = none → H' = upd H T (.tup [.int (i : Nat), u]) → Dd X.K G u x → Same H H' ∧ Dd X.K (Ex G H H') (.ref T) (.tuple [.int (i : Nat), x]) := fun {G H H' T i u x} s n e h => by
    subst e
    exact ⟨fun b o z => by rw [upd_ne (ne_of_none z n)]; exact z, .tup (ex_new n upd_same) (.cons (.int _) (.cons (dd_mono (ex_same s) _ _ h) .nil))⟩
  cases d with
  | list ds =>
    cases q1 with
    | lst hs ha =>
      rename_i a vs
      have hl := ha.length
      refine .inl ⟨a, vs, rfl, .inl (.inl (rs_of hs).1), p1 _ H1 Go.refl R1 ⟨fun H s => ⟨vs, .inl (.inl (s _ _ hs)), by rw [numD_len]; omega⟩, fun i d H ed s => ?_⟩⟩
      obtain ⟨x, ex, rfl⟩ := numD_get 0 ds i d ed
      obtain ⟨u, hu, du⟩ := ha.get ex
      refine ⟨⟨vs, u, .inl (.inl (s _ _ hs)), hu⟩, fun y H' ⟨T, u', ey, n, eH, hx⟩ => ?_⟩
      have eu := hx vs (.inl (.inl (s _ _ hs)))
      rw [hu] at eu
      cases eu
      subst ey
      rw [Nat.zero_add]
      exact pr s n eH du
  | str z =>
    cases q1
    refine .inr ⟨z, rfl, p1 _ H1 Go.refl R1 ⟨fun H s => by show _ = _; rw [numD_len]; simp, fun i d H ed s => ?_⟩⟩
    obtain ⟨x, ex, rfl⟩ := numD_get 0 _ i d ed
    rw [List.getElem?_map, Array.getElem?_toList] at ex
    obtain ⟨c, hc, rfl⟩ := Option.map_eq_some_iff.mp ex
    refine ⟨(Array.getElem?_eq_some_iff.mp hc).1, fun y H' ⟨T, c', ey, n, eH, hx⟩ => ?_⟩
    rw [hc] at hx
    cases hx
    subst ey
    rw [Nat.zero_add]
    exact pr s n eH (.str _)
  | none => exact p1.elim
  | bool _ => exact p1.elim
  | int _ => exact p1.elim
  | tuple _ => exact p1.elim
  | dict _ => exact p1.elim
end

/-! ### {k: v}, k a tuple -/
def tDict1 (tk tv : TE) : TE := fun σ H Q => ∀ p, H p = none → tk σ (upd H p (.dT [])) fun y H1 => tv σ H1 fun x H2 => H2 p = some (.dT []) ∧ ∃ H3, DPut H2 p y x H3 ∧ Q (.ref p) H3
theorem pe_dict1 {X : Cx} {k v : Expr} {tk tv : TE} {pos : Pos} (hu : X.A.units + 1 < cLine) (hk : PE X k tk) (hv : PE X v tv) : PE X (.Dict [some k] [v] pos) (tDict1 tk tv) := by
  refine ⟨fun pins s σ H Q I h => ?_⟩
  have n := I.hok.fresh (Nat.le_refl s.heap.objs.size)
  have I1 := I.laid (a := s.heap.objs.size) (o := .dT []) (h' := s.heap.push { cls := .type "dict", data := .dict #[] }) (t' := s.toks) (fun _ _ q => Heap.get?_push_of_some _ q) (Nat.le_refl _) (dt_empty s.heap I.big)
  refine wpAny_Dict_any rfl rfl (by simp) (by simp) (pairTrees_cons_walk (thn (hk.run pins _ σ _ _ I1 (h _ n)) fun u s1 ⟨y, H1, J1, ry, q1⟩ => thn (hv.run pins s1 σ H1 _ J1 q1) fun r s2 ⟨x, H2, J2, rx, e2, H3, dp, q2⟩ => pairTrees_nil_walk ?_))
  unfold storeAll
  rw [List.forIn_cons]
  rcases dp with ⟨kvs, k', e, _⟩ | ⟨kvs, k', b, e, ey, eb, l, eH⟩
  · rw [e2] at e; cases e
  · rw [e2] at e
    cases e
    subst ey eH
    cases (show u = Value.ref b from ry)
    obtain ⟨z, hd, xs, rel, dd⟩ := dt_of J2.hok e2
    have hz : xs.length ≤ sizeLine := by rw [← Paired.length rel]; exact z
    have hl : (putK ([] : List (List Key × V)) k' x).length ≤ sizeLine := by have := length_putK ([] : List (List Key × V)) k' x; simp at this; omega
    refine wpAny_bind (wpAny_bind (wpAny_dictSet_heap (hsz := hz) (by first | exact tupleKind_room hu | (show X.A.units < cLine; omega)) (key_of J2.hok eb) dd fun h' dd' hs => wpAny_pure ?_))
    dsimp only
    rw [List.forIn_nil]
    refine wpAny_pure ?_
    obtain ⟨q, es, ep, hq, h2, h3, h4, _, h5⟩ := dd'
    refine ⟨.ref _, upd H2 s.heap.objs.size (.dT (putK [] k' x)), d_write J2 (by rw [e2]; exact True.intro) hs ⟨q, hq⟩ ⟨hl, hd, _, (rel.put k' eb rx).keeps fun c ys ec => ?_, q, es, ep, hq, h2, h3, h4, h5⟩, rfl, q2⟩
    rw [upd_ne (ne_of ec e2 (fun z => nomatch z))]
    exact ec
/-- the dict of one pair -/
def mkDt (k v : D) : Option Ob := match k with
  | .tuple ds => (toKs ds).map fun ks => .dt [(ks, v)]
  | _ => none
def eDict1 (gk gv : Ev D) : Ev Ob := fun ρ => (noEr (gk ρ)).bind fun k r => (noEr (gv r)).bind fun v r2 => ofO (mkDt k v) r2
theorem o_dict1 {X : Cx} {cl : Cl} {W : WX} {k v : Expr} {gk gv : Ev D} {pos : Pos} (hu : X.A.units + 1 < cLine) (hk : PE X k (tE X.K cl W0 gk)) (hv : PE X v (tE X.K cl W0 gv)) : PE X (.Dict [some k] [v] pos) (tO X.K cl W (eDict1 gk gv)) := by
  refine PE.weak (pe_dict1 hu hk hv) ?_
  rintro σ H Q ⟨M, ρ, R, q⟩ p hp
  have s0 : Same H (upd H p (.dT [])) := fun b o e => by rw [upd_ne (ne_of_none e hp)]; exact e
  have R' := R.plus (o := .dt []) s0 hp ⟨_, upd_same⟩
  unfold eDict1 at q
  refine ⟨_, ρ, R', ?_⟩
  cases ek : gk ρ with
  | er c r => rw [ek] at q; exact q.elim
  | no => rw [ek] at q; exact q.elim
  | ok kd r1 =>
    rw [ek] at q
    intro y H1 g1 R1 hy
    refine ⟨_, r1, R1, ?_⟩
    have q : Pst X.K cl W (RO X.K) M σ ρ H ((noEr (gv r1)).bind fun v r2 => ofO (mkDt kd v) r2) Q := q
    cases ev : gv r1 with
    | er c r => rw [ev] at q; exact q.elim
    | no => rw [ev] at q; exact q.elim
    | ok vd r2 =>
      rw [ev] at q
      intro x H2 g2 R2 hx
      have hy : Dd X.K (rs (Mu (fun a => M a ∨ a = p) σ r1) H1) y kd := hy
      have hx : Dd X.K (rs (Mu (fun a => M a ∨ a = p) σ r2) H2) x vd := hx
      have e1 : H1 p = some (.dT []) := stay_ R' g1 upd_same
      have e2 : H2 p = some (.dT []) := stay_ R1 g2 e1
      refine ⟨e2, ?_⟩
      cases kd with
      | tuple ds =>
        have q : Pst X.K cl W (RO X.K) M σ ρ H (ofO ((toKs ds).map fun ks => Ob.dt [(ks, vd)]) r2) Q := q
        cases ets : toKs ds with
        | none => rw [ets] at q; exact q.elim
        | some ks =>
          rw [ets] at q
          have hy2 := dd_mono g2.same _ _ hy
          cases hy2 with
          | tup ht hd =>
            have evs := toKs_dd hd ets
            subst evs
            obtain ⟨R8, er⟩ := rel_upd (o := .dT (putK [] ks x)) R2 (.inr rfl)
            refine ⟨_, DPut.t e2 (rs_of ht).1 (by rw [line_]; decide), ?_⟩
            have z := (Go.ext R s0).trans (g1.trans g2)
            refine q _ _ ⟨fun b o e n => ?_, z.own, z.io, fun b o e => ?_⟩ (R8.weak fun _ w => .inl w) ⟨p, rfl, hp, fun w => ?_, R8, _, upd_same, ?_⟩
            · rw [upd_ne (ne_of_none e hp)]; exact z.keep b o e n
            · rw [upd_ne (ne_of_none e hp)]; exact z.live b o e
            · rcases w with w | w
              · obtain ⟨o, e⟩ := R.live p w
                rw [hp] at e; cases e
              · obtain ⟨j, b, o, z1, z2⟩ := w
                obtain ⟨a, y1, y2, _⟩ := R2.ow j b o z1
                rw [z2] at y1; cases y1
                exact y2 (.inr rfl)
            · rw [er]
              exact .cons ⟨rfl, hx⟩ .nil
      | none => exact q.elim
      | bool _ => exact q.elim
      | int _ => exact q.elim
      | str _ => exact q.elim
      | list _ => exact q.elim
      | dict _ => exact q.elim
end DL
end
section
set_option Elab.async false
set_option linter.all false
set_option maxRecDepth 100000
set_option autoImplicit false
namespace DL
open PySem PySem.Spec PyProof.Rows L2 HT

/-! ### t[::-1], a tuple -/
section
variable {prog : Program} {w : World} {A : Around} {E : Value → Shared → Prop} {s : Shared}
theorem rev_pick (xs : Array Value) : ((List.range xs.size).filterMap fun (k : Nat) => xs[(((xs.size : Int) - 1) + (k : Int) * (-1)).toNat]?).toArray = xs.toList.reverse.toArray := by
  congr 1
  have e : ((List.range xs.size).filterMap fun (k : Nat) => xs[(((xs.size : Int) - 1) + (k : Int) * (-1)).toNat]?) = ((List.range xs.size).map fun k => xs.size - 1 - k).filterMap (xs[·]?) := by
    rw [List.filterMap_map]
    congr 1
    funext k
    have z : (((xs.size : Int) - 1) + (k : Int) * (-1)).toNat = xs.size - 1 - k := by omega
    rw [z]
    rfl
  rw [e, PySem.W.krv_range, List.filterMap_reverse, PySem.W.krv_all]
theorem getItem_tuple_back {t sl : Addr} {items : Array Value} {vs : Value} {Q : Value → Shared → Prop} (ht : IsTup s.heap t items) (hs : s.heap.IsSliceOf sl .none .none vs) (ps : IsPart vs (some (-1)))
    (h : Q (.ref s.heap.objs.size) { s with heap := s.heap.push { cls := .type "tuple", data := .seq items.toList.reverse.toArray } }) (hsz : items.size ≤ sizeLine) : wpAny (model prog w) A (getItem (.ref t) (.ref sl)) Q E s := by
  obtain ⟨os, hos, hcs, hds⟩ := id hs
  have isl : s.TypeIs (.ref sl) "slice" := ⟨os, hos, hcs⟩
  have fits : sizeOk (.seq items.toList.reverse.toArray) := by
    show items.toList.reverse.toArray.size ≤ sizeLine
    rw [List.size_toArray, List.length_reverse, Array.length_toList]
    exact hsz
  unfold getItem
  try with_reducible refine wpAny_holding ?_
  first | refine wpAny_bind (wpAny_pure ?_) | skip
  refine wpAny_bind (wpAny_sequenceKey ht.typeIs (by decide) ?_)
  refine wpAny_bind (wpAny_callSpecial?_slot (name := Str.ofString "__getitem__") ht.typeIs slot_tuple_getitem (wpAny_call_entry slot_tuple_getitem ht.typeIs entry_tuple_getitem ?_ (args_tuple_getitem _ _)))
  show wpAny _ _ (Builtin.Tuple.tupleItemsOf (.ref t) >>= _) _ _ s
  refine wpAny_bind (tupleItemsOf_ ht (wpAny_bind (wpAny_typeOf isl ?_)))
  rw [if_pos (by decide)]
  refine wpAny_bind (m := Builtin.Slice.sliceApplied _ _) ?_
  · unfold Builtin.Slice.sliceApplied Builtin.Slice.sliceFields
    refine wpAny_bind (wpAny_bind (wpAny_field hos hds (x := .none) rfl (wpAny_bind (wpAny_field hos hds (x := .none) rfl (wpAny_bind (wpAny_field hos hds (x := vs) rfl (wpAny_pure ?_)))))))
    refine wpAny_bind (slicePart_ ps ?_)
    show wpAny _ _ (if ((-1 : Int) == 0) = true then _ else _) _ _ s
    rw [if_neg (by decide)]
    refine wpAny_bind (slicePart_none (wpAny_bind (slicePart_none (wpAny_bind (wpAny_pure ?_)))))
    have e2 : Builtin.Slice.slicePlaces ((items.size : Int) - 1) (-1) (-1) = items.size := by
      unfold Builtin.Slice.slicePlaces
      rw [if_neg (by decide)]
      split
      · have z : ((items.size : Int) - 1 - -1 - 1) / (- -1) = (items.size : Int) - 1 := by
          rw [show (- -1 : Int) = 1 by decide, Int.ediv_one]; omega
        rw [z]; omega
      · omega
    show wpAny _ _ (pure (((items.size : Int) - 1), (-1 : Int), Builtin.Slice.slicePlaces ((items.size : Int) - 1) (-1) (-1))) _ _ s
    rw [e2]
    refine wpAny_pure ?_
    show wpAny _ _ (if (((items.size : Int) - 1) == 0 && (-1 : Int) == 1 && items.size == items.size) = true then _ else _) _ _ s
    rw [if_neg (by simp), rev_pick]
    exact wpAny_bind (m := Builtin.Tuple.tupleExact _) (wpAny_newObj_type (wpAny_pure ⟨_, rfl, wpAny_pure h⟩) fits)
end
def tRevT (K : PySem.W.Frag) (te : TE) : TE := fun σ H Q => te σ H fun x H1 => ∃ a xs, x = .ref a ∧ SqT K H1 a xs ∧ ∀ p, H1 p = none → Q (.ref p) (upd H1 p (.tup xs.reverse))
theorem pe_revT {X : Cx} {e : Expr} {te : TE} {k : Nat} {p1 p2 p3 pos : Pos} (he : PE X e te) : PE X (.Subscript e (.Slice none none (some (.UnaryOp .USub (.Constant (.int 1) k p1) p2)) p3) pos) (tRevT X.K te) := by
  refine ⟨fun pins s σ H Q I h => ?_⟩
  refine Subscript_ (thn (he.run pins s σ H _ I h) fun v s1 ⟨x, H1, I1, r1, a, xs, ex, hx, q⟩ => ?_)
  subst ex
  cases r1
  have minus : PO X (some (.UnaryOp .USub (.Constant (.int 1) k p1) p2)) (tPart (tUn (rU fun i => .int (-i)) (tC (.int 1)))) := po_some (pe_un un_neg pe_int)
  refine wpAny_Slice (thn (po_none.run pins s1 σ H1 (fun o H2 => o = none ∧ H2 = H1) I1 ⟨rfl, rfl⟩) fun vl s2 ⟨l, H2, I2, pl, el, e2⟩ => ?_)
  subst el e2
  refine thn (po_none.run pins s2 σ H2 (fun o H3 => o = none ∧ H3 = H2) I2 ⟨rfl, rfl⟩) fun vu s3 ⟨u, H3, I3, pu, eu, e3⟩ => ?_
  subst eu e3
  refine thn (minus.run pins s3 σ H3 (fun o H4 => o = some (-1) ∧ H4 = H3) I3 ⟨1, rfl, -1, rfl, rfl, rfl⟩) fun vs s4 ⟨o, H4, I4, ps, eo, e4⟩ => ?_
  subst eo e4
  have el : vl = .none := by cases pl; rfl
  have eu : vu = .none := by cases pu; rfl
  subst el eu
  have I5 : L2.Inv X pins σ H4 { s4 with heap := s4.heap.push { cls := .type "slice", data := .fields #[.none, .none, vs] } } := I4.kept (t' := s4.toks) fun b ob q => Heap.get?_push_of_some _ q
  obtain ⟨its, r, ht, hz⟩ := I5.tuple hx
  have hlen := r.length
  show wpAny (model X.prog X.w) X.A (subscriptTail e (.Slice none none (some (.UnaryOp .USub (.Constant (.int 1) k p1) p2)) p3) (.ref a) (.ref s4.heap.objs.size)) (EP X pins σ Q) X.xe { s4 with heap := s4.heap.push { cls := .type "slice", data := .fields #[.none, .none, vs] } }
  refine tail_any (ops := [.ref a, .ref s4.heap.objs.size]) ht.typeIs slot_tuple_getitem.lookup ?_ (by with_unfolding_all rfl)
  refine getItem_tuple_back ht (Heap.IsSliceOf.new _ .none .none vs) ps ?_ (by rw [List.size_toArray]; omega)
  refine ⟨.ref _, _, I5.laid (t' := s4.toks) (o := .tup xs.reverse) (fun b ob q => Heap.get?_push_of_some _ q) (Nat.le_refl _) ?_, rfl, q _ (I5.hok.fresh (Nat.le_refl _))⟩
  exact ⟨by rw [List.length_reverse]; exact hz, _, r.reverse, IsTup.new _ _⟩
def revD : D → Option D
  | .tuple xs => some (.tuple xs.reverse)
  | _ => none
theorem d_rev {X : Cx} {cl : Cl} {W : WX} {e : Expr} {A : Opd} {k : Nat} {p1 p2 p3 pos : Pos} (he : PE X e (tP X.K cl W A)) : PE X (.Subscript e (.Slice none none (some (.UnaryOp .USub (.Constant (.int 1) k p1) p2)) p3) pos) (tE X.K cl W (e1 revD A)) := by
  refine PE.weak (pe_revT he) ?_
  rintro σ H Q ⟨M, ρ, R, q⟩
  refine tG_bind R q fun v y ρ1 H1 _ g1 R1 q1 p1 => ?_
  refine end_d R1 p1 fun o e k => ?_
  obtain ⟨d1, h1, e⟩ := Option.bind_eq_some_iff.mp e
  have hb := RV0.fin R1 q1 h1
  unfold revD at e
  split at e
  · cases e
    obtain ⟨p, vs, rfl, hp, hd⟩ := hb.tuple (rs_sub _ _)
    refine ⟨p, vs, rfl, .inl (.inl (rs_of hp).1), fun a n => ?_⟩
    exact k _ _ (fun q o e => by rw [upd_ne (ne_of_none e n)]; exact e) (.tup (ex_new n upd_same) (ddAll_mono (ex_same (rs_sub _ _)) _ _ hd.reverse))
  · cases e

/-! ### a def, its counts written -/
theorem room_un {k : Nat} {A : Around} (r : Room k A) : A.units + 1 < cLine ∧ A.units + 64 < cLine ∧ A.units + 65 < cLine ∧ A.units + 200 < cLine := by
  have h := r.un
  exact ⟨by omega, by omega, by omega, by omega⟩
theorem def_ok2 {P : Program} {w : World} {K : PySem.W.Frag} {mg : Str → Option Value} {base : Heap} {x qual : Str} {st : Stmt} {f : Addr} {fd : FuncData} {N ps : List Str} {k n m : Nat} {cl : Cl} {g : Ev Fl} {Fp : Rho → Res D} (F : Fun K x qual st f fd) (S : FnScope N ps (defScope st)) (hF : Fp = bodyF n g) (hn : N.length = n) (hm : ps.length = m) (hN : m ≤ n)
    (hbody : ∀ (cdv : Value) (A : Around) (outer : List Env) (s : Shared) (H : Hp) (E : XK), Room k (A.deeper (PyProof.Rows.envOfC qual (defScope st) s.heap.objs.size f cdv)) →
      PSs (bx P w K mg base N qual st f cdv A outer s H E) (defBody st) (tS K cl (WF E) g)) : FnOk P w K mg base (L2.CX P w) (k + 1) f fd ps (spF K cl m Fp) := by
  subst hF hn hm
  exact def_ok F S hN hbody
end DL
end
section
set_option Elab.async false
set_option linter.all false
set_option maxRecDepth 100000
set_option autoImplicit false
namespace DL
open PySem PySem.Spec L2

/-! ### try: .. except C .. -/
/-- m says of a class's name whether the clause takes it -/
def tryS (m : String → Option Bool) (gb gh : Ev Fl) : Ev Fl := fun ρ => match gb ρ with
  | .er c r => match m c with
    | some true => gh r
    | some false => .er c r
    | none => .no
  | x => x
def isUn (o : Option Sl) : Bool := match o with
  | some .un => true
  | _ => false
/-- .. as a name: its slot i is forgotten -/
def tryAsS (m : String → Option Bool) (i : Nat) (gb gh : Ev Fl) : Ev Fl := fun ρ => match gb ρ with
  | .er c r => match m c with
    | some true => match sto r i .un with
      | some r1 => match gh r1 with
        | .ok f r2 => if isUn r2[i]? = true then .ok f r2 else .no
        | .er _ _ => .no
        | .no => .no
      | none => .no
    | some false => .er c r
    | none => .no
  | x => x
section
variable {X : Cx} {cl : Cl} {Wout : WX} {x n : Str} {C : Value} {i : Nat} {body suite : List Stmt} {b₀ : Stmt} {np pos pos' : Pos} {m : String → Option Bool} {gb gh : Ev Fl}
theorem s_try (hs : X.stack = X.env :: X.outer) (hf : X.env.frame = some X.env.locals) (hc : Names X x C) (tk : Takes X Wout) (hm : ∀ c b, m c = some b → ∀ cls dd, cl c cls dd → PySem.W.exmOne X.K cls C = some b)
    (hb : ∀ (W : WX) (pn : List (Addr × Obj)) (xe : Value → Shared → Prop), Takes (X.tr pn xe) W → PassesOwn (model X.prog X.w) X.A X.env xe → PSs (X.tr pn xe) body (tS X.K cl W gb))
    (hsu : ∀ (a : Addr) (oe : Obj) (cls : Value) (d : Option Addr) (pn : List (Addr × Obj)), Zc cls d oe → (∃ vs, oe.data = .fields vs) → PSs (X.suite a ((a, oe) :: pn)) (b₀ :: suite) (tS X.K cl W0 gh)) (hn : ∀ r c r', gh r ≠ .er c r') :
    PS X (.Try body [.ExceptHandler (some (.Name x np)) none (b₀ :: suite) pos'] [] [] pos) (tS X.K cl Wout (tryS m gb gh)) := by
  refine PS.weak (ps_try_only hs hf hc tk hb (ts := fun _ _ _ => tS X.K cl W0 gh) hsu) ?_
  rintro E σ H ⟨M, ρ, R, p⟩
  refine ⟨M, ρ, R, ?_⟩
  unfold tryS at p
  cases e : gb ρ with
  | ok f r =>
    rw [e] at p
    cases f <;> exact p
  | no => rw [e] at p; exact p
  | er c r =>
    rw [e] at p
    intro cls dd σ' H' hcl g R'
    have p : Sst X.K cl Wout M E σ ρ H (match m c with
      | some true => gh r
      | some false => .er c r
      | none => .no) := p
    cases em : m c with
    | none => rw [em] at p; exact p.elim
    | some b =>
      rw [em] at p
      refine ⟨b, hm c b em cls dd hcl, fun eb a _ => ?_, fun eb => ?_⟩
      · subst eb
        have p : Sst X.K cl Wout M E σ ρ H (gh r) := p
        refine ⟨M, r, R', ?_⟩
        have p := Sst.step g p
        cases eh : gh r with
        | ok f r2 => rw [eh] at p; cases f <;> exact p
        | no => rw [eh] at p; exact p
        | er c2 r2 => exact absurd eh (hn r c2 r2)
      · subst eb
        exact p cls dd σ' H' hcl g R'
/-- what the suite knows of the exception -/
def ExAt (σ : St) (i : Nat) (a : Addr) : Prop := σ[i]? = some (some (.ref a))
/-- a reading that is asked under a premise -/
theorem PSs.under {X : Cx} {ss : List Stmt} {P : Prop} {t : TS} (h : P → PSs X ss t) : PSs X ss (fun E σ H => P ∧ t E σ H) := ⟨fun pins s σ H D I q => (h q.1).run pins s σ H D I q.2⟩
theorem rel_un {K : PySem.W.Frag} {M : Addr → Prop} {σ : St} {H : Hp} {ρ ρ1 : Rho} {i : Nat} {v : Option V} (R : Rel K M σ H ρ) (h : sto ρ i .un = some ρ1) : Rel K M (σ.set i v) H ρ1 ∧ Go σ ρ H (σ.set i v) ρ1 H := by
  obtain ⟨hi, hn, rfl⟩ := sto_of h
  have os : ∀ p, Own (σ.set i v) (ρ.set i .un) p → Own σ ρ p := fun p ⟨j, b, o, h1, h2⟩ => by
    by_cases e : i = j
    · subst e
      rw [List.getElem?_set_self hi] at h1
      cases h1
    · rw [List.getElem?_set_ne e] at h1 h2
      exact ⟨j, b, o, h1, h2⟩
  have le : ∀ p, Mu M (σ.set i v) (ρ.set i .un) p → Mu M σ ρ p := fun p z => z.elim .inl fun z => .inr (os p z)
  refine ⟨⟨by rw [List.length_set, List.length_set, R.len], R.live, fun j d' q => ?_, fun j b o q => ?_, fun j k b o b' o' p q1 q2 q3 q4 => ?_⟩, ⟨fun _ _ h _ => h, fun p h => .inl (os p h), fun j o' q => ?_, fun _ o h => ⟨o, h⟩⟩⟩
  · by_cases ij : i = j
    · subst ij
      rw [List.getElem?_set_self hi] at q; cases q
    · rw [List.getElem?_set_ne ij] at q ⊢
      obtain ⟨w, g1, g2⟩ := R.fz j d' q
      exact ⟨w, g1, dd_mono (rs_le le) _ _ g2⟩
  · by_cases ij : i = j
    · subst ij
      rw [List.getElem?_set_self hi] at q; cases q
    · rw [List.getElem?_set_ne ij] at q ⊢
      obtain ⟨p, g1, g2, g3⟩ := R.ow j b o q
      exact ⟨p, g1, g2, g3.mono (rs_le le) rfl⟩
  · by_cases ij : i = j
    · subst ij
      rw [List.getElem?_set_self hi] at q1; cases q1
    · by_cases ik : i = k
      · subst ik
        rw [List.getElem?_set_self hi] at q2; cases q2
      · rw [List.getElem?_set_ne ij] at q1 q3
        rw [List.getElem?_set_ne ik] at q2 q4
        exact R.inj j k _ _ _ _ p q1 q2 q3 q4
  · by_cases ij : i = j
    · subst ij
      rw [List.getElem?_set_self hi] at q; cases q
    · rw [List.getElem?_set_ne ij] at q ⊢
      exact ⟨⟨o', q⟩, rfl⟩
theorem s_tryAs (hs : X.stack = X.env :: X.outer) (hf : X.env.frame = some X.env.locals) (hN : X.N.Nodup) (hi : X.N[i]? = some n) (hln : X.env.kindOf n = some .local) (hc : Names X x C) (tk : Takes X Wout) (hm : ∀ c b, m c = some b → ∀ cls dd, cl c cls dd → PySem.W.exmOne X.K cls C = some b)
    (hb : ∀ (W : WX) (pn : List (Addr × Obj)) (xe : Value → Shared → Prop), Takes (X.tr pn xe) W → PassesOwn (model X.prog X.w) X.A X.env xe → PSs (X.tr pn xe) body (tS X.K cl W gb))
    (hsu : ∀ (a : Addr) (oe : Obj) (cls : Value) (d : Option Addr) (pn : List (Addr × Obj)), Zc cls d oe → (∃ vs, oe.data = .fields vs) → (∃ c, cl c cls d ∧ m c = some true) → PSs (X.suite a ((a, oe) :: pn)) (b₀ :: suite) (fun E σ H => ExAt σ i a ∧ tS X.K cl W0 gh E σ H)) :
    PS X (.Try body [.ExceptHandler (some (.Name x np)) (some n) (b₀ :: suite) pos'] [] [] pos) (tS X.K cl Wout (tryAsS m i gb gh)) := by
  refine PS.weak (ps_try_as hs hf hN hi hln hc tk hb (ts := fun a cls d => fun E σ H => (∃ c, cl c cls d ∧ m c = some true) ∧ ExAt σ i a ∧ tS X.K cl W0 gh E σ H) fun a oe cls d pn h1 h2 => PSs.under fun h3 => hsu a oe cls d pn h1 h2 h3) ?_
  rintro E σ H ⟨M, ρ, R, p⟩
  refine ⟨M, ρ, R, ?_⟩
  unfold tryAsS at p
  cases e : gb ρ with
  | ok f r =>
    rw [e] at p
    cases f <;> exact p
  | no => rw [e] at p; exact p
  | er c r =>
    rw [e] at p
    intro cls dd σ' H' hcl g R'
    dsimp only at p
    cases em : m c with
    | none => rw [em] at p; exact p.elim
    | some b =>
      rw [em] at p
      refine ⟨b, hm c b em cls dd hcl, fun eb a na => ?_, fun eb => ?_⟩
      · subst eb
        dsimp only at p
        cases es : sto r i .un with
        | none => rw [es] at p; exact p.elim
        | some r1 =>
          rw [es] at p
          dsimp only at p
          obtain ⟨R1, g1⟩ := rel_un (v := some (.ref a)) R' es
          have hil : i < σ'.length := by rw [R'.len]; exact (sto_of es).1
          refine ⟨⟨c, hcl, em⟩, List.getElem?_set_self hil, M, r1, R1, ?_⟩
          cases eh : gh r1 with
          | no => rw [eh] at p; exact p.elim
          | er c2 r2 => rw [eh] at p; exact p.elim
          | ok f r2 =>
            rw [eh] at p
            dsimp only at p
            split at p
            · rename_i hcnd
              have ez : r2[i]? = some .un := by
                unfold isUn at hcnd
                split at hcnd
                · assumption
                · cases hcnd
              have es2 : sto r2 i .un = some r2 := by
                unfold sto
                rw [ez]
                show some (r2.set i .un) = some r2
                congr 1
                refine List.ext_getElem? fun j => ?_
                by_cases ij : i = j
                · subst ij
                  rw [List.getElem?_set_self (List.getElem?_eq_some_iff.mp ez).1, ez]
                · rw [List.getElem?_set_ne ij]
              have p := Sst.step (g.trans g1) p
              have fin : ∀ σ2 H2, Go (σ'.set i (some (.ref a))) r1 H' σ2 r2 H2 → Rel X.K M σ2 H2 r2 → Go (σ'.set i (some (.ref a))) r1 H' (σ2.set i none) r2 H2 ∧ Rel X.K M (σ2.set i none) H2 r2 := fun σ2 H2 g2 R2 => by
                obtain ⟨R3, g3⟩ := rel_un (v := none) R2 es2
                exact ⟨g2.trans g3, R3⟩
              cases f with
              | nx => exact fun σ2 H2 g2 R2 => p _ H2 (fin σ2 H2 g2 R2).1 (fin σ2 H2 g2 R2).2
              | rt d => exact fun v σ2 H2 g2 R2 q => p v σ2 H2 g2 R2 q
              | bk => exact fun σ2 H2 g2 R2 => p _ H2 (fin σ2 H2 g2 R2).1 (fin σ2 H2 g2 R2).2
              | ct => exact fun σ2 H2 g2 R2 => p _ H2 (fin σ2 H2 g2 R2).1 (fin σ2 H2 g2 R2).2
            · exact p.elim
      · subst eb
        exact p cls dd σ' H' hcl g R'
end
/-! ### under what the suite knows -/
section
variable {X : Cx} {cl : Cl} {W : WX} {a b : Expr} {rest : List Expr} {pos : Pos} {G : St → Prop}
theorem d_andG {g h : Ev D} (ha : PE X a (tE X.K cl W g)) (hb : PE X (.BoolOp .And (b :: rest) pos) (fun σ H Q => G σ ∧ tE X.K cl W h σ H Q)) : PE X (.BoolOp .And (a :: b :: rest) pos) (fun σ H Q => G σ ∧ tE X.K cl W (eAndV g h) σ H Q) := by
  refine PE.weak (pe_and ha hb) ?_
  rintro σ H Q ⟨hG, M, ρ, R, p⟩
  refine tG_bind R p fun v d ρ1 H1 _ g1 R1 q1 p1 => ?_
  cases d with
  | bool k =>
    refine ⟨k, bl_of q1, ?_⟩
    cases k with
    | true => exact iteT ⟨hG, M, ρ1, R1, p1⟩
    | false => exact iteF (p1 _ H1 Go.refl R1 (.bl false))
  | none => exact p1.elim
  | int _ => exact p1.elim
  | str _ => exact p1.elim
  | list _ => exact p1.elim
  | tuple _ => exact p1.elim
  | dict _ => exact p1.elim
theorem d_oneG {op : BoolOp} {t : TE} (ha : PE X a t) : PE X (.BoolOp op [a] pos) t := pe_one ha
theorem s_retG {g : Ev D} (he : PE X a (fun σ H Q => G σ ∧ tE X.K cl W g σ H Q)) : PS X (.Return (some a) pos) (fun E σ H => G σ ∧ tS X.K cl W (rtS g) E σ H) := by
  refine PS.weak (ps_ret he) ?_
  rintro E σ H ⟨hG, M, ρ, R, p⟩
  refine ⟨hG, ?_⟩
  refine tS_bind R p fun v d ρ1 H1 _ g1 R1 q1 p1 => ?_
  exact p1 v σ H1 Go.refl R1 q1
/-- isinstance(error, T) in the suite, T a built-in class -/
theorem d_isE {p p2 pos : Pos} {n x : Str} {i : Nat} {at_ D : Addr} {oe : Obj} {pn : List (Addr × Obj)} {T : String} {k : Bool} (EC : ExcC X.K D) (hz : Zc (.ref D) none oe) (hv : ∃ vs, oe.data = .fields vs) (kt : PySem.W.kitOne X.K (.ref D) (.type T) = some k)
    (hg : Gl (X.suite at_ ((at_, oe) :: pn)) "isinstance") (hm : X.mg "isinstance" = none) (hgT : Gl (X.suite at_ ((at_, oe) :: pn)) x) (hmT : X.mg x = none) (hvT : bootBuiltins x = some (.type T)) (ho : PE (X.suite at_ ((at_, oe) :: pn)) (.Name n p2) (tVar i)) (hnT : x ≠ "__name__" := by decide) (hdT : (x == ("__debug__" : Str)) = false := by decide)
    {p3 : Pos} (he : starEach [.Name n p2, .Name x p3] (X.suite at_ ((at_, oe) :: pn)).env = (false, eval (.Name n p2) (X.suite at_ ((at_, oe) :: pn)).env) :: starEach [.Name x p3] (X.suite at_ ((at_, oe) :: pn)).env := by rfl) (he2 : starEach [Expr.Name x p3] (X.suite at_ ((at_, oe) :: pn)).env = (false, eval (.Name x p3) (X.suite at_ ((at_, oe) :: pn)).env) :: starEach [] (X.suite at_ ((at_, oe) :: pn)).env := by rfl)
    (hpl : (backTo pos (starEach [Expr.Name x p3] (X.suite at_ ((at_, oe) :: pn)).env)).any (·.1) = false := by rfl) :
    PE (X.suite at_ ((at_, oe) :: pn)) (.Call (.Name "isinstance" p) [.Name n p2, .Name x p3] [] pos) (fun σ H Q => ExAt σ i at_ ∧ tE X.K cl W (eC (.bool k)) σ H Q) := by
  have hT : PE (X.suite at_ ((at_, oe) :: pn)) (.Name x p3) (tC (.ty T)) := pe_bltn hgT hmT hvT rfl hnT hdT
  refine PE.weak (pe_callB (call_isE EC hz hv) hg hm PyProof.Rows.boot_isinstance (pa_cons ho (pa_cons hT pa_nil he2) he) (by decide) (by decide) he hpl) ?_
  rintro σ H Q ⟨hG, M, ρ, R, q⟩
  refine ⟨.ref at_, hG, .ty T, .type T, k, rfl, fun u r => ?_, kt, ?_⟩
  · exact r
  · exact q (.bl k) H Go.refl R (.bl k)
end
/-! ### the law's own def -/
def ScrAt (K : PySem.W.Frag) (ns : List Int) (σ : St) (H : Hp) : Prop := ∃ a, σ[0]? = some (some (.ref a)) ∧ SqL K H a (ns.map V.int)
section
variable {X : Cx} {cl : Cl} {W : WX} {st : Stmt} {sts : List Stmt} {es : List Expr} {gs : List (Ev D)} {ns : List Int} {p p1 p2 p3 pos : Pos}
/-- list(script) as the first of a list's items -/
theorem l_script (hl : Gl X "list") (hm : X.mg "list" = none) (hs : PE X (.Name "script" p2) (tVar 0)) (hr : PA X es (tL X.K cl W gs)) (na : starEach [Expr.Name "script" p2] X.env = (false, eval (.Name "script" p2) X.env) :: starEach [] X.env := by rfl) (hpl : (backTo p3 (starEach [] X.env)).any (·.1) = false := by rfl)
    (he : starEach (.Call (.Name "list" p1) [.Name "script" p2] [] p3 :: es) X.env = (false, eval (.Call (.Name "list" p1) [.Name "script" p2] [] p3) X.env) :: starEach es X.env := by rfl) :
    PA X (.Call (.Name "list" p1) [.Name "script" p2] [] p3 :: es) (fun σ H Q => ScrAt X.K ns σ H ∧ tL X.K cl W (eC (.list (ns.map .int)) :: gs) σ H Q) := by
  refine PA.weak (pa_cons (pe_callTy call_list_of hl hm PyProof.Rows.boot_list (pa_cons hs pa_nil na) (by decide) (by decide) na hpl) hr he) ?_
  rintro σ H Q ⟨⟨a, h0, hq⟩, M, ρ, R, q⟩
  refine ⟨.ref a, h0, a, _, rfl, .inl hq, fun l n => ?_⟩
  have s : Same H (upd H l (.lst (ns.map V.int))) := fun b o e => by rw [upd_ne (ne_of_none e n)]; exact e
  have R1 := R.ext s
  have q : Pst X.K cl W (RDs X.K) M σ ρ H ((eL gs ρ).bind fun ds r => .ok (.list (ns.map .int) :: ds) r) Q := q
  have q := Pst.step (Go.ext R s) q
  refine tG_bind R1 q fun vs ds ρ1 H1 _ g1 R2 q1 p1 => ?_
  refine p1 _ H1 Go.refl R2 (.cons ?_ q1)
  refine dd_mono g1.same _ _ (.lst (rs_mk upd_same fun z => ?_) dd_ints)
  obtain ⟨o, e⟩ := R.mlive z
  rw [n] at e; cases e
theorem s_start {i : Nat} {x : Str} {lp : Pos} (hN : X.N.Nodup) (hi : X.N[i]? = some x) (hx : Loc X.env.scope x) (hl : PA X es (fun σ H Q => ScrAt X.K ns σ H ∧ tL X.K cl W gs σ H Q)) (hs : swapsWith (.List es lp) (some (.Name x p)) pos.line X.env = pure false := by rfl)
    (hf : X.fn x = true ∨ X.env.scope.names.lookup x = some .local := by first | exact .inl rfl | exact .inr rfl | assumption) : PS X (.Assign [.Name x p] (.List es lp) pos) (fun E σ H => ScrAt X.K ns σ H ∧ tS X.K cl W (setO i (eLst gs)) E σ H) :=
  PS.weak (ps_set hN hi hx (pe_lst hl) hs hf) fun E σ H h => ⟨h.1, lst_w σ H _ (setO_w E σ H h.2)⟩
theorem ss_start {g h : Ev Fl} (h1 : PS X st (fun E σ H => ScrAt X.K ns σ H ∧ tS X.K cl W g E σ H)) (h2 : PSs X sts (tS X.K cl W h)) : PSs X (st :: sts) (fun E σ H => ScrAt X.K ns σ H ∧ tS X.K cl W (seqS g h) E σ H) :=
  PSs.weak (pss_cons h1 h2) fun E σ H q => ⟨q.1, seq_w E σ H q.2⟩
end
def spLaw (K : PySem.W.Frag) : Sp := fun vs H Q _ => ∃ (a : Addr) (ns : List Int), vs = [.ref a] ∧ SqL K H a (ns.map V.int) ∧ ns.length ≤ 63 ∧ ∀ H', Q (.bl true) H'
theorem law_ok {P : Program} {w : World} {K : PySem.W.Frag} {mg : Str → Option Value} {base : Heap} {x qual : Str} {st : Stmt} {f : Addr} {fd : FuncData} {N : List Str} {k n : Nat} {cl : Cl} {g : List Int → Ev Fl} (F : Fun K x qual st f fd) (S : FnScope N ["script"] (defScope st)) (hn : N.length = n) (h1 : 1 ≤ n)
    (hbody : ∀ (cdv : Value) (A : Around) (outer : List Env) (s : Shared) (H : Hp) (E : XK), Room k (A.deeper (PyProof.Rows.envOfC qual (defScope st) s.heap.objs.size f cdv)) → ∀ ns, PSs (bx P w K mg base N qual st f cdv A outer s H E) (defBody st) (fun E' σ H => ScrAt K ns σ H ∧ tS K cl (WF E) (g ns) E' σ H))
    (hlaw : ∀ ns : List Int, ns.length ≤ 63 → ∃ r, g ns (List.replicate n .un) = .ok (.rt (.bool true)) r) : FnOk P w K mg base (L2.CX P w) (k + 1) f fd ["script"] (spLaw K) := by
  subst hn
  refine F.okX S (fun vs H Q E h => by obtain ⟨a, ns, rfl, _⟩ := h; rfl) (fun cdv A outer s H vs Q E hr h => ?_)
  obtain ⟨a, ns, rfl, hS, hlen, q⟩ := h
  refine ⟨_, hbody cdv A outer s H E hr ns, ⟨a, ?_, hS⟩, ?_⟩
  · unfold L2.start
    rfl
  · obtain ⟨r, e⟩ := hlaw ns hlen
    have ll : (L2.start N [V.ref a]).length = N.length := by
      unfold L2.start
      rw [List.length_append, List.length_map, List.length_replicate]
      simp
      omega
    refine ⟨fun _ => False, List.replicate N.length .un, ⟨by rw [ll, List.length_replicate], fun p h => h.elim, fun i d h => ?_, fun i b o h => ?_, fun i j b o b' o' p h1 h2 h3 h4 => ?_⟩, ?_⟩
    · rw [List.getElem?_replicate] at h; split at h <;> cases h
    · rw [List.getElem?_replicate] at h; split at h <;> cases h
    · rw [List.getElem?_replicate] at h1; split at h1 <;> cases h1
    · rw [e]
      intro v σ' H' g R d
      rw [bl_of d]
      exact q H'
end DL
end
section
set_option Elab.async false
set_option linter.all false
set_option maxRecDepth 100000
set_option autoImplicit false
namespace DL
open PySem PySem.Spec L2

/-! ### running: the pure side by simp [-Option.bind_some, -Option.bind_none] -/
@[simp] theorem obind {α β : Type} (a : α) (f : α → Option β) : (some a).bind f = f a := Eq.trans rfl rfl
@[simp] theorem obindn {α β : Type} (f : α → Option β) : (none : Option α).bind f = none := Eq.trans rfl rfl

section
variable {α β : Type}
def Run (x : Res α) (P : α → Rho → Prop) : Prop := ∃ a r, x = .ok a r ∧ P a r
theorem run_ok {a : α} {r : Rho} {P : α → Rho → Prop} (h : P a r) : Run (.ok a r) P := ⟨a, r, rfl, h⟩
theorem run_bind {x : Res α} {f : α → Rho → Res β} {P : β → Rho → Prop} (h : Run x fun a r => Run (f a r) P) : Run (x.bind f) P := by
  obtain ⟨a, r, rfl, h⟩ := h
  exact h
theorem run_eq {x y : Res α} {P : α → Rho → Prop} (e : x = y) (h : Run y P) : Run x P := by rw [e]; exact h
theorem Run.mono {x : Res α} {P Q : α → Rho → Prop} (h : Run x P) (w : ∀ a r, P a r → Q a r) : Run x Q := let ⟨a, r, e, p⟩ := h; ⟨a, r, e, w a r p⟩
@[simp] theorem run_okI {a : α} {r : Rho} {P : α → Rho → Prop} : Run (.ok a r) P ↔ P a r := ⟨fun ⟨_, _, e, h⟩ => by cases e; exact h, run_ok⟩
end
@[simp] theorem fin_d (d : D) (r : Rho) : (OV.d d).fin r = some d := Eq.trans rfl rfl
@[simp] theorem fin_v (i : Nat) (r : Rho) : (OV.v i).fin r = pk r i := Eq.trans rfl rfl
@[simp] theorem opd_g (e : Ev D) (ρ : Rho) : (Opd.g e).run ρ = (e ρ).bind fun x r => .ok (.d x) r := Eq.trans rfl rfl
@[simp] theorem opd_b (i : Nat) (ρ : Rho) : (Opd.b i).run ρ = (ofO (pk ρ i) ρ).bind fun _ r => .ok (.v i) r := Eq.trans rfl rfl
@[simp] theorem pkf (d : D) : Sl.pk (.fz d) = some d := Eq.trans rfl rfl
@[simp] theorem pko (b : Bool) (xs : List D) : Sl.pk (.ow b (.ls xs)) = some (.list xs) := Eq.trans rfl rfl
@[simp] theorem pk_ap (ρ : Rho) (i : Nat) : pk ρ i = (ρ[i]?).bind Sl.pk := Eq.trans rfl rfl
/-! the combinators at slots -/
section
variable (ρ : Rho)
@[simp] theorem seqS_ap (g h : Ev Fl) : seqS g h ρ = (g ρ).bind fun f r => match f with | .nx => h r | f => .ok f r := Eq.trans rfl rfl
@[simp] theorem nxS_ap : nxS ρ = .ok .nx ρ := Eq.trans rfl rfl
@[simp] theorem pt_ap (f : Fl) : pt f ρ = .ok f ρ := Eq.trans rfl rfl
@[simp] theorem ifS_ap (c : Ev Bool) (g h : Ev Fl) : ifS c g h ρ = (c ρ).bind fun b r => if b = true then g r else h r := Eq.trans rfl rfl
@[simp] theorem setS_ap (i : Nat) (g : Ev D) : setS i g ρ = (g ρ).bind fun d r => stR (sto r i (.fz d)) := Eq.trans rfl rfl
@[simp] theorem setO_ap (i : Nat) (g : Ev Ob) : setO i g ρ = (g ρ).bind fun o r => stR (sto r i (.ow false o)) := Eq.trans rfl rfl
@[simp] theorem rtS_ap (g : Ev D) : rtS g ρ = (g ρ).bind fun d r => .ok (.rt d) r := Eq.trans rfl rfl
@[simp] theorem exS_ap {α : Type} (g : Ev α) : exS g ρ = (g ρ).bind fun _ r => .ok .nx r := Eq.trans rfl rfl
@[simp] theorem e1_ap {α : Type} (f : D → Option α) (a : Opd) : e1 f a ρ = (a.run ρ).bind fun x r => ofO ((x.fin r).bind f) r := Eq.trans rfl rfl
@[simp] theorem e2_ap {α : Type} (f : D → D → Option α) (a b : Opd) : e2 f a b ρ = (a.run ρ).bind fun x r => (b.run r).bind fun y r2 => ofO ((x.fin r2).bind fun p => (y.fin r2).bind fun q => f p q) r2 := Eq.trans rfl rfl
@[simp] theorem eT_ap (g : Ev D) : eT g ρ = (g ρ).bind fun d r => match d with | .bool b => .ok b r | _ => .no := Eq.trans rfl rfl
@[simp] theorem eC_ap (d : D) : eC d ρ = .ok d ρ := Eq.trans rfl rfl
@[simp] theorem eNot_ap (g : Ev Bool) : eNot g ρ = (g ρ).bind fun b r => .ok (!b) r := Eq.trans rfl rfl
@[simp] theorem eAnd_ap (g h : Ev Bool) : eAnd g h ρ = (g ρ).bind fun b r => if b = true then h r else .ok false r := Eq.trans rfl rfl
@[simp] theorem eOr_ap (g h : Ev Bool) : eOr g h ρ = (g ρ).bind fun b r => if b = true then .ok true r else h r := Eq.trans rfl rfl
@[simp] theorem eNotV_ap (g : Ev D) : eNotV g ρ = (g ρ).bind fun d r => match d with | .bool b => .ok (.bool (!b)) r | _ => .no := Eq.trans rfl rfl
@[simp] theorem eAndV_ap (g h : Ev D) : eAndV g h ρ = (g ρ).bind fun d r => match d with | .bool b => if b = true then h r else .ok (.bool false) r | _ => .no := Eq.trans rfl rfl
@[simp] theorem eOrV_ap (g h : Ev D) : eOrV g h ρ = (g ρ).bind fun d r => match d with | .bool b => if b = true then .ok (.bool true) r else h r | _ => .no := Eq.trans rfl rfl
@[simp] theorem eFz_ap (g : Ev Ob) : eFz g ρ = (g ρ).bind fun o r => match o with | .ls xs => .ok (.list xs) r | _ => .no := Eq.trans rfl rfl
@[simp] theorem eIf_ap {α : Type} (c : Ev Bool) (g h : Ev α) : eIf c g h ρ = (c ρ).bind fun b r => if b = true then g r else h r := Eq.trans rfl rfl
@[simp] theorem eL_nil : eL [] ρ = .ok [] ρ := Eq.trans rfl rfl
@[simp] theorem eL_cons (g : Ev D) (gs : List (Ev D)) : eL (g :: gs) ρ = (g ρ).bind fun x r => (eL gs r).bind fun xs r2 => .ok (x :: xs) r2 := Eq.trans rfl rfl
@[simp] theorem eTup_ap (gs : List (Ev D)) : eTup gs ρ = (eL gs ρ).bind fun xs r => if xs.length ≤ 16777216 then .ok (.tuple xs) r else .no := Eq.trans rfl rfl
@[simp] theorem eLst_ap (gs : List (Ev D)) : eLst gs ρ = (eL gs ρ).bind fun xs r => if xs.length ≤ 16777216 then .ok (.ls xs) r else .no := Eq.trans rfl rfl
@[simp] theorem eIt_ap (g : Ev D) : eIt g ρ = (g ρ).bind fun d r => ofO (iterD d) r := Eq.trans rfl rfl
@[simp] theorem eEn_ap (g : Ev D) : eEn g ρ = (g ρ).bind fun d r => ofO (enD d) r := Eq.trans rfl rfl
@[simp] theorem forS_ap (gi : Ev (List D)) (t : Tg) (b : Ev Fl) : forS gi t b ρ = (gi ρ).bind fun ds r => loopS t b ds r := Eq.trans rfl rfl
@[simp] theorem asgS_ap (t : Tg) (g : Ev D) : asgS t g ρ = (g ρ).bind fun d r => stR (t.f d r) := Eq.trans rfl rfl
@[simp] theorem lcE_ap (gi : Ev (List D)) (t : Tg) (tt : Ev Bool) (te : Ev D) (vs : List Nat) : lcE gi t tt te vs ρ = (gi ρ).bind fun ds r => (lcLoop t tt te vs ds 0 (wipeR r vs)).bind fun xs r2 => .ok (.ls xs) r2 := Eq.trans rfl rfl
@[simp] theorem callE_ap (F : Rho → Res D) (as : List AE) : callE F as ρ = (argsE as ρ).bind fun avs r => callR F avs r := Eq.trans rfl rfl
@[simp] theorem args_nil_ap : argsE [] ρ = .ok [] ρ := Eq.trans rfl rfl
@[simp] theorem args_cons_ap (a : AE) (as : List AE) : argsE (a :: as) ρ = (argE a ρ).bind fun x r => (argsE as r).bind fun xs r2 => .ok (x :: xs) r2 := Eq.trans rfl rfl
@[simp] theorem argE_g (e : Ev D) : argE (.g e) ρ = (e ρ).bind fun x r => .ok (.d x) r := Eq.trans rfl rfl
@[simp] theorem eM1_ap (f : Str → D → Option D) (g : Ev D) (b : Opd) : eM1 f g b ρ = (g ρ).bind fun d r => match d with | .str z => (b.run r).bind fun y r2 => ofO ((y.fin r2).bind fun e => f z e) r2 | _ => .no := Eq.trans rfl rfl
@[simp] theorem yesT_ap : yesT ρ = .ok true ρ := Eq.trans rfl rfl
end
@[simp] theorem noEr_ok {α : Type} (a : α) (r : Rho) : noEr (.ok a r) = .ok a r := Eq.trans rfl rfl
@[simp] theorem eV_ap (i : Nat) (ρ : Rho) : eV i ρ = match ρ[i]? with | some (.fz d) => .ok d ρ | some (.ow false (.ls xs)) => .ok (.list xs) (ρ.set i (.fz (.list xs))) | _ => .no := Eq.trans rfl rfl
theorem ixN_n (n j : Nat) : ixN n (j : Int) = if j < n then some j else none := by
  unfold ixN
  rw [if_pos (by omega)]
  by_cases h : j < n
  · rw [if_pos h]
    first | rw [if_pos (by omega)] | skip
    simp [-Option.bind_some, -Option.bind_none]
    try omega
  · rw [if_neg h]
    first | rw [if_neg (by omega)] | skip
@[simp] theorem ixN_l0 (n : Nat) : ixN n (0 : Int) = if 0 < n then some 0 else none := ixN_n n 0
@[simp] theorem ixN_l1 (n : Nat) : ixN n (1 : Int) = if 1 < n then some 1 else none := ixN_n n 1
@[simp] theorem ixN_l2 (n : Nat) : ixN n (2 : Int) = if 2 < n then some 2 else none := ixN_n n 2
@[simp] theorem ixN_l3 (n : Nat) : ixN n (3 : Int) = if 3 < n then some 3 else none := ixN_n n 3
@[simp] theorem ixN_l4 (n : Nat) : ixN n (4 : Int) = if 4 < n then some 4 else none := ixN_n n 4
@[simp] theorem ixN_l5 (n : Nat) : ixN n (5 : Int) = if 5 < n then some 5 else none := ixN_n n 5
/-! data -/
@[simp] theorem sh_int (i : Int) : SeqAt.shaped (.int i) = true := by simp [-Option.bind_some, -Option.bind_none, SeqAt.shaped, PyData.canLay0, PyData.depth]
@[simp] theorem sh_bool (i : Bool) : SeqAt.shaped (.bool i) = true := by simp [-Option.bind_some, -Option.bind_none, SeqAt.shaped, PyData.canLay0, PyData.depth]
@[simp] theorem sh_none : SeqAt.shaped .none = true := by simp [-Option.bind_some, -Option.bind_none, SeqAt.shaped, PyData.canLay0, PyData.depth]
@[simp] theorem eq_int (i j : Int) : eqD (.int i) (.int j) = some (.bool (decide (i = j))) := by
  unfold eqD
  rw [if_pos ⟨sh_int _, sh_int _⟩]
  simp [-Option.bind_some, -Option.bind_none, PyData.eqv, Bool.beq_eq_decide_eq]
@[simp] theorem ne_int (i j : Int) : neD (.int i) (.int j) = some (.bool (!decide (i = j))) := by
  unfold neD
  rw [if_pos ⟨sh_int _, sh_int _⟩]
  simp [-Option.bind_some, -Option.bind_none, PyData.eqv, Bool.beq_eq_decide_eq]
@[simp] theorem cmp_int (p : Int → Int → Bool) (i j : Int) : cmpI p (.int i) (.int j) = some (.bool (p i j)) := Eq.trans rfl rfl
@[simp] theorem add_int (i j : Int) : addD (.int i) (.int j) = some (.int (i + j)) := Eq.trans rfl rfl
@[simp] theorem sub_int (i j : Int) : subD (.int i) (.int j) = some (.int (i - j)) := Eq.trans rfl rfl
@[simp] theorem int_int (i : Int) : intD (.int i) = some (.int i) := Eq.trans rfl rfl
@[simp] theorem int_bool (i : Bool) : intD (.bool i) = some (.int (if i then 1 else 0)) := Eq.trans rfl rfl
@[simp] theorem len_list (xs : List D) : lenD (.list xs) = some (.int xs.length) := Eq.trans rfl rfl
@[simp] theorem len_tup (xs : List D) : lenD (.tuple xs) = some (.int xs.length) := Eq.trans rfl rfl
@[simp] theorem max_int (i j : Int) : maxD (.int i) (.int j) = some (.int (if j > i then j else i)) := Eq.trans rfl rfl
@[simp] theorem min_int (i j : Int) : minD (.int i) (.int j) = some (.int (if j < i then j else i)) := Eq.trans rfl rfl
@[simp] theorem atI_n {α : Type} (xs : List α) (j : Nat) : atI xs (j : Int) = xs[j]? := by
  cases h : xs[j]? with
  | some v => exact atI_nat h
  | none =>
    cases e : atI xs (j : Int) with
    | none => rfl
    | some v =>
      obtain ⟨k, h1, h2, h3, h4, h5⟩ := atI_get e
      have := List.getElem?_eq_none_iff.mp h
      omega
@[simp] theorem atI_l0 {α : Type} (xs : List α) : atI xs (0 : Int) = xs[0]? := atI_n xs 0
@[simp] theorem atI_l1 {α : Type} (xs : List α) : atI xs (1 : Int) = xs[1]? := atI_n xs 1
@[simp] theorem atI_l2 {α : Type} (xs : List α) : atI xs (2 : Int) = xs[2]? := atI_n xs 2
@[simp] theorem atI_l3 {α : Type} (xs : List α) : atI xs (3 : Int) = xs[3]? := atI_n xs 3
@[simp] theorem atI_l4 {α : Type} (xs : List α) : atI xs (4 : Int) = xs[4]? := atI_n xs 4
@[simp] theorem atI_l5 {α : Type} (xs : List α) : atI xs (5 : Int) = xs[5]? := atI_n xs 5
@[simp] theorem atI_l6 {α : Type} (xs : List α) : atI xs (6 : Int) = xs[6]? := atI_n xs 6
@[simp] theorem atI_l7 {α : Type} (xs : List α) : atI xs (7 : Int) = xs[7]? := atI_n xs 7
@[simp] theorem atI_l8 {α : Type} (xs : List α) : atI xs (8 : Int) = xs[8]? := atI_n xs 8
@[simp] theorem atI_l9 {α : Type} (xs : List α) : atI xs (9 : Int) = xs[9]? := atI_n xs 9
@[simp] theorem ix_list (xs : List D) (i : Int) : ixD (.list xs) (.int i) = atI xs i := Eq.trans rfl rfl
@[simp] theorem ix_tup (xs : List D) (i : Int) : ixD (.tuple xs) (.int i) = atI xs i := Eq.trans rfl rfl
@[simp] theorem app_ap (xs : List D) (d : D) : appF xs d = if xs.length < 16777216 then some (xs ++ [d]) else none := Eq.trans rfl rfl
@[simp] theorem it_list (xs : List D) : iterD (.list xs) = some xs := Eq.trans rfl rfl
@[simp] theorem it_tup (xs : List D) : iterD (.tuple xs) = some xs := Eq.trans rfl rfl
/-- a callee's view of what it is handed -/
theorem callR_ok {F : Rho → Res D} {avs : List AV} {r as out : Rho} {d : D} (h1 : (slots avs).Nodup) (h2 : mk avs r = some as) (h3 : F as = .ok d out) : callR F avs r = .ok d (put avs out r) := by
  unfold callR
  rw [if_pos h1, h2]
  simp only [h3]
theorem bodyF_rt {n : Nat} {g : Ev Fl} {as ρ0 r out : Rho} {d : D} (h : as ++ List.replicate (n - as.length) .un = ρ0) (e : g ρ0 = .ok (.rt d) r) (ho : outOf as r = out) : bodyF n g as = .ok d out := by
  subst h ho
  unfold bodyF
  rw [e]
theorem bodyF_er {n : Nat} {g : Ev Fl} {as ρ0 r out : Rho} {c : String} (h : as ++ List.replicate (n - as.length) .un = ρ0) (e : g ρ0 = .er c r) (ho : outOf as r = out) : bodyF n g as = .er c out := by
  subst h ho
  unfold bodyF
  rw [e]
/-! calls by what they answer -/
theorem callR_er {F : Rho → Res D} {avs : List AV} {r as out : Rho} {c : String} (h1 : (slots avs).Nodup) (h2 : mk avs r = some as) (h3 : F as = .er c out) : callR F avs r = .er c (put avs out r) := by
  unfold callR
  rw [if_pos h1, h2]
  simp only [h3]
theorem put_d : ∀ (avs : List AV) (out r : Rho), slots avs = [] → put avs out r = r
  | [], _, _, _ => rfl
  | .d _ :: avs, [], r, h => put_d avs [] r h
  | .d _ :: avs, _ :: out, r, h => put_d avs out r h
  | .s _ :: _, _, _, h => by cases h
theorem call2 {F : Rho → Res D} {ga gb : Ev D} {a b d : D} {ρ out : Rho} (ha : ga ρ = .ok a ρ) (hb : gb ρ = .ok b ρ) (hf : F [.fz a, .fz b] = .ok d out) : callE F [.g ga, .g gb] ρ = .ok d ρ := by
  have ea : argsE [.g ga, .g gb] ρ = .ok [.d a, .d b] ρ := by simp only [args_cons_ap, argE_g, ha, hb, Res.bind_ok, args_nil_ap]
  rw [callE_ap, ea, Res.bind_ok, callR_ok (avs := [.d a, .d b]) (as := [.fz a, .fz b]) .nil rfl hf, put_d _ _ _ rfl]
theorem call2e {F : Rho → Res D} {ga gb : Ev D} {a b : D} {c : String} {ρ out : Rho} (ha : ga ρ = .ok a ρ) (hb : gb ρ = .ok b ρ) (hf : F [.fz a, .fz b] = .er c out) : callE F [.g ga, .g gb] ρ = .er c ρ := by
  have ea : argsE [.g ga, .g gb] ρ = .ok [.d a, .d b] ρ := by simp only [args_cons_ap, argE_g, ha, hb, Res.bind_ok, args_nil_ap]
  rw [callE_ap, ea, Res.bind_ok, callR_er (avs := [.d a, .d b]) (as := [.fz a, .fz b]) .nil rfl hf, put_d _ _ _ rfl]
theorem call3 {F : Rho → Res D} {ga gb gc : Ev D} {a b c d : D} {ρ out : Rho} (ha : ga ρ = .ok a ρ) (hb : gb ρ = .ok b ρ) (hc : gc ρ = .ok c ρ) (hf : F [.fz a, .fz b, .fz c] = .ok d out) : callE F [.g ga, .g gb, .g gc] ρ = .ok d ρ := by
  have ea : argsE [.g ga, .g gb, .g gc] ρ = .ok [.d a, .d b, .d c] ρ := by simp only [args_cons_ap, argE_g, ha, hb, hc, Res.bind_ok, args_nil_ap]
  rw [callE_ap, ea, Res.bind_ok, callR_ok (avs := [.d a, .d b, .d c]) (as := [.fz a, .fz b, .fz c]) .nil rfl hf, put_d _ _ _ rfl]
theorem argE_s (i : Nat) (ρ : Rho) {b : Bool} {o : Ob} (h : ρ[i]? = some (.ow b o)) : argE (.s i) ρ = .ok (.s i) ρ := by
  show (match ρ[i]? with | some (.ow _ _) => Res.ok (AV.s i) ρ | _ => .no) = _
  rw [h]
theorem mk_s {i : Nat} {avs : List AV} {ρ as : Rho} {b : Bool} {o : Ob} (h : ρ[i]? = some (.ow b o)) (h2 : mk avs ρ = some as) : mk (.s i :: avs) ρ = some (.ow true o :: as) := by
  show (match ρ[i]? with | some (.ow _ o) => (mk avs ρ).map (Sl.ow true o :: ·) | _ => none) = _
  rw [h, h2]
  rfl
theorem put_s {i : Nat} {avs : List AV} {ρ out : Rho} {b : Bool} {o o' : Ob} (h : ρ[i]? = some (.ow b o)) (hs : slots avs = []) : put (.s i :: avs) (.ow true o' :: out) ρ = ρ.set i (.ow b o') := by
  show put avs out (ρ.set i (back (.ow true o') ρ[i]?)) = _
  rw [put_d _ _ _ hs, h]
  rfl
theorem callS0 {F : Rho → Res D} {i : Nat} {b : Bool} {o o' : Ob} {d : D} {ρ out : Rho} (h : ρ[i]? = some (.ow b o)) (hf : F [.ow true o] = .ok d (.ow true o' :: out)) : callE F [.s i] ρ = .ok d (ρ.set i (.ow b o')) := by
  have ea : argsE [.s i] ρ = .ok [.s i] ρ := by simp only [args_cons_ap, argE_s i ρ h, Res.bind_ok, args_nil_ap]
  rw [callE_ap, ea, Res.bind_ok, callR_ok (as := [.ow true o]) (by simp [-Option.bind_some, -Option.bind_none, slots]) (mk_s h rfl) hf, put_s h rfl]
theorem callS1 {F : Rho → Res D} {i : Nat} {b : Bool} {o o' : Ob} {ga : Ev D} {a d : D} {ρ out : Rho} (h : ρ[i]? = some (.ow b o)) (ha : ga ρ = .ok a ρ) (hf : F [.ow true o, .fz a] = .ok d (.ow true o' :: out)) : callE F [.s i, .g ga] ρ = .ok d (ρ.set i (.ow b o')) := by
  have ea : argsE [.s i, .g ga] ρ = .ok [.s i, .d a] ρ := by simp only [args_cons_ap, argE_s i ρ h, argE_g, ha, Res.bind_ok, args_nil_ap]
  rw [callE_ap, ea, Res.bind_ok, callR_ok (as := [.ow true o, .fz a]) (by simp [-Option.bind_some, -Option.bind_none, slots]) (mk_s h rfl) hf, put_s h rfl]
theorem callS2 {F : Rho → Res D} {i : Nat} {b : Bool} {o o' : Ob} {ga gb : Ev D} {a e d : D} {ρ out : Rho} (h : ρ[i]? = some (.ow b o)) (ha : ga ρ = .ok a ρ) (hb : gb ρ = .ok e ρ) (hf : F [.ow true o, .fz a, .fz e] = .ok d (.ow true o' :: out)) : callE F [.s i, .g ga, .g gb] ρ = .ok d (ρ.set i (.ow b o')) := by
  have ea : argsE [.s i, .g ga, .g gb] ρ = .ok [.s i, .d a, .d e] ρ := by simp only [args_cons_ap, argE_s i ρ h, argE_g, ha, hb, Res.bind_ok, args_nil_ap]
  rw [callE_ap, ea, Res.bind_ok, callR_ok (as := [.ow true o, .fz a, .fz e]) (by simp [-Option.bind_some, -Option.bind_none, slots]) (mk_s h rfl) hf, put_s h rfl]
end DL
end
section
set_option Elab.async false
set_option linter.all false
set_option maxRecDepth 100000
set_option autoImplicit false
namespace DL
open PySem PySem.Spec L2 SX

/-! ### data that can be compared -/
def okN (n : Nat) (d : D) : Prop := d.canLay0 = true ∧ d.depth ≤ n
theorem okN.mono {n m : Nat} {d : D} (h : okN n d) (l : n ≤ m) : okN m d := ⟨h.1, by have := h.2; omega⟩
theorem ok_sh {n : Nat} {d : D} (h : okN n d) (l : n ≤ 64) : SeqAt.shaped d = true := by
  unfold SeqAt.shaped
  rw [h.1, decide_eq_true (show d.depth ≤ 64 by have := h.2; omega)]
  rfl
theorem ok_int (i : Int) : okN 0 (.int i) := ⟨rfl, Nat.le_refl _⟩
theorem ok_bool (i : Bool) : okN 0 (.bool i) := ⟨rfl, Nat.le_refl _⟩
theorem ok_none : okN 0 .none := ⟨rfl, Nat.le_refl _⟩
theorem ok_str {z : Str} (h : ∀ c ∈ z.cps.toList, c < 1114112) : okN 0 (.str z) := by
  refine ⟨?_, Nat.le_refl _⟩
  show z.cps.all _ = true
  rw [Array.all_eq_true_iff_forall_mem]
  intro c hc
  exact decide_eq_true (h c (by simpa using hc))
theorem ok_all {n : Nat} : ∀ {ds : List D}, (∀ d ∈ ds, okN n d) → PyData.canLayAll0 ds = true ∧ PyData.depthAll ds ≤ n
  | [], _ => ⟨rfl, Nat.zero_le _⟩
  | d :: ds, h => by
    obtain ⟨h1, h2⟩ := ok_all (ds := ds) fun x hx => h x (by simp [hx])
    have h0 := h d (by simp)
    constructor
    · show (d.canLay0 && PyData.canLayAll0 ds) = true
      rw [h0.1, h1]; rfl
    · show max d.depth (PyData.depthAll ds) ≤ n
      have := h0.2
      omega
theorem ok_list {n : Nat} {ds : List D} (h : ∀ d ∈ ds, okN n d) : okN (n + 1) (.list ds) := by
  obtain ⟨h1, h2⟩ := ok_all h
  exact ⟨h1, by show PyData.depthAll ds + 1 ≤ n + 1; omega⟩
theorem ok_tup {n : Nat} {ds : List D} (h : ∀ d ∈ ds, okN n d) : okN (n + 1) (.tuple ds) := by
  obtain ⟨h1, h2⟩ := ok_all h
  exact ⟨h1, by show PyData.depthAll ds + 1 ≤ n + 1; omega⟩
theorem all_ok {n : Nat} : ∀ {ds : List D}, PyData.canLayAll0 ds = true → PyData.depthAll ds ≤ n → ∀ d ∈ ds, okN n d
  | [], _, _, d, h => by simp at h
  | x :: ds, h1, h2, d, h => by
    have h1 : (x.canLay0 && PyData.canLayAll0 ds) = true := h1
    have h2 : max x.depth (PyData.depthAll ds) ≤ n := h2
    simp only [Bool.and_eq_true] at h1
    rcases List.mem_cons.mp h with e | e
    · subst e; exact ⟨h1.1, by omega⟩
    · exact all_ok h1.2 (by omega) d e
theorem list_ok {n : Nat} {ds : List D} (h : okN (n + 1) (.list ds)) : ∀ d ∈ ds, okN n d := by
  obtain ⟨h1, h2⟩ := h
  have h2 : PyData.depthAll ds + 1 ≤ n + 1 := h2
  exact all_ok h1 (by omega)
theorem tup_ok {n : Nat} {ds : List D} (h : okN (n + 1) (.tuple ds)) : ∀ d ∈ ds, okN n d := by
  obtain ⟨h1, h2⟩ := h
  have h2 : PyData.depthAll ds + 1 ≤ n + 1 := h2
  exact all_ok h1 (by omega)
/-! ### equality and membership -/
theorem eqD_ok {d e : D} (h1 : okN 64 d) (h2 : okN 64 e) : eqD d e = some (.bool (PyData.eqv d e)) := if_pos ⟨ok_sh h1 (by omega), ok_sh h2 (by omega)⟩
theorem neD_ok {d e : D} (h1 : okN 64 d) (h2 : okN 64 e) : neD d e = some (.bool (!PyData.eqv d e)) := if_pos ⟨ok_sh h1 (by omega), ok_sh h2 (by omega)⟩
theorem inL_ok {d : D} {ds : List D} (h1 : okN 64 d) (h2 : ∀ x ∈ ds, okN 63 x) : inD d (.list ds) = some (.bool (inAny d ds)) := by
  cases d <;> first | (show (if SeqAt.shaped _ = true ∧ SeqAt.shaped (.list ds) = true then some (PyData.bool (inAny _ ds)) else none) = _; exact if_pos ⟨ok_sh h1 (by omega), ok_sh (ok_list h2) (by omega)⟩) | exact absurd h1.1 (by intro z; cases z)
theorem inT_ok {d : D} {ds : List D} (h1 : okN 64 d) (h2 : ∀ x ∈ ds, okN 63 x) : inD d (.tuple ds) = some (.bool (inAny d ds)) := by
  cases d <;> first | (show (if SeqAt.shaped _ = true ∧ SeqAt.shaped (.tuple ds) = true then some (PyData.bool (inAny _ ds)) else none) = _; exact if_pos ⟨ok_sh h1 (by omega), ok_sh (ok_tup h2) (by omega)⟩) | exact absurd h1.1 (by intro z; cases z)
theorem ninL_ok {d : D} {ds : List D} (h1 : okN 64 d) (h2 : ∀ x ∈ ds, okN 63 x) : notInD d (.list ds) = some (.bool (!inAny d ds)) := by
  cases d <;> first | (show (if SeqAt.shaped _ = true ∧ SeqAt.shaped (.list ds) = true then some (PyData.bool (!inAny _ ds)) else none) = _; exact if_pos ⟨ok_sh h1 (by omega), ok_sh (ok_list h2) (by omega)⟩) | exact absurd h1.1 (by intro z; cases z)
theorem ninT_ok {d : D} {ds : List D} (h1 : okN 64 d) (h2 : ∀ x ∈ ds, okN 63 x) : notInD d (.tuple ds) = some (.bool (!inAny d ds)) := by
  cases d <;> first | (show (if SeqAt.shaped _ = true ∧ SeqAt.shaped (.tuple ds) = true then some (PyData.bool (!inAny _ ds)) else none) = _; exact if_pos ⟨ok_sh h1 (by omega), ok_sh (ok_tup h2) (by omega)⟩) | exact absurd h1.1 (by intro z; cases z)
/-- an encoding under which equality is equality -/
def Enc {β : Type} [DecidableEq β] (f : β → D) : Prop := ∀ a b, PyData.eqv (f a) (f b) = decide (a = b)
theorem inAny_map {β : Type} [DecidableEq β] {f : β → D} (h : Enc f) (a : β) (l : List β) : inAny (f a) (l.map f) = decide (a ∈ l) := by
  unfold inAny
  rw [List.any_map]
  induction l with
  | nil => simp
  | cons b l ih =>
    rw [List.any_cons, ih]
    show (PyData.eqv (f b) (f a) || _) = _
    rw [h b a]
    by_cases e : a = b
    · simp [e]
    · have e2 : b ≠ a := fun z => e z.symm
      simp [e, e2]
theorem inAny_mem {β : Type} [DecidableEq β] {f : β → D} (h : Enc f) (a : β) (l : List β) (i : Decidable (a ∈ l)) : inAny (f a) (l.map f) = @decide (a ∈ l) i := by
  rw [inAny_map h a l]
  exact decide_eq_decide.mpr Iff.rfl
theorem enc_int : Enc (fun i : Int => PyData.int i) := fun a b => by simp [PyData.eqv, Bool.beq_eq_decide_eq]
def I (k : Nat) : D := .int (k : Int)
theorem enc_I : Enc I := fun a b => by
  show (((a : Int) == (b : Int)) : Bool) = _
  rw [Bool.beq_eq_decide_eq]
  by_cases h : a = b <;> simp [h] <;> omega
def chr (c : Nat) : D := .str (S [c])
theorem enc_str : Enc (fun z : Str => PyData.str z) := fun a b => by
  show ((a == b) : Bool) = _
  by_cases h : a = b <;> simp [h]
theorem enc_chr : Enc chr := fun a b => by
  show ((S [a] == S [b]) : Bool) = _
  rw [S_beq_eq]
  by_cases h : a = b <;> simp [h]
theorem enc_tup {β : Type} [DecidableEq β] {f : β → D} (h : Enc f) : Enc (fun l : List β => PyData.tuple (l.map f)) := fun a b => by
  show PyData.eqvAll (a.map f) (b.map f) = _
  induction a generalizing b with
  | nil => cases b <;> simp [PyData.eqvAll]
  | cons x a ih =>
    cases b with
    | nil => simp [PyData.eqvAll]
    | cons y b =>
      show (PyData.eqv (f x) (f y) && PyData.eqvAll (a.map f) (b.map f)) = _
      rw [h x y, ih b]
      by_cases e : x = y <;> simp [e]
theorem enc_list {β : Type} [DecidableEq β] {f : β → D} (h : Enc f) : Enc (fun l : List β => PyData.list (l.map f)) := fun a b => by
  show PyData.eqvAll (a.map f) (b.map f) = _
  exact enc_tup h a b
/-- p, q as a pair -/
def pD (p : Nat × Nat) : D := .tuple [I p.1, I p.2]
theorem enc_pD : Enc pD := fun a b => by
  show ((PyData.eqv (I a.1) (I b.1)) && (PyData.eqv (I a.2) (I b.2) && true)) = _
  rw [enc_I, enc_I]
  obtain ⟨a1, a2⟩ := a
  obtain ⟨b1, b2⟩ := b
  by_cases e : a1 = b1 <;> by_cases e2 : a2 = b2 <;> simp [e, e2]
theorem ok_I (k : Nat) : okN 0 (I k) := ok_int _
theorem ok_pD (p : Nat × Nat) : okN 1 (pD p) := ok_tup fun d h => by
  simp only [List.mem_cons, List.not_mem_nil, or_false] at h
  rcases h with e | e <;> (rw [e]; exact ok_I _)
theorem ok_chr {c : Nat} (h : c < 1114112) : okN 0 (chr c) := ok_str fun d hd => by
  simp [S] at hd
  omega
/-! ### the same as itself -/
mutual
theorem eqv_refl : ∀ d : D, d.canLay0 = true → PyData.eqv d d = true
  | .none, _ => rfl
  | .bool a, _ => by simp [PyData.eqv]
  | .int a, _ => by simp [PyData.eqv]
  | .str a, _ => by simp [PyData.eqv]
  | .list xs, h => eqvAll_refl xs h
  | .tuple xs, h => eqvAll_refl xs h
  | .dict _, h => by cases h
theorem eqvAll_refl : ∀ ds : List D, PyData.canLayAll0 ds = true → PyData.eqvAll ds ds = true
  | [], _ => rfl
  | d :: ds, h => by
    have h : (d.canLay0 && PyData.canLayAll0 ds) = true := h
    simp only [Bool.and_eq_true] at h
    show (PyData.eqv d d && PyData.eqvAll ds ds) = true
    rw [eqv_refl d h.1, eqvAll_refl ds h.2]
    rfl
end
/-! ### ranges -/
theorem rgD_n (n : Nat) : rgD 0 (n : Int) = (List.range n).map I := by
  unfold rgD I
  have e : ((n : Int) - 0).toNat = n := by omega
  rw [e]
  refine List.map_congr_left fun i _ => ?_
  rw [Int.zero_add]
theorem rg1_n (n : Nat) (h : n < 4611686018427387904) : rg1D (.int (n : Int)) = some ((List.range n).map I) := by
  have e : (2 ^ 62 : Int) = 4611686018427387904 := by decide
  have c : -(2 ^ 62) ≤ (n : Int) ∧ (n : Int) < 2 ^ 62 := by
    rw [e]
    constructor <;> omega
  have z : rg1D (.int (n : Int)) = if -(2 ^ 62) ≤ (n : Int) ∧ (n : Int) < 2 ^ 62 then some (rgD 0 (n : Int)) else none := rfl
  rw [z, if_pos c, rgD_n]
theorem rg1_I (n : Nat) (h : n < 4611686018427387904) : rg1D (I n) = some ((List.range n).map I) := rg1_n n h
/-! ### pigeons -/
theorem nodup_sub_len {α : Type} [DecidableEq α] : ∀ {l m : List α}, l.Nodup → (∀ x ∈ l, x ∈ m) → l.length ≤ m.length
  | [], _, _, _ => Nat.zero_le _
  | a :: l, m, h, s => by
    obtain ⟨h1, h2⟩ := List.nodup_cons.mp h
    have ha := s a (by simp)
    have := nodup_sub_len (l := l) (m := m.erase a) h2 fun x hx => by
      have ne : x ≠ a := fun e => h1 (e ▸ hx)
      exact (List.mem_erase_of_ne ne).mpr (s x (by simp [hx]))
    rw [List.length_erase_of_mem ha] at this
    have : 0 < m.length := List.length_pos_of_mem ha
    simp only [List.length_cons]
    omega
theorem nodup_idx {α : Type} {l : List α} (h : l.Nodup) {i j : Nat} (hi : i < l.length) (hj : j < l.length) (e : l[i] = l[j]) : i = j := by
  have p := List.pairwise_iff_getElem.mp h
  rcases Nat.lt_trichotomy i j with c | c | c
  · exact absurd e (p i j hi hj c)
  · exact c
  · exact absurd e.symm (p j i hj hi c)
/-! ### signs in texts -/
theorem idx_one (a : List Nat) (c i : Nat) (h : a[i]? = some c) (hd : a.Nodup) : sindexD (S a) (chr c) = some (I i) := by
  unfold sindexD chr
  show ((occs (S a) (S [c])).head?.map fun i => PyData.int (i : Nat)) = _
  rcases StrLaws.occ_head (S a) ⟨#[c]⟩ 1 (Nat.le_refl 1) with ⟨_, hn⟩ | ⟨j, r, h0, hj, _⟩
  · exact absurd ((StrLaws.subAt_one (S a) c i).mpr (by simpa [S] using h)) (hn i)
  · have e : occs (S a) (S [c]) = j :: r := h0
    rw [e]
    have hj := (StrLaws.subAt_one (S a) c j).mp hj
    have hj : a[j]? = some c := by simpa [S] using hj
    have : i = j := by
      obtain ⟨l1, e1⟩ := List.getElem?_eq_some_iff.mp h
      obtain ⟨l2, e2⟩ := List.getElem?_eq_some_iff.mp hj
      exact nodup_idx hd l1 l2 (e1.trans e2.symm)
    subst this
    rfl
theorem inS_one (a : List Nat) (c : Nat) : inD (chr c) (.str (S a)) = some (.bool (decide (c ∈ a))) := by
  show some (PyData.bool (!(Builtin.Str.occurrences (S a) (S [c]) 0 (S a).length 1).isEmpty)) = _
  rw [in_one]
theorem ninS_one (a : List Nat) (c : Nat) : notInD (chr c) (.str (S a)) = some (.bool (!decide (c ∈ a))) := by
  show some (PyData.bool (!(!(Builtin.Str.occurrences (S a) (S [c]) 0 (S a).length 1).isEmpty))) = _
  rw [in_one]
theorem it_str (a : List Nat) : iterD (.str (S a)) = some (a.map chr) := by
  show some (((S a).cps.toList).map fun c => PyData.str ⟨#[c]⟩) = _
  rfl
theorem len_str (a : List Nat) (h : a.length ≤ 16777216) : lenD (.str (S a)) = some (I a.length) := by
  show (if (S a).length ≤ 16777216 then some (PyData.int (S a).length) else none) = _
  rw [if_pos (by rw [S_len]; exact h), S_len]
  rfl
theorem ix_str (a : List Nat) (i c : Nat) (h : a.length ≤ 16777216) (e : a[i]? = some c) : ixD (.str (S a)) (I i) = some (chr c) := by
  show (if (S a).length ≤ 16777216 then (atI (S a).cps.toList (i : Int)).map fun c => PyData.str ⟨#[c]⟩ else none) = _
  rw [if_pos (by rw [S_len]; exact h), atI_n]
  show Option.map _ (a[i]?) = _
  rw [e]
  rfl
theorem add_str (a b : List Nat) (h : a.length + b.length ≤ 16777216) : addD (.str (S a)) (.str (S b)) = some (.str (S (a ++ b))) := by
  show (if (S a).length + (S b).length ≤ 16777216 then some (PyData.str (S a ++ S b)) else none) = _
  rw [if_pos (by rw [S_len, S_len]; exact h), S_cat]
end DL
end
section
set_option Elab.async false
set_option linter.all false
set_option maxRecDepth 100000
set_option autoImplicit false
namespace DL
open PySem PySem.Spec L2
/-! ### startswith -/
def swD (z : Str) : D → Option D
  | .str y => some (.bool (Txt.startswith z y))
  | _ => none
def rSw : V → List V → Hp → VK → Prop := fun x xs H Q => ∃ a b, x = .str a ∧ xs = [.str b] ∧ Q (.bl (Txt.startswith a b)) H
theorem sm_sw {K : PySem.W.Frag} : Sm1 K rSw swD := by
  intro G H z w d2 d Q s h2 e k
  unfold swD at e
  split at e
  · rename_i y
    cases e
    rw [h2.str]
    exact ⟨z, y, rfl, rfl, keep_ k (.bl _)⟩
  · cases e
section
variable {X : Cx} {cl : Cl} {W : WX} {o a b : Expr} {A : Opd} {g gb : Ev D} {apos cpos p p2 pos pos2 : Pos} {tg : Expr}
theorem d_sw (ho : PE X o (tE X.K cl W g)) (ha : PE X a (tP X.K cl W A)) (hbase : attributeBase o "startswith" X.env (eval o X.env) = eval o X.env := by rfl)
    (hfew : ((backTo cpos (starEach [a] X.env)).all (fun x => !x.1) && (backToKw cpos (keywordEach [] X.env)).all (fun x => x.1.isSome)
      && decide (([a] : List Expr).length + ([] : List Keyword).length + (if ([] : List Keyword).isEmpty then 0 else 1) < 30)) = true := by rfl)
    (hline : (apos.endLine == cpos.line) = true := by rfl) (hs : starEach [a] X.env = (false, eval a X.env) :: starEach [] X.env := by rfl) (hplain : (backTo cpos (starEach [] X.env)).any (·.1) = false := by rfl) :
    PE X (.Call (.Attribute o "startswith" apos) [a] [] cpos) (tE X.K cl W (eM1 swD g A)) := d_m1 PySem.F.slot_str_startswith PySem.F.type_str_startswith mt_startswith sm_sw ho ha hbase hfew hline hs hplain
/-! ### reversed(range(n)) -/
theorem walk_rr {K : PySem.W.Frag} {G : Hp} {n : Nat} : WalkD K (Itc ((n : Int) - 1) (-1) n) G ((List.range n).reverse.map fun i => PyData.int (i : Nat)) := by
  refine ⟨fun H s => ?_, fun i d H e s => ?_⟩
  · show n ≤ _
    simp
  · have hi : i < n := by
      have := (List.getElem?_eq_some_iff.mp e).1
      simpa using this
    rw [List.getElem?_map, List.getElem?_reverse (by simpa using hi), List.length_range, List.getElem?_range (by omega)] at e
    cases e
    refine ⟨hi, fun x H' y => ?_⟩
    obtain ⟨rfl, rfl⟩ := y
    have z : (n : Int) - 1 + (i : Nat) * -1 = ((n - 1 - i : Nat) : Int) := by omega
    rw [z]
    exact ⟨Same.refl _, .int _⟩
def rr1D : D → Option (List D)
  | .int j => if -(2 ^ 62) ≤ j ∧ j < 2 ^ 62 then some ((List.range j.toNat).reverse.map fun i => .int (i : Nat)) else none
  | _ => none
def eRr (g : Ev D) : Ev (List D) := fun ρ => (g ρ).bind fun d r => ofO (rr1D d) r
theorem i_revr1 (hg0 : Gl X "reversed") (hm0 : X.mg "reversed" = none) (hg : Gl X "range") (hm : X.mg "range" = none) (ha : PE X a (tE X.K cl W g))
    (na : starEach [a] X.env = (false, eval a X.env) :: starEach [] X.env := by rfl)
    (hs : starEach [Expr.Call (.Name "range" p2) [a] [] pos2] X.env = (false, eval (Expr.Call (.Name "range" p2) [a] [] pos2) X.env) :: starEach [] X.env := by rfl) :
    PI X tg (.Call (.Name "reversed" p) [.Call (.Name "range" p2) [a] [] pos2] [] pos) (tI X.K cl W (eRr g)) := by
  refine PI.weak (pi_revR hg0 hm0 (prg_1 hg hm ha na) hs) ?_
  rintro σ H Q ⟨M, ρ, R, q⟩
  refine tG_bind R q fun v d ρ1 H1 _ g1 R1 q1 p1 => ?_
  have p1 : Pst X.K cl W _ M σ ρ1 H1 (ofO (rr1D d) ρ1) Q := p1
  cases d with
  | int j =>
    simp only [rr1D] at p1
    split at p1
    · rename_i hc
      have ev : v = .int j := by cases q1; rfl
      refine ⟨j, ev, by decide, by decide, hc.1, hc.2, p1 _ H1 Go.refl R1 ?_⟩
      have z : (j - 0).toNat = j.toNat := by simp
      rw [z]
      have z2 : (0 : Int) + ((j.toNat : Nat) : Int) - 1 = ((j.toNat : Nat) : Int) - 1 := by omega
      rw [z2]
      exact walk_rr
    · exact p1.elim
  | none => exact p1.elim
  | bool _ => exact p1.elim
  | str _ => exact p1.elim
  | list _ => exact p1.elim
  | tuple _ => exact p1.elim
  | dict _ => exact p1.elim
/-- xs.pop() -/
def pop0E (i : Nat) : Ev D := fun ρ => match ρ[i]? with
  | some (.ow b (.ls xs)) => match xs[xs.length - 1]? with
    | some x => .ok x (ρ.set i (.ow b (.ls xs.dropLast)))
    | none => .no
  | _ => .no
theorem DdAll.dropLast {K : PySem.W.Frag} {G : Hp} {vs : List V} {ds : List D} (h : DdAll K G vs ds) : DdAll K G vs.dropLast ds.dropLast := by
  rw [List.dropLast_eq_take, List.dropLast_eq_take, h.length]
  exact h.take _
theorem d_pop0 {i : Nat} (ho : PE X o (tVar i)) (hbase : attributeBase o "pop" X.env (eval o X.env) = eval o X.env := by rfl) (hline : (apos.endLine == cpos.line) = true := by rfl) :
    PE X (.Call (.Attribute o "pop" apos) [] [] cpos) (tE X.K cl W (pop0E i)) := by
  refine PE.weak (pe_bm0 PySem.F.plainAttrs_list PySem.F.slot_list_pop PySem.F.type_list_pop mt_pop ho hbase hline) ?_
  rintro σ H Q ⟨M, ρ, R, p⟩
  unfold pop0E at p
  split at p
  · rename_i b xs e
    split at p
    · rename_i x ex
      obtain ⟨q, hq, vs, hv, hd⟩ := R.slot e
      obtain ⟨vx, hvx, hdx⟩ := hd.get ex
      obtain ⟨R3, g3⟩ := R.obj (o' := .ls xs.dropLast) (u := .lst vs.dropLast) e hq ⟨_, upd_same, hd.dropLast⟩
      refine ⟨_, hq, .inl ⟨rfl, vs, .inl (.inl hv)⟩, q, vs, vx, rfl, rfl, hv, by rw [hd.length]; exact hvx, ?_⟩
      exact p _ _ g3 R3 (dd_mono g3.same _ _ hdx)
    · exact p.elim
  · exact p.elim
/-- x.m(a, b), x a text -/
def eM2 (f : Str → D → D → Option D) (g : Ev D) (A B : Opd) : Ev D := fun ρ => (g ρ).bind fun d r => match d with
  | .str z => (A.run r).bind fun x r1 => (B.run r1).bind fun y r2 => ofO ((x.fin r2).bind fun p => (y.fin r2).bind fun q => f z p q) r2
  | _ => .no
def sw3D (z : Str) : D → D → Option D
  | .str y, .int i => some (.bool (Txt.startswith3 z y i))
  | _, _ => none
theorem d_sw3 {B : Opd} (ho : PE X o (tE X.K cl W g)) (ha : PE X a (tP X.K cl W A)) (hb : PE X b (tP X.K cl W B)) (hbase : attributeBase o "startswith" X.env (eval o X.env) = eval o X.env := by rfl)
    (hfew : ((backTo cpos (starEach [a, b] X.env)).all (fun x => !x.1) && (backToKw cpos (keywordEach [] X.env)).all (fun x => x.1.isSome)
      && decide (([a, b] : List Expr).length + ([] : List Keyword).length + (if ([] : List Keyword).isEmpty then 0 else 1) < 30)) = true := by rfl)
    (hline : (apos.endLine == cpos.line) = true := by rfl) (hs : starEach [a, b] X.env = (false, eval a X.env) :: starEach [b] X.env := by rfl) (hs2 : starEach [b] X.env = (false, eval b X.env) :: starEach [] X.env := by rfl) (hplain : (backTo cpos (starEach [b] X.env)).any (·.1) = false := by rfl) :
    PE X (.Call (.Attribute o "startswith" apos) [a, b] [] cpos) (tE X.K cl W (eM2 sw3D g A B)) := by
  refine PE.weak (pe_bm PySem.F.plainAttrs_str PySem.F.slot_str_startswith PySem.F.type_str_startswith mt_startswith3 ho (pa_cons ha (pa_cons hb pa_nil hs2) hs) hbase hfew hline hs hplain) ?_
  rintro σ H Q ⟨M, ρ, R, p⟩
  refine tG_bind R p fun v d ρ1 H1 _ g1 R1 q1 p1 => ?_
  cases d with
  | str z =>
    have e : v = .str z := by cases q1; rfl
    subst e
    refine ⟨rfl, ?_⟩
    refine tG_bind R1 p1 fun w y ρ2 H2 _ g2 R2 q2 p2 => ?_
    refine tG_bind R2 p2 fun u x ρ3 H3 _ g3 R3 q3 p3 => ?_
    refine end_d R3 p3 fun d e k => ?_
    obtain ⟨d1, e1, e⟩ := Option.bind_eq_some_iff.mp e
    obtain ⟨d2, e2, e⟩ := Option.bind_eq_some_iff.mp e
    have h1 := RV0.fin R3 (RV0.go g3 q2) e1
    have h2 := RV0.fin R3 q3 e2
    unfold sw3D at e
    split at e
    · cases e
      exact ⟨z, _, _, rfl, by rw [h1.str, h2.int], keep_ k (.bl _)⟩
    · cases e
  | none => exact p1.elim
  | bool _ => exact p1.elim
  | int _ => exact p1.elim
  | list _ => exact p1.elim
  | tuple _ => exact p1.elim
  | dict _ => exact p1.elim
end
end DL
end
section
set_option Elab.async false
set_option linter.all false
set_option maxRecDepth 100000
set_option autoImplicit false
namespace DL
open PySem PySem.Spec L2
/-! ### xs.sort(), the items without lists -/
mutual
def noL : D → Bool
  | .list _ => false
  | .dict _ => false
  | .tuple xs => noLs xs
  | _ => true
def noLs : List D → Bool
  | [] => true
  | x :: xs => noL x && noLs xs
end
mutual
theorem reads_nil {h : Heap} : ∀ {v : Value} {d : D} {as : List Addr}, Reads h v d as → noL d = true → as = []
  | _, _, _, .none, _ => rfl
  | _, _, _, .bool _, _ => rfl
  | _, _, _, .int _ _, _ => rfl
  | _, _, _, .str _ _, _ => rfl
  | _, _, _, .tuple _ _ _ r, e => readsAll_nil r (by unfold noL at e; exact e)
  | _, _, _, .list _ _ _ _, e => by unfold noL at e; cases e
  | _, _, _, .dict _ _ _ _ _, e => by unfold noL at e; cases e
theorem readsAll_nil {h : Heap} : ∀ {vs : List Value} {ds : List D} {as : List Addr}, ReadsAll h vs ds as → noLs ds = true → as = []
  | _, _, _, .nil, _ => rfl
  | _, _, _, .cons r t, e => by
    unfold noLs at e
    simp only [Bool.and_eq_true] at e
    rw [reads_nil r e.1, readsAll_nil t e.2]
    rfl
end
def rSortD (K : PySem.W.Frag) : V → List V → Hp → VK → Prop := fun x xs H Q => ∃ (p : Addr) (bs : List (V × D)), x = .ref p ∧ xs = [] ∧ H p = some (.lst (bs.map Prod.fst)) ∧ (∀ b ∈ bs, Dp K H b.1 b.2) ∧ (∀ b ∈ bs, noL b.2 = true) ∧ PySem.W.AllAlike (bs.map Prod.snd) ∧ PySem.W.Sortable (bs.map Prod.snd) ∧ (∀ b ∈ bs, b.2.depth ≤ 64) ∧
  Q .non (upd H p (.lst ((bs.mergeSort (PySem.W.dataLe false Prod.snd)).map Prod.fst)))
section
variable {X : Cx}
theorem each_readsN {pins : List (Addr × Obj)} {σ : St} {H : Hp} {s : Shared} {p : Addr} (I : Inv X pins σ H s) {bs : List (V × D)} (h : ∀ b ∈ bs, Dp X.K H b.1 b.2) (hn : ∀ b ∈ bs, noL b.2 = true) : ∀ {us : List Value}, Vals (bs.map Prod.fst) us → PySem.W.EachIs (fun u (b : V × D) => ∃ as, Reads s.heap u b.2 as ∧ p ∉ as) us bs := by
  induction bs with
  | nil => intro us h; cases h; exact .nil
  | cons b bs ih =>
    intro us hv
    cases hv with
    | cons r t =>
      obtain ⟨as, ra⟩ := Dp.reads I _ _ _ (h b (by simp)) r
      refine .cons ⟨as, ra, ?_⟩ (ih (fun c hc => h c (by simp [hc])) (fun c hc => hn c (by simp [hc])) t)
      rw [reads_nil ra (hn b (by simp))]
      simp
theorem mt_sortD (hu : X.A.units + 200 < cLine) : MtR X "list.sort" (rSortD X.K) := by
  intro pins s σ H x xs v us Q I rx rxs h
  obtain ⟨p, bs, rfl, rfl, hp, hd, hn, ha, hs, hdep, q⟩ := h
  cases rx
  cases rxs
  obtain ⟨z, its, n, rv, hl, e⟩ := I.lstM hp
  have hz : bs.length ≤ sizeLine := by simpa using z
  refine PySem.W.list_sort_data (vs := its) (bs := bs) (enc := Prod.snd) (R := fun u b => RelV b.1 u) e (vals_each rv) (each_readsN I hd hn rv) ha hs hz (fun b hb => by have := hdep b hb; omega) fun out ho eo => ?_
  obtain ⟨ep, he'⟩ := PyProof.Rows.sortedHeap_at (vs := its) (out := out.toArray) e
  have hlen : ((bs.mergeSort (PySem.W.dataLe false Prod.snd)).map Prod.fst).length ≤ sizeLine := by rw [List.length_map, List.length_mergeSort]; exact hz
  refine ⟨.non, upd H p (.lst ((bs.mergeSort (PySem.W.dataLe false Prod.snd)).map Prod.fst)), I.write (e := p) (t' := s.toks) (by rw [hp]; trivial) (.inl rfl) (fun b u hb hu => ?_) ⟨_, he'⟩ ⟨hlen, out, ep, each_vals eo, he'⟩, rfl, q⟩
  rw [PyProof.Rows.sortedHeap_old hb (Heap.lt_size hu)]; exact hu
def sortS (i : Nat) : Ev Fl := fun ρ => match ρ[i]? with
  | some (.ow b (.ls xs)) => if sortOk xs = true ∧ noLs xs = true then .ok .nx (ρ.set i (.ow b (.ls (sortL xs)))) else .no
  | _ => .no
theorem noLs_all : ∀ {ds : List D}, noLs ds = true → ∀ d ∈ ds, noL d = true
  | [], _, _, h => by cases h
  | x :: xs, e, d, h => by
    unfold noLs at e
    simp only [Bool.and_eq_true] at e
    rcases List.mem_cons.mp h with z | z
    · rw [z]; exact e.1
    · exact noLs_all e.2 d z
variable {cl : Cl} {W : WX} {o : Expr} {apos cpos pos : Pos} {i : Nat}
theorem s_sort (hu : X.A.units + 200 < cLine) (ho : PE X o (tVar i)) (hsw : swapsWith (.Call (.Attribute o "sort" apos) [] [] cpos) none pos.line X.env = pure false := by rfl)
    (hbase : attributeBase o "sort" X.env (eval o X.env) = eval o X.env := by rfl) (hline : (apos.endLine == cpos.line) = true := by rfl) :
    PS X (.Expr (.Call (.Attribute o "sort" apos) [] [] cpos) pos) (tS X.K cl W (sortS i)) := by
  refine PS.weak (ps_expr (pe_bm0 PySem.F.plainAttrs_list PyProof.Rows.slot_list_sort PySem.F.type_list_sort (mt_sortD hu) ho hbase hline) hsw) ?_
  rintro E σ H ⟨M, ρ, R, p⟩
  unfold sortS at p
  split at p
  · rename_i b ds e
    split at p
    · rename_i hc
      obtain ⟨q, hq, vs, hv, hd⟩ := R.slot e
      obtain ⟨z1, z2, z3⟩ := zip_dd hd
      obtain ⟨c1, c2, c3⟩ := sortOk_of hc.1
      have e2 : sortL ds = ((vs.zip ds).mergeSort (PySem.W.dataLe false Prod.snd)).map Prod.snd := by
        have z := PySem.W.sort_maps (r := PySem.W.dataLe false (Prod.snd : V × D → D)) (s := PySem.W.dataLe false id) (Prod.snd : V × D → D) (l := vs.zip ds) (fun _ _ _ _ => rfl)
        rw [z2] at z
        exact z.symm
      have dd : DdAll X.K (rs (Mu M σ ρ) H) (((vs.zip ds).mergeSort (PySem.W.dataLe false Prod.snd)).map Prod.fst) (sortL ds) := by
        rw [e2]
        exact dd_zip fun b hb => z3 b ((List.mergeSort_perm _ _).mem_iff.mp hb)
      obtain ⟨R3, g3⟩ := R.obj (o' := .ls (sortL ds)) (u := .lst (((vs.zip ds).mergeSort (PySem.W.dataLe false Prod.snd)).map Prod.fst)) e hq ⟨_, upd_same, dd⟩
      refine ⟨_, hq, .inl ⟨rfl, vs, .inl (.inl hv)⟩, q, vs.zip ds, rfl, rfl, by rw [z1]; exact hv, fun b hb => Dd.dp _ _ (dd_mono (rs_sub _ _) _ _ (z3 b hb)), fun b hb => noLs_all hc.2 b.2 (by rw [← z2]; exact List.mem_map_of_mem hb), by rw [z2]; exact c1, by rw [z2]; exact c2, fun b hb => c3 b.2 (by rw [← z2]; exact List.mem_map_of_mem hb), ?_⟩
      exact p σ _ g3 R3
    · exact p.elim
  · exact p.elim
end
end DL
end
section
set_option Elab.async false
set_option linter.all false
set_option maxRecDepth 100000
set_option autoImplicit false
namespace DL
open PySem PySem.Spec PyProof.Rows L2

/-! ### sets of texts and ints: their members, whatever the order -/
def MemE (P : Program) (w : World) (en : Int × Value) (k : Key) : Prop := (mixKind P w).is k en.2 = true ∧ en.1 = (mixKind P w).hash k ∧ en.2.scannable = true
/-- the set at a has just the members ks -/
def SG (P : Program) (w : World) (hp : Heap) (a : Addr) (ks : List Key) : Prop :=
  ∃ ob els ep tb l, hp.get? a = some ob ∧ ob.ExactSet ∧ ob.data = .set els ep tb ∧ Paired (MemE P w) els.toList l ∧ l.Nodup ∧ (∀ k, k ∈ l ↔ k ∈ ks) ∧
    tb.fits els.size = true ∧ Ris tb.place.toList ∧ (w.params.followText "set-order" = true ∨ tb.led = true)
theorem paired_len {α β : Type} {F : α → β → Prop} : ∀ {xs : List α} {ys : List β}, Paired F xs ys → xs.length = ys.length
  | _, _, .nil => rfl
  | _, _, .cons _ t => by simp [paired_len t]
section
variable {P : Program} {w : World} {hp hp' : Heap} {a : Addr} {ks : List Key}
theorem SG.at (g : SG P w hp a ks) (k : ∀ o, hp.get? a = some o → hp'.get? a = some o) : SG P w hp' a ks := by
  obtain ⟨ob, els, ep, tb, l, ho, r⟩ := g
  exact ⟨ob, els, ep, tb, l, k ob ho, r⟩
theorem SG.congr {js : List Key} (g : SG P w hp a ks) (e : ∀ k, k ∈ ks ↔ k ∈ js) : SG P w hp a js := by
  obtain ⟨ob, els, ep, tb, l, ho, h1, h2, h3, h4, h5, r⟩ := g
  exact ⟨ob, els, ep, tb, l, ho, h1, h2, h3, h4, fun k => (h5 k).trans (e k), r⟩
theorem mem_elems {es : List (Int × Value)} {l : List Key} (p : Paired (MemE P w) es l) : ElemsOf (mixKind P w) es := by
  intro en hen
  induction p with
  | nil => cases hen
  | @cons x y xs ys r t ih =>
    rcases List.mem_cons.mp hen with q | q
    · rw [q]; exact ⟨⟨y, r.1, r.2.1⟩, r.2.2⟩
    · exact ih q
theorem mem_find {es : List (Int × Value)} {l : List Key} (p : Paired (MemE P w) es l) (k : Key) : k ∈ l ↔ ∃ en ∈ es, (mixKind P w).is k en.2 = true := by
  induction p with
  | nil => simp
  | @cons x y xs ys r t ih =>
    rw [List.mem_cons, ih]
    constructor
    · rintro (q | ⟨en, h1, h2⟩)
      · exact ⟨x, by simp, by rw [q]; exact r.1⟩
      · exact ⟨en, by simp [h1], h2⟩
    · rintro ⟨en, h1, h2⟩
      rcases List.mem_cons.mp h1 with q | q
      · exact .inl ((mixKind P w).inj _ _ _ (q ▸ h2) r.1)
      · exact .inr ⟨en, q, h2⟩
/-- what is paired with a list is paired with a turned list likewise -/
theorem paired_perm {α β : Type} {F : α → β → Prop} {xs zs : List α} (p : zs.Perm xs) : ∀ {ys : List β}, Paired F xs ys → ∃ ws, ws.Perm ys ∧ Paired F zs ws := by
  induction p with
  | nil => intro ys h; exact ⟨ys, .refl _, h⟩
  | cons x _ ih =>
    intro ys h
    cases h with
    | cons r t =>
      obtain ⟨ws, h1, h2⟩ := ih t
      exact ⟨_ :: ws, h1.cons _, .cons r h2⟩
  | swap x y l =>
    intro ys h
    cases h with
    | cons r t =>
      cases t with
      | cons r2 t2 => exact ⟨_ :: _ :: _, .swap _ _ _, .cons r2 (.cons r t2)⟩
  | trans _ _ ih1 ih2 =>
    intro ys h
    obtain ⟨ws, h1, h2⟩ := ih2 h
    obtain ⟨vs, h3, h4⟩ := ih1 h2
    exact ⟨vs, h3.trans h1, h4⟩
theorem SG.new (ho : hp.get? a = some (set0 w)) : SG P w hp a [] :=
  ⟨_, #[], 0, _, [], ho, ⟨rfl, rfl, rfl⟩, rfl, .nil, .nil, fun _ => Iff.rfl, by rfl, List.Pairwise.nil, by
    cases q : w.params.followText "set-order"
    · exact .inr rfl
    · exact .inl rfl⟩
end
section
variable {P : Program} {w : World} {A : Around} {E : Value → Shared → Prop} {s : Shared} {a : Addr} {ks : List Key}
/-- what is laid is stored, and the table grown where it is full -/
theorem sg_tail {g : Bool → Sem Unit} (hg : ∀ (b : Bool) (s₁ : Shared) (Q' : Unit → Shared → Prop), Q' () s₁ → wpAny (model P w) A (g b) Q' E s₁)
    {ob : Obj} {els : Array (Int × Value)} {ep : Nat} {tb : SetTable} (ho : s.heap.get? a = some ob) (hx : ob.ExactSet) (hd : ob.data = .set els ep tb)
    {el1 : Array (Int × Value)} {tb2 : SetTable} {l1 js : List Key} (p1 : Paired (MemE P w) el1.toList l1) (n1 : l1.Nodup) (m1 : ∀ k, k ∈ l1 ↔ k ∈ js)
    (b1 : el1.size < scanBound) (f2 : tb2.fits el1.size = true) (r2 : Ris tb2.place.toList) (d2 : w.params.followText "set-order" = true ∨ tb2.led = true) {was : Bool} {R : Option Bool → Shared → Prop}
    (hR : ∀ hp', Heap.SameBut a s.heap hp' → SG P w hp' a js → R (some true) { s with heap := hp' }) :
    wpAny (model P w) A (do
        storeSet a el1 tb2
        if (!was && tb2.tooFull) = true then do
            g (relayAll tb2 el1 (SetTable.grown el1.size)).2.2
            storeSet a (relayAll tb2 el1 (SetTable.grown el1.size)).1 (relayAll tb2 el1 (SetTable.grown el1.size)).2.1
            pure (some true)
          else pure (some true)) R E s := by
  refine wpAny_bind (wpAny_storeSet_of ho hd ?_ (fits_of_scanBound b1))
  have ho1 := L2.store_at (es' := el1) (t' := tb2) ho hd
  have sb1 := Heap.SameBut.update s.heap a (Obj.putSet el1 tb2)
  split
  · have pm := relayAll_perm tb2 el1 (SetTable.grown el1.size)
    have f3 := relayAll_fits tb2 el1 (SetTable.grown el1.size)
    have r3 := relayAll_ris tb2 el1 (SetTable.grown el1.size)
    have l3 := relayAll_led tb2 el1 (SetTable.grown el1.size)
    generalize relayAll tb2 el1 (SetTable.grown el1.size) = Z at pm f3 r3 l3 ⊢
    obtain ⟨el2, tb3, gv⟩ := Z
    dsimp only at pm f3 r3 l3 ⊢
    have z2 : el2.size = el1.size := by rw [← Array.length_toList, pm.length_eq, Array.length_toList]
    have b2 : el2.size < scanBound := by rw [z2]; exact b1
    refine wpAny_bind (hg _ _ _ ?_)
    refine wpAny_bind (wpAny_storeSet_of ho1 rfl ?_ (fits_of_scanBound b2))
    have ho2 := L2.store_at (es' := el2) (t' := tb3) ho1 rfl
    obtain ⟨l2, q1, q2⟩ := paired_perm pm p1
    refine wpAny_pure (hR _ (sb1.trans (Heap.SameBut.update _ a _)) ⟨_, el2, _, tb3, l2, ho2, hx, rfl, q2, q1.nodup_iff.mpr n1, fun k => q1.mem_iff.trans (m1 k), f3, r3, d2.imp id fun z => by rw [l3]; exact z⟩)
  · exact wpAny_pure (hR _ sb1 ⟨_, el1, _, tb2, l1, ho1, hx, rfl, p1, n1, m1, f2, r2, d2⟩)
theorem sg_add {k : Key} {v : Value} {Q : Bool → Shared → Prop} (g : SG P w s.heap a ks) (hv : (mixKind P w).is k v = true) (hsc : v.scannable = true) (room : ks.length + 1 < scanBound)
    (hQ : ∀ b hp', Heap.SameBut a s.heap hp' → SG P w hp' a (ks ++ [k]) → Q b { s with heap := hp' }) :
    wpAny (model P w) A (setAddHashed a v ((mixKind P w).hash k)) Q E s := by
  obtain ⟨ob, els, ep, tb, l, ho, hx, hd, pr, nd, mm, hf, hr, hl⟩ := g
  have ll : l.length ≤ ks.length := nodup_sub_len nd fun x hx => (mm x).mp hx
  have pl := paired_len pr
  rw [Array.length_toList] at pl
  have hb : els.size < scanBound := by omega
  have hel : ElemsOf (mixKind P w) els.toList := mem_elems pr
  unfold setAddHashed setAddHashedIn
  refine wpAny_holding (wpAny_bind (wpAny_setState_of ho hd hf ?_))
  dsimp only
  rw [byScan_of hsc hb hel]
  simp only [↓reduceIte]
  unfold setAddByScan
  refine wpAny_bind ?_
  refine wpAny_bind (wpAny_rule ?_)
  refine wpAny_bind (wpAny_setScan_of hv ho hd hf hel ?_)
  cases hfi : List.findIdx? (fun e => (mixKind P w).is k e.2) els.toList with
  | some j =>
    dsimp only
    obtain ⟨hj, pj, _⟩ := List.findIdx?_eq_some_iff_getElem.mp hfi
    have hk : k ∈ l := (mem_find pr k).mpr ⟨_, List.getElem_mem hj, pj⟩
    exact wpAny_pure (wpAny_pure (hQ _ s.heap (Heap.SameBut.refl a s.heap) ⟨ob, els, ep, tb, l, ho, hx, hd, pr, nd, fun i => by
      rw [List.mem_append, List.mem_singleton, ← mm i]
      exact ⟨.inl, fun z => z.elim id fun q => q ▸ hk⟩, hf, hr, hl⟩))
  | none =>
    dsimp only
    have hnk : k ∉ l := fun z => by
      obtain ⟨en, h1, h2⟩ := (mem_find pr k).mp z
      have c := List.findIdx?_eq_none_iff.mp hfi en h1
      rw [h2] at c
      cases c
    have hgw : ∀ (b : Bool) {s₁ : Shared} {Q' : Unit → Shared → Prop}, Q' () s₁ → wpAny (model P w) A (match b with | true => rule "set.scan.the-table-gave-way" | false => pure ()) Q' E s₁ := by
      intro b s₁ Q' q
      cases b
      · exact wpAny_pure q
      · exact wpAny_rule q
    have pm := layNew_perm tb els ((mixKind P w).hash k) v
    have f1 := layNew_fits tb els ((mixKind P w).hash k) v
    have r1 := layNew_ris tb els ((mixKind P w).hash k) v hr
    have l1 := layNew_led tb els ((mixKind P w).hash k) v
    generalize layNew tb els ((mixKind P w).hash k) v = Z at pm f1 r1 l1 ⊢
    obtain ⟨el1, tb1, was, gv⟩ := Z
    dsimp only at pm f1 r1 l1 ⊢
    rw [Array.toList_push] at pm
    have pc : el1.toList.Perm (((mixKind P w).hash k, v) :: els.toList) := pm.trans (List.perm_append_singleton _ _)
    obtain ⟨m1, q1, q2⟩ := paired_perm pc (.cons (F := MemE P w) (show MemE P w ((mixKind P w).hash k, v) k from ⟨hv, rfl, hsc⟩) pr)
    have n1 : m1.Nodup := q1.nodup_iff.mpr (List.nodup_cons.mpr ⟨hnk, nd⟩)
    have mm1 : ∀ i, i ∈ m1 ↔ i ∈ ks ++ [k] := fun i => by
      rw [q1.mem_iff, List.mem_cons, List.mem_append, List.mem_singleton, ← mm i]
      exact Or.comm
    have z1 : el1.size = els.size + 1 := by rw [← Array.length_toList, pc.length_eq, List.length_cons, Array.length_toList]
    have b1 : el1.size < scanBound := by omega
    have d1 : w.params.followText "set-order" = true ∨ tb1.led = true := hl.imp id fun z => by rw [l1]; exact z
    refine wpAny_bind (hgw _ ?_)
    split
    · refine wpAny_bind ?_
      rw [hashByValue_scannable 8 hsc]
      refine wpAny_pure ?_
      refine sg_tail ?_ ho hx hd q2 n1 mm1 b1 ?_ ?_ ?_ ?_
      · intro b s₁ Q' q
        cases b
        · exact wpAny_pure q
        · exact wpAny_rule q
      · first | (split <;> first | exact f1 | exact SetTable.fits_plain_off f1) | exact f1
      · first | (split <;> exact r1) | exact r1
      · first | (split <;> exact d1) | exact d1
      · intro hp' sb r; dsimp only; exact wpAny_pure (hQ _ hp' sb r)
    · refine wpAny_bind (wpAny_pure ?_)
      simp only [↓reduceIte]
      refine sg_tail ?_ ho hx hd q2 n1 mm1 b1 f1 r1 d1 ?_
      · intro b s₁ Q' q
        cases b
        · exact wpAny_pure q
        · exact wpAny_rule q
      · intro hp' sb r; dsimp only; exact wpAny_pure (hQ _ hp' sb r)
end
section
variable {P : Program} {w : World} {A : Around} {E : Value → Shared → Prop} {s : Shared}
/-- the loop of update, over what is walked -/
theorem sg_loop {I : Addr} {fp wr : List Addr} {G : Array GenState → Array GenState → Prop} {n : Nat} {Pv : Nat → Value → Prop} {St : Nat → Shared → Prop} {R : Result → Shared → Prop}
    (W : WalksS P w A.in1 I fp wr G n Pv St) (S : Addr) (hS : S ∉ fp) (ks : List Key) (hn : n = ks.length) (hb : ks.length + 1 < scanBound) (hv : ∀ i v, Pv i v → ∃ k, ks[i]? = some k ∧ (mixKind P w).is k v = true ∧ v.scannable = true) :
    ∀ (m i : Nat) (s : Shared), n - i = m → i ≤ n → St i s → SG P w s.heap S (ks.take i) →
      (∀ s', Moved (S :: wr) G s s' → SG P w s'.heap S ks → R (.ok (.ret .none)) s') →
      codeAny (model P w) A (.builtin "set.update.loop" ⟨[.ref S, .ref I], []⟩) R s := by
  have nw : S ∉ wr := fun h => hS (W.sub _ h)
  have sb : ∀ b ∈ wr, b ∈ S :: wr := fun b q => List.mem_cons_of_mem _ q
  intro m
  induction m with
  | zero =>
    intro i s e hi st g hR
    have ei : i = n := by omega
    subst ei
    refine codeAny_builtin F.entry_set_update_loop ?_
    rw [Around.under_plainId F.plain_set_update_loop _]
    show wpAny _ A.in1 (pyNext (.ref I) >>= _) _ _ s
    refine wpAny_bind (W.done s _ _ st fun s' mv => ?_)
    have z : ks.take i = ks := List.take_of_length_le (by omega)
    rw [z] at g
    show wpAny _ A.in1 (ret Value.none) _ _ s'
    exact wpAny_pure (hR s' (mv.mono sb) (g.at fun o q => mv.heap S o nw q))
  | succ m ih =>
    intro i s e hi st g hR
    have lt : i < n := by omega
    refine codeAny_builtin F.entry_set_update_loop ?_
    rw [Around.under_plainId F.plain_set_update_loop _]
    show wpAny _ A.in1 (pyNext (.ref I) >>= _) _ _ s
    refine wpAny_bind (W.item i s _ _ lt st fun v s' pv st' mv => ?_)
    obtain ⟨k, hk, k1, k2⟩ := hv i v pv
    have g' : SG P w s'.heap S (ks.take i) := g.at fun o q => mv.heap S o nw q
    show wpAny _ A.in1 (holding [v] (setAdd S v) >>= _) _ _ s'
    refine wpAny_bind (wpAny_holding ?_)
    unfold setAdd
    refine wpAny_holding ?_
    refine wpAny_bind ((mixKind P w).pyHash (k := k) k1 ?_)
    refine sg_add (s := { s' with toks := s'.toks + 1 }) g' k1 k2 (by rw [List.length_take]; omega) fun b h' hsb g2 => ?_
    have g3 : SG P w h' S (ks.take (i + 1)) := by
      rw [List.take_add_one, hk]
      exact g2
    refine wpAny_pure ⟨plainId_quiet F.plain_set_update_loop _, ih (i + 1) _ (by omega) lt (W.frame _ s' _ _ st' (Nat.le_succ _) fun b hb o q => ?_) g3 fun s'' mv2 g4 => ?_⟩
    · rw [hsb.2 b (fun h : b = S => hS (by rw [← h]; exact hb))]; exact q
    · refine hR s'' (Moved.trans W.gtrans ((mv.mono sb).then_heap (Nat.le_succ _) fun b o hb q => ?_) mv2) g4
      rw [hsb.2 b (fun h : b = S => hb (by rw [h]; exact List.mem_cons_self))]; exact q
def SGMade (P : Program) (w : World) (s : Shared) (ks : List Key) (s2 : Shared) : Prop := ∃ (h' : Heap) (tk : Nat), s2 = { s with heap := h', toks := tk } ∧ SG P w h' s.heap.objs.size ks ∧ ∀ b o, s.heap.get? b = some o → h'.get? b = some o
set_option maxHeartbeats 3200000 in
theorem sg_init {l : Addr} {items : Array Value} (ks : List Key) {B : Around} {Q : PySem.Fin → Shared → Prop} {E' : Value → Shared → Prop} (hh : B.handled = none) (hl : s.heap.IsList l items) (hz : items.size = ks.length)
    (hv : ∀ (i : Nat) v, items[i]? = some v → ∃ k, ks[i]? = some k ∧ (mixKind P w).is k v = true ∧ v.scannable = true) (hb : ks.length + 1 < scanBound)
    (hQ : ∀ s2, SGMade P w s ks s2 → Q (.done (.ret .none)) s2) :
    wpAny (model P w) B (Builtin.«set.__init__» ⟨[.ref s.heap.objs.size, .ref l], []⟩) Q E' { s with heap := s.heap.push (set0 w) } := by
  have q0 : (s.heap.push (set0 w)).get? s.heap.objs.size = some (set0 w) := Heap.get?_push_size _ rfl
  have hT : Shared.TypeIs { s with heap := s.heap.push (set0 w) } (.ref s.heap.objs.size) "set" := ⟨_, q0, rfl⟩
  obtain ⟨⟨oc, od, odt, os⟩, hol, hcl, nl, hdl⟩ := hl
  simp only at hcl hdl
  subst hcl; subst hdl
  have ll : l < s.heap.objs.size := Heap.lt_size hol
  have hol2 : (s.heap.push (set0 w)).get? l = some { cls := .type "list", dict := od, data := .seq items nl, slots := os } := Heap.get?_push_of_some _ hol
  have isl : (s.heap.push (set0 w)).IsList l items := ⟨_, hol2, rfl, nl, rfl⟩
  have k1 := F.sub_list_set
  have k2 := F.sub_list_frozenset
  have k3 : (Value.type "list" == Value.type "dict") = false := by decide
  unfold Builtin.«set.__init__» noKeywords Builtin.Frozenset.updateFrom
  generalize hPI : pyIter = PI
  wp_walk
  subst hPI
  refine wpAny_pyIter_list isl (wpAny_bind (wpAny_runValue ?_))
  have z1 : (s.heap.push (set0 w)).objs.size = s.heap.objs.size + 1 := Heap.size_push ..
  have n1 : l ≠ (s.heap.push (set0 w)).objs.size := by rw [z1]; exact Nat.ne_of_lt (Nat.lt_succ_of_lt ll)
  have n2 : s.heap.objs.size ∉ [(s.heap.push (set0 w)).objs.size, l] := by
    rw [z1]
    intro z
    rcases List.mem_cons.mp z with z | z
    · exact absurd z (Nat.ne_of_lt (Nat.lt_succ_self _))
    · exact absurd (List.mem_singleton.mp z) (Nat.ne_of_gt ll)
  refine sg_loop ((Walks.list (by simp [hh]) _ l n1 items).toS) s.heap.objs.size n2 ks hz hb hv (items.size - 0) 0 _ (by omega) (Nat.zero_le _) ⟨⟨_, Heap.get?_push_size _ rfl, rfl, rfl⟩, isl.push _⟩ (SG.new (Heap.get?_push_of_some _ q0)) fun s' hm g => ?_
  have e1 := hm.gens
  have e2 := hm.drawn
  have e3 := hm.os
  obtain ⟨h', gg, dd, tk, oo⟩ := s'
  simp only at e1 e2 e3
  subst e1; subst e2; subst e3
  refine wpAny_pure (wpAny_pure (hQ _ ⟨h', tk, rfl, g, fun b o e => ?_⟩))
  have lb := Heap.lt_size e
  refine hm.heap b o (fun z => ?_) (Heap.get?_push_of_some _ (Heap.get?_push_of_some _ e))
  rw [z1] at z
  rcases List.mem_cons.mp z with z | z
  · exact absurd z (Nat.ne_of_lt lb)
  · exact absurd (List.mem_singleton.mp z) (Nat.ne_of_lt (Nat.lt_succ_of_lt lb))
set_option maxHeartbeats 3200000 in
theorem sg_lst {l : Addr} {items : Array Value} (ks : List Key) {Q : Value → Shared → Prop} (hh : A.handled = none) (hl : s.heap.IsList l items) (hz : items.size = ks.length)
    (hv : ∀ (i : Nat) v, items[i]? = some v → ∃ k, ks[i]? = some k ∧ (mixKind P w).is k v = true ∧ v.scannable = true) (hb : ks.length + 1 < scanBound)
    (h : ∀ s2, SGMade P w s ks s2 → Q (.ref s.heap.objs.size) s2) : wpAny (model P w) A (call (.type "set") [.ref l]) Q E s := by
  have cs := F.called_set
  obtain ⟨c, tl, hmro⟩ := cs.mro
  have a1 := cs.made
  have a2 := cs.sub
  have a3 := cs.notType
  have a4 := cs.canCreate
  have a5 := F.typeCall_set_1 (.ref l)
  refine wpAny_call (codeAny_of_tree ?_)
  show wpAny _ _ (callAny (.type "set") _) _ _ _
  refine wpAny_pure ⟨Code.quiet_builtin _ (by decide +kernel), codeAny_builtin F.entry_type_call ?_⟩
  rw [Around.under_plain (weight_type_call_type "set" [.ref l] []) rfl]
  repeat (any_goals (first | assumption | wp_step))
  refine codeAny_mono (code_set_led1 (.ref l) (E := E) (Q₁ := fun u z => u = .ref s.heap.objs.size ∧ z = { s with heap := s.heap.push (set0 w) }) ⟨rfl, rfl⟩) fun r z hz => ?_
  match r, hz with
  | .error _, hz => exact hz
  | .ok (.ret u), ⟨e1, e2⟩ =>
    subst e1 e2
    have hT : Shared.TypeIs { s with heap := s.heap.push (set0 w) } (.ref s.heap.objs.size) "set" := ⟨_, Heap.get?_push_size _ rfl, rfl⟩
    have a6 := cs.init.lookup
    have a7 := cs.init.bind (.ref s.heap.objs.size)
    repeat (any_goals (first | assumption | wp_step))
    refine codeAny_mono (codeAny_call_builtin (R := wants (fun v s2 => v = .none ∧ SGMade P w s ks s2) E) cs.init.plain F.entry_set_init (check_set_init_1 hT ?_)) fun r2 s2 hr2 => ?_
    · exact sg_init ks (by simp [hh]) hl ‹_› hv hb fun s2 q => ⟨rfl, q⟩
    · match r2, hr2 with
      | .error _, hr2 => exact hr2
      | .ok (.ret v), ⟨e1, e2⟩ =>
        subst e1
        have f := h _ e2
        repeat (any_goals (first | assumption | wp_step))
        all_goals exact f
end
end DL
end
section
set_option Elab.async false
set_option linter.all false
set_option maxRecDepth 100000
set_option autoImplicit false
namespace DL
open PySem PySem.Spec L2

/-! ### sorted(set(xs)), a list of texts -/
def dedup {α : Type} [DecidableEq α] : List α → List α
  | [] => []
  | a :: l => if a ∈ dedup l then dedup l else a :: dedup l
theorem mem_dedup {α : Type} [DecidableEq α] {x : α} : ∀ {l : List α}, x ∈ dedup l ↔ x ∈ l
  | [] => Iff.rfl
  | a :: l => by
    have ih := mem_dedup (x := x) (l := l)
    unfold dedup
    split
    · rename_i h
      rw [ih, List.mem_cons]
      constructor
      · exact .inr
      · rintro (q | q)
        · rw [q]; exact mem_dedup.mp h
        · exact q
    · rw [List.mem_cons, List.mem_cons, ih]
theorem nodup_dedup {α : Type} [DecidableEq α] : ∀ l : List α, (dedup l).Nodup
  | [] => .nil
  | a :: l => by
    unfold dedup
    split
    · exact nodup_dedup l
    · rename_i h
      exact List.nodup_cons.mpr ⟨h, nodup_dedup l⟩
def sLe (a b : Str) : Bool := decide (a.cps.toList ≤ b.cps.toList)
def ssort (ys : List Str) : List Str := (dedup ys).mergeSort sLe
theorem str_ext {a b : Str} (h : a.cps.toList = b.cps.toList) : a = b := by
  cases a; cases b
  simp only at h
  rw [Array.toList_inj.mp h]
theorem sLe_trans (a b c : Str) (h1 : sLe a b = true) (h2 : sLe b c = true) : sLe a c = true := by
  unfold sLe at *
  simp only [decide_eq_true_eq] at *
  exact List.le_trans h1 h2
theorem sLe_total (a b : Str) : (sLe a b || sLe b a) = true := by
  unfold sLe
  rcases List.le_total a.cps.toList b.cps.toList with h | h <;> simp [h]
theorem sLe_anti (a b : Str) (h1 : sLe a b = true) (h2 : sLe b a = true) : a = b := by
  unfold sLe at *
  simp only [decide_eq_true_eq] at *
  exact str_ext (List.le_antisymm h1 h2)
/-- sorted lists with the same items, each once, are the same -/
theorem sorted_ext {α : Type} {r : α → α → Bool} (anti : ∀ a b, r a b = true → r b a = true → a = b) : ∀ {l m : List α}, l.Pairwise (fun a b => r a b = true) → m.Pairwise (fun a b => r a b = true) → l.Perm m → l = m
  | [], m, _, _, p => (List.nil_perm.mp p).symm
  | a :: l, m, hl, hm, p => by
    cases m with
    | nil => exact absurd (List.perm_nil.mp p) (by simp)
    | cons b m =>
      obtain ⟨l1, l2⟩ := List.pairwise_cons.mp hl
      obtain ⟨m1, m2⟩ := List.pairwise_cons.mp hm
      have e : a = b := by
        have h1 := p.mem_iff.mp (show a ∈ a :: l by simp)
        have h2 := p.mem_iff.mpr (show b ∈ b :: m by simp)
        rcases List.mem_cons.mp h1 with q | q
        · exact q
        · rcases List.mem_cons.mp h2 with q2 | q2
          · exact q2.symm
          · exact anti a b (l1 b q2) (m1 a q)
      subst e
      rw [sorted_ext anti l2 m2 (List.Perm.cons_inv p)]
theorem nodup_perm {α : Type} [DecidableEq α] {l m : List α} (hl : l.Nodup) (hm : m.Nodup) (h : ∀ x, x ∈ l ↔ x ∈ m) : l.Perm m := by
  refine List.perm_iff_count.mpr fun a => ?_
  by_cases q : a ∈ l
  · rw [hl.count, hm.count]
    simp [q, (h a).mp q]
  · rw [List.count_eq_zero_of_not_mem q, List.count_eq_zero_of_not_mem fun z => q ((h a).mpr z)]
theorem ssort_of {l ys : List Str} (hn : l.Nodup) (h : ∀ x, x ∈ l ↔ x ∈ ys) : l.mergeSort sLe = ssort ys := by
  refine sorted_ext sLe_anti (List.pairwise_mergeSort sLe_trans sLe_total l) (List.pairwise_mergeSort sLe_trans sLe_total _) ?_
  exact (List.mergeSort_perm _ _).trans ((nodup_perm hn (nodup_dedup ys) fun x => (h x).trans mem_dedup.symm).trans (List.mergeSort_perm _ _).symm)
def SetT (P : Program) (w : World) (a : Addr) (ys : List Str) : HO := .ext fun h => SG P w h a (ys.map .inr)
theorem setT_new {P : Program} {w : World} {H : Hp} {h : Heap} {a : Addr} {ys : List Str} (g : SG P w h a (ys.map .inr)) : ObjOk P w H h a (SetT P w a ys) := by
  obtain ⟨ob, els, ep, tb, l, ho, r⟩ := id g
  exact ⟨g, ⟨ob, ho⟩, fun h1 h2 x k => x.at k⟩
section
variable {X : Cx}
theorem setT_get {pins : List (Addr × Obj)} {σ : St} {H : Hp} {s : Shared} {a : Addr} {ys : List Str} (I : Inv X pins σ H s) (ha : H a = some (SetT X.prog X.w a ys)) : SG X.prog X.w s.heap a (ys.map .inr) := (I.hok a _ ha).1
/-- set(xs), a list of texts -/
def rSetT (P : Program) (w : World) : List V → Hp → VK → Prop := fun xs H Q => ∃ p ys, xs = [.ref p] ∧ H p = some (.lst (ys.map V.str)) ∧ ys.length ≤ 4000 ∧ ∀ a, H a = none → Q (.ref a) (upd H a (SetT P w a ys))
theorem vals_ys : ∀ {ys : List Str} {us : List Value}, Vals (ys.map V.str) us → ∀ (i : Nat) (v : Value), us[i]? = some v → ∃ (y : Str) (t : Tok), ys[i]? = some y ∧ v = Value.str y t
  | [], _, .nil, i, v, e => by simp at e
  | y :: ys, _, .cons r t, 0, v, e => by
    obtain ⟨tk, rfl⟩ := r
    simp at e
    exact ⟨y, tk, rfl, e.symm⟩
  | y :: ys, _, .cons r t, i + 1, v, e => by
    obtain ⟨z, tk, h1, h2⟩ := vals_ys t i v (by simpa using e)
    exact ⟨z, tk, by simpa using h1, h2⟩
theorem cr_setT (hc : X.calm = true) : CallR X (.type "set") (rSetT X.prog X.w) := by
  intro pins s σ H xs us Q I r h
  obtain ⟨p, ys, rfl, hp, hl, q⟩ := h
  rw [Vals.ref1 r]
  obtain ⟨z, its, n, rv, hl2, e⟩ := I.lstM hp
  have lz : its.length = ys.length := by rw [← rv.length, List.length_map]
  refine sg_lst (items := its.toArray) (ys.map .inr) (I.ok.hd hc) ⟨_, e, rfl, _, rfl⟩ (by simpa using lz) (fun i v hv => ?_) (by unfold scanBound; rw [List.length_map]; omega) fun s2 hs2 => ?_
  · obtain ⟨y, t, h1, rfl⟩ := vals_ys rv i v (by simpa using hv)
    exact ⟨.inr y, by rw [List.getElem?_map, h1]; rfl, mixKind_str _ _ _ _, rfl⟩
  · obtain ⟨h', tk, rfl, g, k⟩ := hs2
    have hn : H s.heap.objs.size = none := I.hok.fresh (Nat.le_refl _)
    exact ⟨.ref _, _, I.laid (t' := tk) k (Nat.le_refl _) (setT_new g), rfl, q _ hn⟩
/-- its values, as they are gathered -/
theorem gathered {P : Program} {w : World} {els : List (Int × Value)} {l : List Key} (p : Paired (MemE P w) els l) (hs : ∀ k ∈ l, ∃ y, k = .inr y) : ∃ zs : List Str, l = zs.map .inr ∧ PySem.W.EachIs (fun v y => ∃ t, v = Value.str y t) (els.map (·.2)) zs := by
  induction p with
  | nil => exact ⟨[], rfl, .nil⟩
  | @cons x y xs ys r t ih =>
    obtain ⟨zs, h1, h2⟩ := ih fun k hk => hs k (by simp [hk])
    obtain ⟨z, rfl⟩ := hs y (by simp)
    refine ⟨z :: zs, by rw [h1]; rfl, .cons ?_ h2⟩
    rcases keyIs_shape (show keyIs (.inr z) x.2 = true from r.1) with ⟨i, u, e, _⟩ | ⟨q, u, e1, e2⟩
    · cases e
    · injection e1 with e1
      subst e1
      exact ⟨u, e2⟩
theorem each_perm {β : Type} {R : Value → β → Prop} {us vs : List Value} (p : us.Perm vs) : ∀ {bs : List β}, PySem.W.EachIs R vs bs → ∃ cs, cs.Perm bs ∧ PySem.W.EachIs R us cs := by
  induction p with
  | nil => intro ys h; exact ⟨ys, .refl _, h⟩
  | cons x _ ih =>
    intro ys h
    cases h with
    | cons r t =>
      obtain ⟨ws, h1, h2⟩ := ih t
      exact ⟨_ :: ws, h1.cons _, .cons r h2⟩
  | swap x y l =>
    intro ys h
    cases h with
    | cons r t =>
      cases t with
      | cons r2 t2 => exact ⟨_ :: _ :: _, .swap _ _ _, .cons r2 (.cons r t2)⟩
  | trans _ _ ih1 ih2 =>
    intro ys h
    obtain ⟨ws, h1, h2⟩ := ih2 h
    obtain ⟨vs, h3, h4⟩ := ih1 h2
    exact ⟨vs, h3.trans h1, h4⟩
/-- sorted(s) of a set of texts -/
def rSortedT (P : Program) (w : World) : List V → Hp → VK → Prop := fun vs H Q => ∃ (a : Addr) (ys : List Str), vs = [V.ref a] ∧ H a = some (SetT P w a ys) ∧ ys.length ≤ 4000 ∧ ∀ p, H p = none → Q (.ref p) (upd H p (.lst ((ssort ys).map V.str)))
theorem eachStr {us : List Value} {zs : List Str} (e : PySem.W.EachIs (fun v y => ∃ t, v = Value.str y t) us zs) {hp : Heap} {a : Addr} : PySem.W.EachIs (fun v y => ∃ as, Reads hp v (PyData.str y) as ∧ a ∉ as) us zs := by
  refine e.mono fun v y ⟨t, h⟩ => ⟨[], ?_, by simp⟩
  rw [h]
  exact .str _ _
theorem eachVals {us : List Value} {zs : List Str} (e : PySem.W.EachIs (fun v y => ∃ t, v = Value.str y t) us zs) : Vals (zs.map V.str) us := by
  induction e with
  | nil => exact .nil
  | cons r _ ih =>
    obtain ⟨t, h⟩ := r
    exact .cons ⟨t, h⟩ ih
theorem cr_sortedT (hc : X.calm = true) (hu : X.A.units + 200 < cLine) : CallR X (.builtin "sorted") (rSortedT X.prog X.w) := by
  intro pins s σ H vs us Q I r h
  obtain ⟨a, ys, rfl, ha, hl, q⟩ := h
  have g := setT_get I ha
  rw [Vals.ref1 r]
  obtain ⟨ob, els, ep, tb, l, ho, hx, hd, pr, nd, mm, hf, hr, hle⟩ := g
  have ll : l.length ≤ ys.length := by
    have := nodup_sub_len nd fun x hx => (mm x).mp hx
    rwa [List.length_map] at this
  have pl := paired_len pr
  rw [Array.length_toList] at pl
  obtain ⟨zs, rfl, ez⟩ := gathered pr fun k hk => by
    obtain ⟨y, _, rfl⟩ := List.mem_map.mp ((mm k).mp hk)
    exact ⟨y, rfl⟩
  rw [List.length_map] at ll pl
  have hb : els.size < scanBound := by unfold scanBound; omega
  refine Calls.call_function_entry PyProof.Rows.kind_sorted PyProof.Rows.plain_sorted PyProof.Rows.entry_sorted (PyProof.Rows.args_sorted1 _) ?_
  unfold Builtin.«sorted»
  refine wpAny_bind (m := checkCount "sorted" 1 1 _) (wpAny_pure ?_)
  refine wpAny_bind (collect_set (A := X.A.in1) (I.ok.hd hc) ⟨ob, ho, hx.1, hd⟩ hf hb hr hle fun s1 out k1 hz g1 o1 pm => ?_)
  obtain ⟨xs, px, ex⟩ := each_perm pm ez
  have le := ex.length
  have lx := px.length_eq
  refine wpAny_bind (wpAny_newList ?_ (by rw [sizeLine_eq]; omega))
  have hoL : (s1.heap.push (PyProof.Rows.seqObj "list" out.toArray 0)).get? s1.heap.objs.size = some (PyProof.Rows.seqObj "list" out.toArray 0) := Heap.get?_push_size _ rfl
  refine wpAny_bind (wpAny_holding (PySem.W.list_sort_data (vs := out) (bs := xs) (enc := PyData.str) (R := fun v y => ∃ t, v = Value.str y t) hoL ex (eachStr ex) (PySem.W.AllAlike.of fun _ _ => by simp [PySem.W.alike]) (PySem.W.Sortable.others fun _ => ⟨by simp, by simp⟩) (by rw [sizeLine_eq]; omega) (fun b _ => ?_) fun fin hfl ef => ?_))
  · show _ + 1 + 0 < cLine
    have e : X.A.in1.units ≤ X.A.units + 10 := by first | exact Nat.le_add_right _ _ | simp
    omega
  · obtain ⟨c, hcs⟩ := PyProof.Rows.sortedHeap_at (vs := out) (out := fin.toArray) hoL
    have e0 : xs.mergeSort (PySem.W.dataLe false PyData.str) = ssort ys := by
      have q1 : PySem.W.dataLe false PyData.str = sLe := PySem.W.dataLe_str (fun y : Str => y)
      rw [q1]
      have nz : zs.Nodup := by
        have := nd
        unfold List.Nodup at this ⊢
        rw [List.pairwise_map] at this
        exact this.imp fun h z => h (by rw [z])
      refine ssort_of (px.nodup_iff.mpr nz) fun y => ?_
      rw [px.mem_iff]
      have := mm (.inr y)
      simpa using this
    rw [e0] at ef
    have hlen : ((ssort ys).map V.str).length ≤ sizeLine := by
      rw [List.length_map, ← ef.length, hfl, sizeLine_eq]; omega
    have hn : H s1.heap.objs.size = none := I.hok.fresh hz
    have kk : ∀ b u, s.heap.get? b = some u → (PyProof.Rows.sortedHeap (s1.heap.push (PyProof.Rows.seqObj "list" out.toArray 0)) s1.heap.objs.size out fin.toArray).get? b = some u := fun b u e => by
      have q := k1 b u e
      have lt := Heap.lt_size q
      rw [PyProof.Rows.sortedHeap_old (Nat.ne_of_lt lt) (by rw [PyProof.Rows.size_push']; exact Nat.lt_succ_of_lt lt)]
      exact Heap.get?_push_of_some _ q
    have J : Inv X pins σ (upd H s1.heap.objs.size (.lst ((ssort ys).map V.str))) { s with heap := PyProof.Rows.sortedHeap (s1.heap.push (PyProof.Rows.seqObj "list" out.toArray 0)) s1.heap.objs.size out fin.toArray, gens := s1.gens, drawn := s1.drawn, toks := s1.toks } :=
      I.call (ch := []) (Un.laid kk hz hn) (I.hok.laid kk hz ⟨hlen, fin, c, eachVals ef, hcs⟩) (by rw [g1]; exact I.bare) (fun _ z => nomatch z)
    refine wpAny_pure ⟨.ref s1.heap.objs.size, rfl, .ref s1.heap.objs.size, _, ?_, rfl, q _ hn⟩
    cases s1
    cases s
    cases o1
    exact J
end
end DL
end
section
set_option Elab.async false
set_option linter.all false
set_option maxRecDepth 100000
set_option autoImplicit false
namespace DL
open PySem PySem.Spec L2

/-! ### a call whose last argument is a new list or dict of our own, which the callee may change -/
def argsO (as : List AE) (go : Ev Ob) : Ev (List AV × Ob) := fun ρ => (argsE as ρ).bind fun xs r => (go r).bind fun o r2 => .ok (xs, o) r2
def RAO (K : PySem.W.Frag) : Rk (List AV × Ob) (List V) := ⟨fun M σ ρ H0 H vs x => ∃ ws p, vs = ws ++ [.ref p] ∧ Paired (RA0 K (fun q => M q ∨ q = p) σ ρ H) ws x.1 ∧ H0 p = none ∧ ¬ Mu M σ ρ p ∧ Rel K (fun q => M q ∨ q = p) σ H ρ ∧ ObAt K (rs (Mu (fun q => M q ∨ q = p) σ ρ) H) H p x.2,
  fun {M σ ρ H0 H1 H x a} l h => by
    obtain ⟨ws, p, e, h1, n, r⟩ := h
    refine ⟨ws, p, e, h1, ?_, r⟩
    cases q : H0 p with
    | none => rfl
    | some o =>
      obtain ⟨o', z⟩ := l p o q
      rw [n] at z; cases z⟩
abbrev tAO (K : PySem.W.Frag) (cl : Cl) (W : WX) (as : List AE) (go : Ev Ob) : TA := tG K cl W (RAO K) (argsO as go)
theorem tG_map {α β γ δ : Type} {K : PySem.W.Frag} {cl : Cl} {W : WX} {R : Rk α β} {R' : Rk γ δ} {M : Addr → Prop} {σ : St} {ρ : Rho} {H : Hp} {ga : Ev α} {h : α → γ} {Q : δ → Hp → Prop} {c : β → δ}
    (r : Rel K M σ H ρ) (p : Pst K cl W R' M σ ρ H ((ga ρ).bind fun a r => .ok (h a) r) Q)
    (conv : ∀ ρ' H' x a, Go σ ρ H σ ρ' H' → R.R M σ ρ' H H' x a → R'.R M σ ρ' H H' (c x) (h a)) : tG K cl W R ga σ H fun x H1 => Q (c x) H1 := by
  refine ⟨M, ρ, r, ?_⟩
  cases e : ga ρ with
  | ok a ρ1 =>
    rw [e] at p
    exact fun x H1 g1 r1 q => p (c x) H1 g1 r1 (conv _ _ _ _ g1 q)
  | er k ρ1 => rw [e] at p; exact p
  | no => rw [e] at p; exact p
section
variable {X : Cx} {cl : Cl} {W : WX} {e : Expr} {es : List Expr} {a : AE} {as : List AE} {go : Ev Ob}
theorem ao_last (ho : PE X e (tO X.K cl W go)) (hs : starEach [e] X.env = (false, eval e X.env) :: starEach [] X.env := by rfl) : PA X [e] (tAO X.K cl W [] go) := by
  refine PA.weak (pa_cons ho pa_nil hs) ?_
  rintro σ H Q ⟨M, ρ, R, p⟩
  have p : Pst X.K cl W (RAO X.K) M σ ρ H ((go ρ).bind fun o r2 => Res.ok (([] : List AV), o) r2) Q := p
  refine tG_map (R := RO X.K) (c := fun v => [v]) R p fun ρ' H' x o g q => ?_
  obtain ⟨c, rfl, h1, h2⟩ := q
  exact ⟨[], c, rfl, .nil, h1, h2⟩
theorem ao_cons (ha : PE X e (tAe X.K cl W a)) (hr : PA X es (tAO X.K cl W as go)) (hs : starEach (e :: es) X.env = (false, eval e X.env) :: starEach es X.env := by rfl) : PA X (e :: es) (tAO X.K cl W (a :: as) go) := by
  refine PA.weak (pa_cons ha hr hs) ?_
  rintro σ H Q ⟨M, ρ, R, p⟩
  have p : Pst X.K cl W (RAO X.K) M σ ρ H ((argE a ρ).bind fun x r => (argsO as go r).bind fun (xo : List AV × Ob) r2 => Res.ok (x :: xo.1, xo.2) r2) Q := by
    have e : argsO (a :: as) go ρ = ((argE a ρ).bind fun x r => (argsO as go r).bind fun (xo : List AV × Ob) r2 => Res.ok (x :: xo.1, xo.2) r2) := by
      show ((argE a ρ).bind fun x r => (argsE as r).bind fun xs r2 => .ok (x :: xs) r2).bind _ = _
      cases argE a ρ with
      | ok x r =>
        simp only [Res.bind_ok]
        unfold argsO
        cases argsE as r with
        | ok xs r2 =>
          simp only [Res.bind_ok]
          cases go r2 <;> rfl
        | er c r2 => rfl
        | no => rfl
      | er c r => rfl
      | no => rfl
    rw [← e]; exact p
  refine tG_bind R p fun v d ρ1 H1 _ g1 R1 q1 p1 => ?_
  refine tG_map (R := RAO X.K) (c := fun vs => v :: vs) R1 p1 fun ρ' H' x o g q => ?_
  obtain ⟨ws, c, rfl, h1, h2, h3, h4⟩ := q
  refine ⟨v :: ws, c, rfl, .cons ?_ h1, h2, h3, h4⟩
  have q1 : RA0 X.K M σ ρ1 H1 v d := q1
  cases d with
  | d d =>
    refine dd_mono (fun q u e => ?_) _ _ q1
    have e1 := (rs_of e).1
    obtain ⟨z1, z2⟩ := rs_of (g.same (M := M) q u e)
    refine rs_mk z1 fun z => ?_
    rcases z with (z | z) | z
    · exact z2 (.inl z)
    · rw [z, h2] at e1; cases e1
    · exact z2 (.inr z)
  | s i => exact q1
end
/-- the heap without one thing -/
def del (H : Hp) (p : Addr) : Hp := fun q => if q = p then none else H q
theorem del_of {H : Hp} {p q : Addr} {o : HO} (h : del H p q = some o) : H q = some o ∧ q ≠ p := by
  unfold del at h
  by_cases e : q = p
  · rw [if_pos e] at h; cases h
  · rw [if_neg e] at h; exact ⟨h, e⟩
theorem del_mk {H : Hp} {p q : Addr} {o : HO} (h : H q = some o) (n : q ≠ p) : del H p q = some o := by
  unfold del; rw [if_neg n]; exact h
section
variable {K : PySem.W.Frag} {M : Addr → Prop} {σ : St} {ρ r as' out : Rho} {H H' : Hp} {vs : List V} {avs : List AV} {p : Addr} {o : Ob}
theorem rs_del (n : ¬ Mu M σ ρ p) : rs (Mu (fun q => M q ∨ q = p) σ ρ) H = rs (Mu M σ ρ) (del H p) := by
  funext q
  by_cases e : q = p
  · subst e
    unfold rs del
    rw [if_pos (.inl (.inr rfl)), if_neg n, if_pos rfl]
  · have hi : Mu (fun q => M q ∨ q = p) σ ρ q ↔ Mu M σ ρ q := ⟨fun z => z.elim (fun z => z.elim .inl fun z => absurd z e) .inr, fun z => z.elim (fun z => .inl (.inl z)) .inr⟩
    unfold rs del
    rw [if_neg e]
    by_cases m : Mu M σ ρ q
    · rw [if_pos (hi.mpr m), if_pos m]
    · rw [if_neg fun z => m (hi.mp z), if_neg m]
/-- without the new thing the old relation stands -/
theorem rel_del (R : Rel K (fun q => M q ∨ q = p) σ H ρ) (n : ¬ Mu M σ ρ p) : Rel K M σ (del H p) ρ where
  len := R.len
  live := fun q z => by
    obtain ⟨u, e⟩ := R.live q (.inl z)
    exact ⟨u, del_mk e fun e => n (.inl (e ▸ z))⟩
  fz := fun i d e => by
    obtain ⟨v, h1, h2⟩ := R.fz i d e
    exact ⟨v, h1, by rw [← rs_del n]; exact h2⟩
  ow := fun i b u e => by
    obtain ⟨q, h1, h2, h3⟩ := R.ow i b u e
    have ne : q ≠ p := fun z => h2 (.inr z)
    refine ⟨q, h1, fun z => h2 (.inl z), ?_⟩
    rw [← rs_del n]
    refine h3.mono (Same.refl _) ?_
    unfold del
    rw [if_neg ne]
  inj := R.inj
/-- the new thing as one more slot -/
theorem rel_one (R : Rel K (fun q => M q ∨ q = p) σ H ρ) (n : ¬ M p) (hp : ObAt K (rs (Mu (fun q => M q ∨ q = p) σ ρ) H) H p o) : Rel K M (σ ++ [some (.ref p)]) H (ρ ++ [.ow true o]) := by
  have hl := R.len
  have lt_of : ∀ {i : Nat} {s : Sl}, (ρ ++ [Sl.ow true o])[i]? = some s → (i < ρ.length ∧ ρ[i]? = some s ∧ (σ ++ [some (V.ref p)])[i]? = σ[i]?) ∨ (i = ρ.length ∧ s = .ow true o ∧ (σ ++ [some (V.ref p)])[i]? = some (some (.ref p))) := fun {i s} e => by
    by_cases h : i < ρ.length
    · rw [List.getElem?_append_left h] at e
      exact .inl ⟨h, e, by rw [List.getElem?_append_left (by omega)]⟩
    · rw [List.getElem?_append_right (by omega)] at e
      have : i - ρ.length = 0 := by
        have := (List.getElem?_eq_some_iff.mp e).1
        simp at this; omega
      rw [this] at e
      simp at e
      have ei : i = ρ.length := by omega
      subst ei
      refine .inr ⟨rfl, e.symm, ?_⟩
      rw [List.getElem?_append_right (by omega), hl]
      simp
  have ow : ∀ q, Own (σ ++ [some (V.ref p)]) (ρ ++ [Sl.ow true o]) q ↔ Own σ ρ q ∨ q = p := fun q => by
    constructor
    · rintro ⟨i, b, u, h1, h2⟩
      rcases lt_of h1 with ⟨l, e1, e2⟩ | ⟨l, e1, e2⟩
      · exact .inl ⟨i, b, u, e1, by rw [← e2]; exact h2⟩
      · rw [e2] at h2; cases h2; exact .inr rfl
    · rintro (⟨i, b, u, h1, h2⟩ | rfl)
      · have l := (List.getElem?_eq_some_iff.mp h1).1
        exact ⟨i, b, u, by rw [List.getElem?_append_left l]; exact h1, by rw [List.getElem?_append_left (by omega)]; exact h2⟩
      · refine ⟨ρ.length, true, o, by simp, ?_⟩
        rw [← hl]; simp
  have le : Same (rs (Mu (fun q => M q ∨ q = p) σ ρ) H) (rs (Mu M (σ ++ [some (V.ref p)]) (ρ ++ [Sl.ow true o])) H) := rs_le fun q z => z.elim (fun z => .inl (.inl z)) fun z => ((ow q).mp z).elim .inr fun z => .inl (.inr z)
  refine ⟨by simp [hl], fun q z => R.live q (.inl z), fun i d e => ?_, fun i b u e => ?_, fun i j b u b' u' q h1 h2 h3 h4 => ?_⟩
  · rcases lt_of e with ⟨l, e1, e2⟩ | ⟨l, e1, e2⟩
    · obtain ⟨v, h1, h2⟩ := R.fz i d e1
      exact ⟨v, by rw [e2]; exact h1, dd_mono le _ _ h2⟩
    · cases e1
  · rcases lt_of e with ⟨l, e1, e2⟩ | ⟨l, e1, e2⟩
    · obtain ⟨q, h1, h2, h3⟩ := R.ow i b u e1
      exact ⟨q, by rw [e2]; exact h1, fun z => h2 (.inl z), h3.mono le rfl⟩
    · cases e1
      exact ⟨p, e2, n, hp.mono le rfl⟩
  · rcases lt_of h1 with ⟨l1, e1, e2⟩ | ⟨l1, e1, e2⟩
    · rcases lt_of h2 with ⟨l2, f1, f2⟩ | ⟨l2, f1, f2⟩
      · exact R.inj i j _ _ _ _ q e1 f1 (by rw [← e2]; exact h3) (by rw [← f2]; exact h4)
      · rw [f2] at h4; cases h4
        obtain ⟨a, g1, g2, _⟩ := R.ow i _ _ e1
        rw [e2, g1] at h3; cases h3
        exact absurd (Or.inr rfl) g2
    · rcases lt_of h2 with ⟨l2, f1, f2⟩ | ⟨l2, f1, f2⟩
      · rw [e2] at h3; cases h3
        obtain ⟨a, g1, g2, _⟩ := R.ow j _ _ f1
        rw [f2, g1] at h4; cases h4
        exact absurd (Or.inr rfl) g2
      · rw [l1, l2]
theorem own_add {u : Option V} {s : Sl} {q : Addr} (hl : σ.length = ρ.length) (h : Own σ ρ q) : Own (σ ++ [u]) (ρ ++ [s]) q := by
  obtain ⟨i, b, o, h1, h2⟩ := h
  have l := (List.getElem?_eq_some_iff.mp h1).1
  exact ⟨i, b, o, by rw [List.getElem?_append_left l]; exact h1, by rw [List.getElem?_append_left (by omega)]; exact h2⟩
/-- without the last slot -/
theorem rel_init {u : Option V} {s : Sl} (R : Rel K M (σ ++ [u]) H (ρ ++ [s])) : Rel K M σ H ρ := by
  have hl : σ.length = ρ.length := by have := R.len; simpa using this
  have le : Same (rs (Mu M (σ ++ [u]) (ρ ++ [s])) H) (rs (Mu M σ ρ) H) := rs_le fun q z => z.elim .inl fun z => .inr (own_add hl z)
  have a1 : ∀ {i : Nat} {x : Sl}, ρ[i]? = some x → (ρ ++ [s])[i]? = some x ∧ (σ ++ [u])[i]? = σ[i]? := fun {i x} e => by
    have l := (List.getElem?_eq_some_iff.mp e).1
    exact ⟨by rw [List.getElem?_append_left l]; exact e, by rw [List.getElem?_append_left (by omega)]⟩
  refine ⟨hl, R.live, fun i d e => ?_, fun i b o e => ?_, fun i j b o b' o' q h1 h2 h3 h4 => ?_⟩
  · obtain ⟨e1, e2⟩ := a1 e
    obtain ⟨v, h1, h2⟩ := R.fz i d e1
    exact ⟨v, by rw [← e2]; exact h1, dd_mono le _ _ h2⟩
  · obtain ⟨e1, e2⟩ := a1 e
    obtain ⟨q, h1, h2, h3⟩ := R.ow i b o e1
    exact ⟨q, by rw [← e2]; exact h1, h2, h3.mono le rfl⟩
  · obtain ⟨e1, e2⟩ := a1 h1
    obtain ⟨f1, f2⟩ := a1 h2
    exact R.inj i j b o b' o' q e1 f1 (by rw [e2]; exact h3) (by rw [f2]; exact h4)
/-- what comes back, without the last slot -/
theorem put_take : ∀ {avs : List AV} {out r : Rho}, put avs out r = put avs (out.take avs.length) r
  | [], out, r => by unfold put; rfl
  | .d _ :: as, _ :: out, r => by
    show put as out r = put as (out.take as.length) r
    exact put_take
  | .d _ :: as, [], r => by simp
  | .s i :: as, u :: out, r => by
    show put as out _ = put as (out.take as.length) _
    exact put_take
  | .s i :: as, [], r => by simp
/-- behind the call -/
theorem rel_putO (R : Rel K (fun q => M q ∨ q = p) σ H r) (n : ¬ Mu M σ r p) (hn : (slots avs).Nodup) (hv : Paired (RA0 K (fun q => M q ∨ q = p) σ r H) vs avs) (hm : mk avs r = some as')
    (g : Go (st_ (vs ++ [.ref p])) (as' ++ [.ow true o]) H (st_ (vs ++ [.ref p])) out H') (R' : Rel K (Mc M σ r avs) (st_ (vs ++ [.ref p])) H' out) :
    Go σ r (del H p) σ (put avs out r) H' ∧ Rel K M σ H' (put avs out r) ∧ Same (rs (Mu (Mc M σ r avs) (st_ (vs ++ [.ref p])) out) H') (rs (Mu M σ (put avs out r)) H') := by
  have es : st_ (vs ++ [V.ref p]) = st_ vs ++ [some (V.ref p)] := by simp [st_]
  rw [es] at g R' ⊢
  have Rd := rel_del R n
  have lv : vs.length = as'.length := by rw [Paired.length hv, mk_len hm]
  have hv' : Paired (RA0 K M σ r (del H p)) vs avs := Paired.mapP hv fun v x z => by
    cases x with
    | d d =>
      show Dd K (rs (Mu M σ r) (del H p)) v d
      rw [← rs_del n]; exact z
    | s i => exact z
  obtain ⟨out0, s, rfl⟩ : ∃ out0 s, out = out0 ++ [s] := by
    have l := R'.len
    refine ⟨out.dropLast, out.getLast (fun e => by rw [e] at l; simp at l), ?_⟩
    rw [List.dropLast_concat_getLast]
  have l0 : out0.length = vs.length := by have := R'.len; simp [st_] at this; omega
  have R0 : Rel K (Mc M σ r avs) (st_ vs) H' out0 := rel_init R'
  have lz : (st_ vs).length = as'.length := by simp [st_, lv]
  have lo : (st_ vs).length = out0.length := by simp [st_, l0]
  have ob : ∀ q, Own (st_ vs ++ [some (V.ref p)]) (as' ++ [Sl.ow true o]) q → Own (st_ vs) as' q ∨ q = p := fun q h => by
    obtain ⟨i, b, u, h1, h2⟩ := h
    by_cases hi : i < as'.length
    · rw [List.getElem?_append_left hi] at h1
      rw [List.getElem?_append_left (by omega)] at h2
      exact .inl ⟨i, b, u, h1, h2⟩
    · rw [List.getElem?_append_right (by omega)] at h2
      have : i - (st_ vs).length = 0 := by
        have := (List.getElem?_eq_some_iff.mp h2).1
        simp at this; omega
      rw [this] at h2
      simp at h2
      exact .inr h2.symm
  have g0 : Go (st_ vs) as' (del H p) (st_ vs) out0 H' := by
    refine ⟨fun q u h z => ?_, fun q h => ?_, fun i o' h => ?_, fun q u h => g.live q u (del_of h).1⟩
    · obtain ⟨h1, h2⟩ := del_of h
      exact g.keep q u h1 fun y => (ob q y).elim z h2
    · rcases g.own q (own_add lo h) with z | z
      · rcases ob q z with z | z
        · exact .inl z
        · refine .inr ?_
          unfold del; rw [if_pos z]
      · refine .inr ?_
        unfold del; split
        · rfl
        · exact z
    · have li := (List.getElem?_eq_some_iff.mp h).1
      obtain ⟨⟨u, h1⟩, _⟩ := g.io i o' (by rw [List.getElem?_append_left li]; exact h)
      rw [List.getElem?_append_left (by omega)] at h1
      exact ⟨⟨u, h1⟩, rfl⟩
  obtain ⟨z1, z2, z3⟩ := rel_put Rd hn hv' hm g0 R0
  have ep : put avs (out0 ++ [s]) r = put avs out0 r := by
    have la : avs.length = out0.length := by rw [l0, Paired.length hv]
    rw [put_take (out := out0 ++ [s]), put_take (out := out0), la, List.take_left, List.take_length]
  rw [ep]
  refine ⟨z1, z2, fun q u e => z3 q u ?_⟩
  exact rs_le (fun a z => z.elim .inl fun z => .inr (own_add lo z)) q u e
end
def callRO (F : Rho → Res D) (avs : List AV) (o : Ob) (r : Rho) : Res D := if (slots avs).Nodup then match mk avs r with
    | none => .no
    | some as => match F (as ++ [.ow true o]) with
      | .ok d out => .ok d (put avs out r)
      | .er c out => .er c (put avs out r)
      | .no => .no
  else .no
def callEO (F : Rho → Res D) (as : List AE) (go : Ev Ob) : Ev D := fun ρ => (argsO as go ρ).bind fun xo r => callRO F xo.1 xo.2 r
section
variable {X : Cx} {cl : Cl} {W : WX} {k : Nat} {f : Addr} {fd : FuncData} {ps : List Str} {x : Str} {p pos : Pos} {e : Expr} {es : List Expr} {as : List AE} {go : Ev Ob} {F : Rho → Res D}
theorem argsE_len : ∀ {as : List AE} {ρ ρ1 : Rho} {avs : List AV}, argsE as ρ = .ok avs ρ1 → avs.length = as.length := by
  intro as
  induction as with
  | nil => intro ρ ρ1 avs h; cases h; rfl
  | cons a as ih =>
    intro ρ ρ1 avs h
    unfold argsE at h
    cases h1 : argE a ρ with
    | ok x r =>
      rw [h1] at h
      simp only [Res.bind_ok] at h
      cases h2 : argsE as r with
      | ok xs r2 =>
        rw [h2] at h
        cases h
        simp [ih h2]
      | er c r2 => rw [h2] at h; cases h
      | no => rw [h2] at h; cases h
    | er c r => rw [h1] at h; cases h
    | no => rw [h1] at h; cases h
theorem d_callO (tk : Takes X W) (G : FnOk X.prog X.w X.K X.mg X.base (L2.CX X.prog X.w) k f fd ps (spF X.K cl ps.length F)) (hr : Room k X.A) (hg : Gl X x) (hm : X.mg x = some (.ref f)) (hk : PySem.W.keepIn X.K (.ref f) = true) (hb : Binds X.K fd ps [])
    (ha : PA X (e :: es) (tAO X.K cl W as go)) (hl : as.length + 1 = ps.length := by rfl) (hdb : (x == ("__debug__" : Str)) = false := by decide) (he : starEach (e :: es) X.env = (false, eval e X.env) :: starEach es X.env := by rfl) (hpl : (backTo pos (starEach es X.env)).any (·.1) = false := by rfl) :
    PE X (.Call (.Name x p) (e :: es) [] pos) (tE X.K cl W (callEO F as go)) := by
  refine PE.weak (pe_callS (E := WE W) G hr hg hm hk hb (fun σ => passAt tk σ) ha hdb he hpl) ?_
  rintro σ H Q ⟨M, ρ, R, q⟩
  refine ⟨M, ρ, R, ?_⟩
  have q : Pst X.K cl W (RD X.K) M σ ρ H ((argsO as go ρ).bind fun xo r => callRO F xo.1 xo.2 r) Q := q
  cases ea : argsO as go ρ with
  | er c r => rw [ea] at q; exact q
  | no => rw [ea] at q; exact q
  | ok xo ρ1 =>
    rw [ea] at q
    obtain ⟨avs, o⟩ := xo
    have q : Pst X.K cl W (RD X.K) M σ ρ H (callRO F avs o ρ1) Q := q
    intro vs H1 g1 R1 q1
    obtain ⟨ws, c, rfl, hv, hc, n, Rp, hob⟩ := q1
    have la : avs.length = as.length := by
      unfold argsO at ea
      cases e1 : argsE as ρ with
      | ok xs r2 =>
        rw [e1] at ea
        simp only [Res.bind_ok] at ea
        cases e2 : go r2 with
        | ok u r3 =>
          rw [e2] at ea
          simp only [Res.bind_ok] at ea
          cases ea
          exact argsE_len e1
        | er c r3 => rw [e2] at ea; cases ea
        | no => rw [e2] at ea; cases ea
      | er c r3 => rw [e1] at ea; cases ea
      | no => rw [e1] at ea; cases ea
    have gd : Go σ ρ H σ ρ1 (del H1 c) := by
      refine ⟨fun q u h z => del_mk (g1.keep q u h z) fun y => ?_, g1.own, g1.io, fun q u h => ?_⟩
      · rw [y, hc] at h; cases h
      · obtain ⟨u', e'⟩ := g1.live q u h
        exact ⟨u', del_mk e' fun y => by rw [y, hc] at h; cases h⟩
    unfold callRO at q
    split at q
    · rename_i hn
      split at q
      · exact q.elim
      · rename_i as' hm'
        have Rm := rel_mk Rp hn hv hm'
        have em : Mc (fun q => M q ∨ q = c) σ ρ1 avs = fun q => Mc M σ ρ1 avs q ∨ q = c := by
          funext a
          exact propext ⟨fun z => z.elim (fun z => z.elim (fun z => .inl (.inl z)) .inr) fun z => .inl (.inr z), fun z => z.elim (fun z => z.elim (fun z => .inl (.inl z)) .inr) fun z => .inl (.inr z)⟩
        have nc : ¬ Mc M σ ρ1 avs c := fun z => z.elim (fun z => n (.inl z)) fun z => n (.inr z.1)
        rw [em] at Rm
        have hob' : ObAt X.K (rs (Mu (fun q => Mc M σ ρ1 avs q ∨ q = c) (st_ ws) as') H1) H1 c o := by
          refine hob.mono (rs_le fun a z => ?_) rfl
          rw [← em] at z
          exact mu_mk hv hm' z
        have Rb := rel_one Rm nc hob'
        have es : st_ (ws ++ [V.ref c]) = st_ ws ++ [some (V.ref c)] := by simp [st_]
        refine ⟨by rw [List.length_append, Paired.length hv, la]; exact hl, Mc M σ ρ1 avs, as' ++ [.ow true o], by rw [es]; exact Rb, ?_⟩
        cases eF : F (as' ++ [.ow true o]) with
        | ok d out =>
          rw [eF] at q
          intro v H2 g2 R2 hd
          obtain ⟨z1, z2, z3⟩ := rel_putO Rp n hn hv hm' g2 R2
          exact q v H2 (gd.trans z1) z2 (dd_mono z3 _ _ hd)
        | er cc out =>
          rw [eF] at q
          intro cls dd H2 hcl g2 R2
          obtain ⟨z1, z2, z3⟩ := rel_putO Rp n hn hv hm' g2 R2
          exact q cls dd H2 hcl (gd.trans z1) z2
        | no => rw [eF] at q; exact q.elim
    · exact q.elim
end
end DL
end
section
set_option Elab.async false
set_option linter.all false
set_option maxRecDepth 100000
set_option autoImplicit false
namespace DL
open PySem PySem.Spec PySem.W L2

/-! ### sorted(set(xs)), texts -/
def sortsetT : D → Option Ob
  | .list ds => (strsOf ds).bind fun ys => if ys.length ≤ 4000 then some (.ls ((ssort ys).map .str)) else none
  | _ => none
theorem dd_strs {K : PySem.W.Frag} {G : Hp} : ∀ {ys : List Str}, DdAll K G (ys.map V.str) (ys.map PyData.str)
  | [] => .nil
  | _ :: _ => .cons (.str _) dd_strs
section
variable {X : Cx} {cl : Cl} {W : WX} {a : Expr} {A : Opd} {p p2 pos pos2 : Pos}
theorem o_sortsetT (hc : X.calm = true) (hu : X.A.units + 200 < cLine) (hg : Gl X "sorted") (hm : X.mg "sorted" = none) (hg2 : Gl X "set") (hm2 : X.mg "set" = none) (ha : PE X a (tP X.K cl W A)) (na : starEach [a] X.env = (false, eval a X.env) :: starEach [] X.env := by rfl)
    (nb : starEach [Expr.Call (.Name "set" p2) [a] [] pos2] X.env = (false, eval (.Call (.Name "set" p2) [a] [] pos2) X.env) :: starEach [] X.env := by rfl)
    (hpl : (backTo pos2 (starEach [] X.env)).any (·.1) = false := by rfl) (hpl2 : (backTo pos (starEach [] X.env)).any (·.1) = false := by rfl) :
    PE X (.Call (.Name "sorted" p) [.Call (.Name "set" p2) [a] [] pos2] [] pos) (tO X.K cl W (e1 sortsetT A)) := by
  refine PE.weak (pe_callB (cr_sortedT hc hu) hg hm PyProof.Rows.boot_sorted (pa_cons (pe_callTy (cr_setT hc) hg2 hm2 PyProof.Rows.boot_set (pa_cons ha pa_nil na) (by decide) (by decide) na hpl) pa_nil nb) (by decide) (by decide) nb hpl2) ?_
  rintro σ H Q ⟨M, ρ, R, q⟩
  refine tG_bind R q fun v y ρ1 H1 _ g1 R1 q1 p1 => ?_
  refine end_o R1 p1 fun o e k => ?_
  obtain ⟨d1, h1, e⟩ := Option.bind_eq_some_iff.mp e
  have hb := RV0.fin R1 q1 h1
  unfold sortsetT at e
  split at e
  · obtain ⟨ys, e2, e⟩ := Option.bind_eq_some_iff.mp e
    split at e
    · rename_i hl
      cases e
      obtain ⟨l, vs, rfl, hp, hd⟩ := hb.list (rs_sub _ _)
      have ev := strs_dd hd e2
      subst ev
      refine ⟨l, ys, rfl, hp, hl, fun b hb => ?_⟩
      refine ⟨b, ys, rfl, upd_same, hl, fun c h5 => ?_⟩
      have h5' : H1 c = none := by
        by_cases z : c = b
        · subst z; exact hb
        · rw [upd_ne z] at h5; exact h5
      refine k c _ (fun q o e => ?_) h5' ⟨_, upd_same, dd_strs⟩
      rw [upd_ne (ne_of_none e h5'), upd_ne (ne_of_none e hb)]
      exact e
    · cases e
  · cases e
end
/-! ### min(xs), data -/
def minOk (ds : List D) : Bool := (ds.all fun x => ds.all fun y => alike x y) && (ds.all fun d => match d with | .none => false | _ => true) && decide (PyData.depthAll ds ≤ 64)
def minLD : D → Option D
  | .list (x :: xs) => if minOk (x :: xs) = true then some (PySem.W.minD x xs) else none
  | _ => none
theorem minOk_of {ds : List D} (h : minOk ds = true) : AlikeAll ds ∧ PyData.depthAll ds ≤ 64 := by
  unfold minOk at h
  simp only [Bool.and_eq_true, List.all_eq_true, decide_eq_true_eq] at h
  refine ⟨⟨h.1.1, fun x hx e => ?_⟩, h.2⟩
  have := h.1.2 x hx
  rw [e] at this
  cases this
def rMinLD (K : PySem.W.Frag) : List V → Hp → VK → Prop := fun xs H Q => ∃ (p : Addr) (vs : List V) (d : D) (ds : List D), xs = [.ref p] ∧ H p = some (.lst vs) ∧ DpAll K H vs (d :: ds) ∧ AlikeAll (d :: ds) ∧ PyData.depthAll (d :: ds) ≤ 64 ∧
  ∀ (i : Nat) v, vs[i]? = some v → (d :: ds)[i]? = some (PySem.W.minD d ds) → Q v H
section
variable {X : Cx}
theorem cr_minLD (hc : X.calm = true) (hu : X.A.units + 200 < cLine) : CallR X (.builtin "min") (rMinLD X.K) := by
  intro pins s σ H xs us Q I r h
  obtain ⟨p, vs, d, ds, rfl, hp, hd, ha, hdep, q⟩ := h
  rw [Vals.ref1 r]
  obtain ⟨z, its, n, rv, hl, e⟩ := I.lstM hp
  obtain ⟨as, ra⟩ := Dp.readsAll I _ _ _ hd rv
  refine min_list_data (vs := its.toArray) (I.ok.hd hc) ⟨_, e, rfl, _, rfl⟩ (by simpa using ra) ha (by omega) fun i v h' tk bs hv rd kk => ?_
  have hv : its[i]? = some v := by simpa using hv
  have hli : i < vs.length := by rw [rv.length]; exact (List.getElem?_eq_some_iff.mp hv).1
  obtain ⟨v', hv', rr⟩ : ∃ v', vs[i]? = some v' ∧ RelV v' v := by
    obtain ⟨u, hu1, hu2⟩ := Vals.get rv (List.getElem?_eq_getElem hli)
    rw [hv] at hu1; cases hu1
    exact ⟨_, List.getElem?_eq_getElem hli, hu2⟩
  obtain ⟨cs, r2, il, _, _⟩ := readsAll_at ra i v hv
  have r3 := reads_keeps kk r2
  obtain ⟨ed, _⟩ := PyProof.Rows.reads_det (fun _ _ e _ => e) rd r3
  refine ⟨v', H, I.kept kk, rr, q i v' hv' ?_⟩
  rw [List.getD_eq_getElem?_getD, List.getElem?_eq_getElem il] at ed
  rw [List.getElem?_eq_getElem il]
  exact congrArg some ed
theorem ddAll_dpAll {K : PySem.W.Frag} {G H : Hp} (s : Same G H) : ∀ {vs : List V} {ds : List D}, DdAll K G vs ds → DpAll K H vs ds
  | _, _, .nil => .nil
  | _, _, .cons h t => .cons (Dd.dp _ _ (dd_mono s _ _ h)) (ddAll_dpAll s t)
theorem sb_minLD {K : PySem.W.Frag} : Sb1 K (rMinLD K) minLD := by
  intro G H v d1 d Q s h1 e k
  unfold minLD at e
  split at e
  · split at e
    · rename_i x xs hc
      cases e
      obtain ⟨p, vs, rfl, hp, hd⟩ := h1.list s
      obtain ⟨c1, c2⟩ := minOk_of hc
      refine ⟨p, vs, x, xs, rfl, hp, ddAll_dpAll s hd, c1, c2, fun i v hv hi => ?_⟩
      obtain ⟨v', e1, e2⟩ := DdAll.get hd hi
      rw [hv] at e1; cases e1
      exact keep_ k (dd_mono (ex_same s) _ _ e2)
    · cases e
  · cases e
end
end DL
end
section
set_option Elab.async false
set_option linter.all false
set_option maxRecDepth 100000
set_option autoImplicit false
namespace DL
open PySem PySem.Spec PySem.W L2

/-! ### < and <= of data -/
def ltOk (d e : D) : Bool := alike d e && (match d with | .none => false | _ => true) && decide (d.depth ≤ 64)
def ltDD (d e : D) : Option D := if ltOk d e = true then some (.bool (dataLt d e)) else none
def leDD (d e : D) : Option D := if ltOk d e = true then some (.bool (!dataLt e d)) else none
theorem ltOk_of {d e : D} (h : ltOk d e = true) : alike d e = true ∧ d ≠ .none ∧ d.depth ≤ 64 := by
  unfold ltOk at h
  simp only [Bool.and_eq_true, decide_eq_true_eq] at h
  refine ⟨h.1.1, fun z => ?_, h.2⟩
  rw [z] at h
  cases h.1.2
def rLtDD (K : PySem.W.Frag) : R2 := fun x y H Q => ∃ d e, Dp K H x d ∧ Dp K H y e ∧ ltOk d e = true ∧ Q (.bl (dataLt d e)) H
def rLeDD (K : PySem.W.Frag) : R2 := fun x y H Q => ∃ d e, Dp K H x d ∧ Dp K H y e ∧ ltOk d e = true ∧ Q (.bl (!dataLt e d)) H
section
variable {X : Cx} {K : PySem.W.Frag}
theorem op_ltDD (hu : X.A.units + 200 < cLine) : OpR X (compareOp .Lt) (rLtDD X.K) := by
  intro pins s σ H x y v u Q I rx ry h
  obtain ⟨d, e, hd, he, hk, q⟩ := h
  obtain ⟨as, r1⟩ := Dp.reads I d x v hd rx
  obtain ⟨bs, r2⟩ := Dp.reads I e y u he ry
  obtain ⟨k1, k2, k3⟩ := ltOk_of hk
  exact lt_data r1 r2 k1 k2 (by omega) ⟨.bl _, H, I, rfl, q⟩
theorem op_leDD (hu : X.A.units + 200 < cLine) : OpR X (compareOp .LtE) (rLeDD X.K) := by
  intro pins s σ H x y v u Q I rx ry h
  obtain ⟨d, e, hd, he, hk, q⟩ := h
  obtain ⟨as, r1⟩ := Dp.reads I d x v hd rx
  obtain ⟨bs, r2⟩ := Dp.reads I e y u he ry
  obtain ⟨k1, k2, k3⟩ := ltOk_of hk
  exact le_data r1 r2 k1 k2 (by omega) ⟨.bl _, H, I, rfl, q⟩
theorem sd_ltDD : Sd2 K (rLtDD K) ltDD := by
  intro G H v w d1 d2 d Q s h1 h2 e k
  unfold ltDD at e
  split at e
  · rename_i hc
    cases e
    exact ⟨_, _, h1.dp s, h2.dp s, hc, keep_ k (.bl _)⟩
  · cases e
theorem sd_leDD : Sd2 K (rLeDD K) leDD := by
  intro G H v w d1 d2 d Q s h1 h2 e k
  unfold leDD at e
  split at e
  · rename_i hc
    cases e
    exact ⟨_, _, h1.dp s, h2.dp s, hc, keep_ k (.bl _)⟩
  · cases e
end
end DL
end
section
set_option Elab.async false
set_option linter.all false
set_option maxRecDepth 100000
set_option autoImplicit false
namespace DL
open PySem PySem.Spec PySem L2 SX

/-! ### words: texts as lists of code points -/
abbrev Wd := List Nat
def wd (w : Wd) : D := .str (S w)
def okw (w : Wd) : Prop := w.length ≤ 1000 ∧ ∀ c ∈ w, c < 123
theorem ok_wd {w : Wd} (h : okw w) : okN 0 (wd w) := ok_str fun c hc => by
  have : c ∈ w := hc
  have := h.2 c this
  omega
theorem enc_wd : Enc wd := fun a b => by
  show ((S a == S b) : Bool) = _
  exact S_beq_eq
theorem okw.drop {w : Wd} (h : okw w) (k : Nat) : okw (w.drop k) := ⟨by rw [List.length_drop]; have := h.1; omega, fun c hc => h.2 c (List.mem_of_mem_drop hc)⟩
theorem okw.take {w : Wd} (h : okw w) (k : Nat) : okw (w.take k) := ⟨by rw [List.length_take]; have := h.1; omega, fun c hc => h.2 c (List.mem_of_mem_take hc)⟩
theorem sub0 (a b : Wd) (i : Nat) : Builtin.Str.subAt (S a) (S b) i = decide (b <+: a.drop i) := by
  rw [StrLaws.subAt_eq, S_len]
  show ((a.drop i).take b.length == b) = _
  by_cases h : b <+: a.drop i
  · have e : (a.drop i).take b.length = b := (List.prefix_iff_eq_take.mp h).symm
    rw [e, decide_eq_true h]
    exact beq_self_eq_true b
  · rw [decide_eq_false h, beq_eq_false_iff_ne]
    intro e
    exact h (List.prefix_iff_eq_take.mpr e.symm)
theorem sw_S (a b : Wd) : swD (S a) (wd b) = some (.bool (decide (b <+: a))) := by
  show some (PyData.bool (decide (0 + (S b).length ≤ (S a).length) && Builtin.Str.subAt (S a) (S b) 0)) = _
  rw [sub0, S_len, S_len, List.drop_zero]
  by_cases h : b <+: a
  · have := h.length_le
    simp [h]; omega
  · simp [h]
theorem sw3_S (a b : Wd) (i : Nat) (h : i + b.length ≤ a.length ∨ b ≠ []) : sw3D (S a) (wd b) (.int (i : Int)) = some (.bool (decide (b <+: a.drop i))) := by
  have e : fromIndex (S a).length (i : Int) = i := by
    unfold fromIndex
    rw [if_neg (by omega)]
    omega
  show some (PyData.bool (decide (fromIndex (S a).length (i : Int) + (S b).length ≤ (S a).length) && Builtin.Str.subAt (S a) (S b) (fromIndex (S a).length (i : Int)))) = _
  rw [e, sub0, S_len, S_len]
  by_cases q : b <+: a.drop i
  · have l := q.length_le
    rw [List.length_drop] at l
    rcases h with h | h
    · simp [q, h]
    · have : b.length ≠ 0 := fun z => h (List.length_eq_zero_iff.mp z)
      simp [q]; omega
  · simp [q]
/-! ### slices -/
theorem sl_from (a : Wd) (k : Nat) (h : a.length ≤ 16777216) : slD (wd a) (some (k : Int)) none = some (wd (a.drop k)) := by
  show (if (S a).length ≤ 16777216 then some (PyData.str (cutS (S a) (some (k : Int)) none)) else none) = _
  rw [if_pos (by rw [S_len]; exact h)]
  unfold cutS
  rw [HT.sIx_nat, HT.sIx_none, S_len]
  show some (PyData.str (S ((a.drop (min k a.length)).take (a.length - min k a.length)))) = _
  rw [List.take_of_length_le (by rw [List.length_drop]; omega)]
  by_cases q : k ≤ a.length
  · rw [Nat.min_eq_left q]; rfl
  · rw [Nat.min_eq_right (by omega), List.drop_of_length_le (Nat.le_refl _), show wd (a.drop k) = wd [] by rw [List.drop_of_length_le (by omega)]]
    rfl
theorem sl_to (a : Wd) (k : Nat) (h : a.length ≤ 16777216) : slD (wd a) none (some (k : Int)) = some (wd (a.take k)) := by
  show (if (S a).length ≤ 16777216 then some (PyData.str (cutS (S a) none (some (k : Int)))) else none) = _
  rw [if_pos (by rw [S_len]; exact h)]
  unfold cutS
  rw [HT.sIx_nat, HT.sIx_none, S_len]
  show some (PyData.str (S ((a.drop 0).take (min k a.length - 0)))) = _
  rw [List.drop_zero, Nat.sub_zero]
  by_cases q : k ≤ a.length
  · rw [Nat.min_eq_left q]; rfl
  · rw [Nat.min_eq_right (by omega), List.take_length, show wd (a.take k) = wd a by rw [List.take_of_length_le (by omega)]]
    rfl
theorem sl_mid (a : Wd) (i j : Nat) (h : a.length ≤ 16777216) (hi : i ≤ a.length) : slD (wd a) (some (i : Int)) (some (j : Int)) = some (wd ((a.drop i).take (j - i))) := by
  show (if (S a).length ≤ 16777216 then some (PyData.str (cutS (S a) (some (i : Int)) (some (j : Int)))) else none) = _
  rw [if_pos (by rw [S_len]; exact h)]
  unfold cutS
  rw [HT.sIx_nat, HT.sIx_nat, S_len]
  show some (PyData.str (S ((a.drop (min i a.length)).take (min j a.length - min i a.length)))) = _
  rw [Nat.min_eq_left hi]
  by_cases q : j ≤ a.length
  · rw [Nat.min_eq_left q]; rfl
  · rw [Nat.min_eq_right (by omega), show (a.drop i).take (j - i) = (a.drop i).take (a.length - i) by
      rw [List.take_of_length_le (by rw [List.length_drop]; omega), List.take_of_length_le (by rw [List.length_drop]; omega)]]
    rfl
theorem len_wd (a : Wd) (h : a.length ≤ 16777216) : lenD (wd a) = some (.int (a.length : Int)) := len_str a h
theorem add_wd (a b : Wd) (h : a.length + b.length ≤ 16777216) : addD (wd a) (wd b) = some (wd (a ++ b)) := add_str a b h
theorem eq_wd {a b : Wd} (h1 : okw a) (h2 : okw b) : eqD (wd a) (wd b) = some (.bool (decide (a = b))) := by
  rw [eqD_ok ((ok_wd h1).mono (by omega)) ((ok_wd h2).mono (by omega)), enc_wd]
theorem ne_wd {a b : Wd} (h1 : okw a) (h2 : okw b) : neD (wd a) (wd b) = some (.bool (!decide (a = b))) := by
  rw [neD_ok ((ok_wd h1).mono (by omega)) ((ok_wd h2).mono (by omega)), enc_wd]
theorem in_wd {a : Wd} {l : List Wd} (h1 : okw a) (h2 : ∀ x ∈ l, okw x) : inD (wd a) (.list (l.map wd)) = some (.bool (decide (a ∈ l))) := by
  have hx : ∀ x ∈ l.map wd, okN 63 x := fun x hx => by
    obtain ⟨y, hy, rfl⟩ := List.mem_map.mp hx
    exact (ok_wd (h2 y hy)).mono (by omega)
  rw [inL_ok ((ok_wd h1).mono (by omega)) hx, inAny_mem enc_wd _ _ inferInstance]
theorem nin_wd {a : Wd} {l : List Wd} (h1 : okw a) (h2 : ∀ x ∈ l, okw x) : notInD (wd a) (.list (l.map wd)) = some (.bool (!decide (a ∈ l))) := by
  have hx : ∀ x ∈ l.map wd, okN 63 x := fun x hx => by
    obtain ⟨y, hy, rfl⟩ := List.mem_map.mp hx
    exact (ok_wd (h2 y hy)).mono (by omega)
  rw [ninL_ok ((ok_wd h1).mono (by omega)) hx, inAny_mem enc_wd _ _ inferInstance]
theorem inT_wd {a : Wd} {l : List Wd} (h1 : okw a) (h2 : ∀ x ∈ l, okw x) : inD (wd a) (.tuple (l.map wd)) = some (.bool (decide (a ∈ l))) := by
  have hx : ∀ x ∈ l.map wd, okN 63 x := fun x hx => by
    obtain ⟨y, hy, rfl⟩ := List.mem_map.mp hx
    exact (ok_wd (h2 y hy)).mono (by omega)
  rw [inT_ok ((ok_wd h1).mono (by omega)) hx, inAny_mem enc_wd _ _ inferInstance]
theorem strsOf_wd : ∀ l : List Wd, strsOf (l.map wd) = some (l.map S)
  | [] => rfl
  | c :: cs => by
    show (strsOf (cs.map wd)).map (S c :: ·) = _
    rw [strsOf_wd cs]
    rfl
theorem join_wd (l : List Wd) (h : (l.map List.length).sum ≤ 16777216) : joinD (S []) (.list (l.map wd)) = some (wd l.flatten) := by
  show ((strsOf (l.map wd)).bind fun ys => if (ys.map (·.length)).sum + ys.length * (S []).length ≤ 16777216 then some (PyData.str (Txt.join (S []) ys)) else none) = _
  rw [strsOf_wd, obind, lens, if_pos (by rw [S_len]; simp; exact h), join_S]
  have : TL.joinL [] l = l.flatten := by
    induction l with
    | nil => rfl
    | cons c l ih =>
      cases l with
      | nil => simp [TL.joinL]
      | cons d l =>
        have ih := ih (by simp only [List.map_cons, List.sum_cons] at h ⊢; omega)
        rw [TL.joinL] <;> simp_all
  rw [this]
  rfl
/-! ### what is run, in general -/
def Loose (x : Sl) : Prop := x = .un ∨ (∃ d, x = .fz d) ∨ ∃ o, x = .ow false o
theorem Loose.un : Loose .un := .inl rfl
theorem Loose.fz (d : D) : Loose (.fz d) := .inr (.inl ⟨d, rfl⟩)
theorem Loose.ow (o : Ob) : Loose (.ow false o) := .inr (.inr ⟨o, rfl⟩)
theorem sto_loose {r : Rho} {i : Nat} {x y : Sl} (h : r[i]? = some x) (hx : Loose x) : sto r i y = some (r.set i y) := by
  unfold sto
  rw [h]
  rcases hx with rfl | ⟨d, rfl⟩ | ⟨o, rfl⟩ <;> rfl
theorem outOf_fz : ∀ (as r : Rho), (∀ s ∈ as, ∀ o, s ≠ .ow true o) → outOf as r = as.map fun _ => .un
  | [], r, _ => by cases r <;> rfl
  | a :: as, [], h => by
    show .un :: outOf as [] = _
    rw [outOf_fz as [] fun s hs => h s (by simp [hs])]
    rfl
  | a :: as, b :: r, h => by
    have e : keepO a b = .un := by
      have := h a (by simp)
      cases a with
      | un => rfl
      | fz d => rfl
      | ow t o =>
        cases t with
        | true => exact absurd rfl (this o)
        | false => rfl
    show keepO a b :: outOf as r = _
    rw [e, outOf_fz as r fun s hs => h s (by simp [hs])]
    rfl
/-- a def whose arguments are data -/
theorem frun {n : Nat} {g : Ev Fl} {ds : List D} {d : D} (h : ∃ r, g (ds.map Sl.fz ++ List.replicate (n - ds.length) .un) = .ok (.rt d) r) : bodyF n g (ds.map Sl.fz) = .ok d (ds.map fun _ => .un) := by
  obtain ⟨r, e⟩ := h
  refine bodyF_rt (r := r) rfl (by rw [List.length_map]; exact e) ?_
  rw [outOf_fz _ _ fun s hs o z => ?_, List.map_map]
  · rfl
  · obtain ⟨d, _, e⟩ := List.mem_map.mp hs
    rw [← e] at z; cases z
/-- a comprehension: each item tested, turned -/
theorem lcp_run {α : Type} {t : Tg} {tt : Ev Bool} {te : Ev D} {vs : List Nat} {ρ : Rho} (e : α → D) (p : α → Bool) (f : α → D) : ∀ (l : List α) (n : Nat), n + l.length ≤ 16777216 →
    (∀ x ∈ l, ∃ r1 r2, t.f (e x) ρ = some r1 ∧ tt r1 = .ok (p x) r2 ∧ wipeR r2 vs = ρ ∧ (p x = true → ∃ r3, te r2 = .ok (f x) r3 ∧ wipeR r3 vs = ρ)) → lcLoop t tt te vs (l.map e) n ρ = .ok ((l.filter p).map f) ρ
  | [], n, _, _ => Eq.trans rfl rfl
  | x :: l, n, hn, h => by
    simp only [List.length_cons] at hn
    obtain ⟨r1, r2, h1, h2, h3, h4⟩ := h x (by simp)
    have hn' : n < 16777216 := by omega
    have ih := fun m hm => lcp_run e p f l m hm fun y hy => h y (by simp [hy])
    rw [List.map_cons]
    unfold lcLoop
    rw [h1]
    simp only [noEr_ok, Res.bind_ok, h2]
    cases q : p x with
    | true =>
      obtain ⟨r3, h5, h6⟩ := h4 q
      simp only [if_true, h5, noEr_ok, Res.bind_ok, hn', h6]
      rw [ih (n + 1) (by omega), List.filter_cons_of_pos q]
      exact Eq.trans rfl rfl
    | false =>
      simp only [Bool.false_eq_true, if_false, h3]
      rw [ih n (by omega), List.filter_cons_of_neg (by rw [q]; exact Bool.false_ne_true)]
theorem lcE_run {α : Type} {gi : Ev (List D)} {t : Tg} {tt : Ev Bool} {te : Ev D} {vs : List Nat} {ρ ρ1 : Rho} (e : α → D) (p : α → Bool) (f : α → D) (l : List α) (hi : gi ρ = .ok (l.map e) ρ1) (hl : l.length ≤ 16777216)
    (h : ∀ x ∈ l, ∃ r1 r2, t.f (e x) (wipeR ρ1 vs) = some r1 ∧ tt r1 = .ok (p x) r2 ∧ wipeR r2 vs = wipeR ρ1 vs ∧ (p x = true → ∃ r3, te r2 = .ok (f x) r3 ∧ wipeR r3 vs = wipeR ρ1 vs)) : lcE gi t tt te vs ρ = .ok (.ls ((l.filter p).map f)) (wipeR ρ1 vs) := by
  rw [lcE_ap, hi]
  simp only [Res.bind_ok]
  rw [lcp_run e p f l 0 (by omega) h]
  exact Eq.trans rfl rfl
/-- .. where nothing turns -/
theorem lcE_pure {α : Type} {gi : Ev (List D)} {t : Tg} {tt : Ev Bool} {te : Ev D} {vs : List Nat} {ρ ρ1 ρ2 : Rho} (e : α → D) (p : α → Bool) (f : α → D) (l : List α) (hi : gi ρ = .ok (l.map e) ρ1) (hw : wipeR ρ1 vs = ρ2) (hl : l.length ≤ 16777216)
    (h : ∀ x ∈ l, ∃ r1, t.f (e x) ρ2 = some r1 ∧ wipeR r1 vs = ρ2 ∧ tt r1 = .ok (p x) r1 ∧ (p x = true → te r1 = .ok (f x) r1)) : lcE gi t tt te vs ρ = .ok (.ls ((l.filter p).map f)) ρ2 := by
  subst hw
  refine lcE_run e p f l hi hl fun x hx => ?_
  obtain ⟨r1, h1, h2, h3, h4⟩ := h x hx
  exact ⟨r1, r1, h1, h3, h2, fun q => ⟨r1, h4 q, h2⟩⟩
/-- .. without a test -/
theorem lcE_map {α : Type} {gi : Ev (List D)} {t : Tg} {te : Ev D} {vs : List Nat} {ρ ρ1 ρ2 : Rho} (e : α → D) (f : α → D) (l : List α) (hi : gi ρ = .ok (l.map e) ρ1) (hw : wipeR ρ1 vs = ρ2) (hl : l.length ≤ 16777216)
    (h : ∀ x ∈ l, ∃ r1, t.f (e x) ρ2 = some r1 ∧ wipeR r1 vs = ρ2 ∧ te r1 = .ok (f x) r1) : lcE gi t yesT te vs ρ = .ok (.ls (l.map f)) ρ2 := by
  have := lcE_pure (tt := yesT) e (fun _ => true) f l hi hw hl fun x hx => by
    obtain ⟨r1, h1, h2, h3⟩ := h x hx
    exact ⟨r1, h1, h2, Eq.trans rfl rfl, fun _ => h3⟩
  rw [List.filter_eq_self.mpr fun _ _ => rfl] at this
  exact this
/-- a loop that goes on with a state -/
theorem loop_st {α σ : Type} {t : Tg} {b : Ev Fl} (e : α → D) (I : σ → Rho → Prop) (f : σ → α → σ) : ∀ (l : List α) (s : σ) (ρ : Rho), I s ρ →
    (∀ (s : σ) x ρ, x ∈ l → I s ρ → ∃ r1 r2, t.f (e x) ρ = some r1 ∧ b r1 = .ok .nx r2 ∧ I (f s x) r2) → ∃ ρ', loopS t b (l.map e) ρ = .ok .nx ρ' ∧ I (l.foldl f s) ρ'
  | [], s, ρ, h0, _ => ⟨ρ, rfl, h0⟩
  | x :: l, s, ρ, h0, hs => by
    obtain ⟨r1, r2, h1, h2, h3⟩ := hs s x ρ (by simp) h0
    obtain ⟨ρ', e', i'⟩ := loop_st e I f l (f s x) r2 h3 fun s y ρ hy i => hs s y ρ (by simp [hy]) i
    refine ⟨ρ', ?_, i'⟩
    rw [List.map_cons]
    unfold loopS
    rw [h1]
    simp only [h2, Res.bind_ok, e']
/-- a loop, what holds behind each turn -/
theorem loop_pre {α : Type} {t : Tg} {b : Ev Fl} (e : α → D) (Inv : List α → Rho → Prop) : ∀ (l d : List α) (ρ : Rho), Inv d ρ →
    (∀ (d1 : List α) (x : α) (r : List α) (ρ : Rho), d ++ l = d1 ++ x :: r → Inv d1 ρ → ∃ r1 r2, t.f (e x) ρ = some r1 ∧ b r1 = .ok .nx r2 ∧ Inv (d1 ++ [x]) r2) → ∃ ρ', loopS t b (l.map e) ρ = .ok .nx ρ' ∧ Inv (d ++ l) ρ'
  | [], d, ρ, h0, _ => ⟨ρ, rfl, by rw [List.append_nil]; exact h0⟩
  | x :: l, d, ρ, h0, hs => by
    obtain ⟨r1, r2, h1, h2, h3⟩ := hs d x l ρ rfl h0
    obtain ⟨ρ', e', i'⟩ := loop_pre e Inv l (d ++ [x]) r2 h3 fun d1 y r ρ q i => hs d1 y r ρ (by rw [← q]; simp) i
    refine ⟨ρ', ?_, by simpa using i'⟩
    rw [List.map_cons]
    unfold loopS
    rw [h1]
    simp only [h2, Res.bind_ok, e']
/-- .. that may hand back -/
theorem loop_ret {α : Type} {t : Tg} {b : Ev Fl} (e : α → D) (Inv : List α → Rho → Prop) (Rt : D → Prop) : ∀ (l d : List α) (ρ : Rho), Inv d ρ →
    (∀ (d1 : List α) (x : α) (r : List α) (ρ : Rho), d ++ l = d1 ++ x :: r → Inv d1 ρ → ∃ r1, t.f (e x) ρ = some r1 ∧ ((∃ r2, b r1 = .ok .nx r2 ∧ Inv (d1 ++ [x]) r2) ∨ ∃ v r2, b r1 = .ok (.rt v) r2 ∧ Rt v)) →
    (∃ ρ', loopS t b (l.map e) ρ = .ok .nx ρ' ∧ Inv (d ++ l) ρ') ∨ ∃ v ρ', loopS t b (l.map e) ρ = .ok (.rt v) ρ' ∧ Rt v
  | [], d, ρ, h0, _ => .inl ⟨ρ, rfl, by rw [List.append_nil]; exact h0⟩
  | x :: l, d, ρ, h0, hs => by
    obtain ⟨r1, h1, ⟨r2, h2, h3⟩ | ⟨v, r2, h2, h3⟩⟩ := hs d x l ρ rfl h0
    · rcases loop_ret e Inv Rt l (d ++ [x]) r2 h3 fun d1 y r ρ q i => hs d1 y r ρ (by rw [← q]; simp) i with ⟨ρ', e', i'⟩ | ⟨v, ρ', e', i'⟩
      · refine .inl ⟨ρ', ?_, by simpa using i'⟩
        rw [List.map_cons]
        unfold loopS
        rw [h1]
        simp only [h2, Res.bind_ok, e']
      · refine .inr ⟨v, ρ', ?_, i'⟩
        rw [List.map_cons]
        unfold loopS
        rw [h1]
        simp only [h2, Res.bind_ok, e']
    · refine .inr ⟨v, r2, ?_, h3⟩
      rw [List.map_cons]
      unfold loopS
      rw [h1]
      simp only [h2, Res.bind_ok]
/-- a while, by a measure -/
theorem while_st {σ : Type} {c : Ev Bool} {b : Ev Fl} (I : σ → Rho → Prop) (m : σ → Nat) (Dn : Rho → Prop) (Rt : D → Prop)
    (h : ∀ s ρ, I s ρ → (∃ r1, c ρ = .ok false r1 ∧ Dn r1) ∨ (∃ r1, c ρ = .ok true r1 ∧ ((∃ s' r2, b r1 = .ok .nx r2 ∧ I s' r2 ∧ m s' < m s) ∨ ∃ d r2, b r1 = .ok (.rt d) r2 ∧ Rt d))) :
    ∀ (n : Nat) (s : σ) (ρ : Rho), I s ρ → m s < n → (∃ r, whileS c b n ρ = .ok .nx r ∧ Dn r) ∨ (∃ d r, whileS c b n ρ = .ok (.rt d) r ∧ Rt d)
  | 0, s, ρ, _, hm => absurd hm (by omega)
  | n + 1, s, ρ, hi, hm => by
    rcases h s ρ hi with ⟨r1, e, q⟩ | ⟨r1, e, ⟨s', r2, e2, i2, m2⟩ | ⟨d, r2, e2, q⟩⟩
    · exact .inl ⟨r1, by unfold whileS; rw [e]; rfl, q⟩
    · rcases while_st I m Dn Rt h n s' r2 i2 (by omega) with ⟨r, e3, q⟩ | ⟨d, r, e3, q⟩
      · exact .inl ⟨r, by unfold whileS; rw [e]; simp only [Res.bind_ok, if_true, e2, e3], q⟩
      · exact .inr ⟨d, r, by unfold whileS; rw [e]; simp only [Res.bind_ok, if_true, e2, e3], q⟩
    · exact .inr ⟨d, r2, by unfold whileS; rw [e]; simp only [Res.bind_ok, if_true, e2], q⟩
theorem mutS_run {f : List D → D → Option (List D)} {i : Nat} {g : Ev D} {ρ r : Rho} {b b' : Bool} {xs xs' ys : List D} {d : D} (h : ρ[i]? = some (.ow b (.ls xs))) (hg : g ρ = .ok d r) (h' : r[i]? = some (.ow b' (.ls xs'))) (hf : f xs' d = some ys) : mutS f i g ρ = .ok .nx (r.set i (.ow b' (.ls ys))) := by
  unfold mutS
  rw [h]
  simp only [hg, Res.bind_ok, h', hf]
end DL
end
section
set_option Elab.async false
set_option linter.all false
set_option maxRecDepth 100000
set_option autoImplicit false
namespace DL
open PySem PySem.Spec PySem.W L2

/-! ### {k: v}, k an int or a text -/
def tDict1K (tk tv : TE) : TE := fun σ H Q => ∀ p, H p = none → tk σ (upd H p (.dK [])) fun y H1 => tv σ H1 fun x H2 => H2 p = some (.dK []) ∧ ∃ H3, DPut H2 p y x H3 ∧ Q (.ref p) H3
theorem pe_dict1K {X : Cx} {k v : Expr} {tk tv : TE} {pos : Pos} (hk : PE X k tk) (hv : PE X v tv) : PE X (.Dict [some k] [v] pos) (tDict1K tk tv) := by
  refine ⟨fun pins s σ H Q I h => ?_⟩
  have n := I.hok.fresh (Nat.le_refl s.heap.objs.size)
  have I1 := I.laid (a := s.heap.objs.size) (o := .dK []) (h' := s.heap.push { cls := .type "dict", data := .dict #[] }) (t' := s.toks) (fun _ _ q => Heap.get?_push_of_some _ q) (Nat.le_refl _) (dk_empty s.heap I.big)
  refine wpAny_Dict_any rfl rfl (by simp) (by simp) (pairTrees_cons_walk (thn (hk.run pins _ σ _ _ I1 (h _ n)) fun u s1 ⟨y, H1, J1, ry, q1⟩ => thn (hv.run pins s1 σ H1 _ J1 q1) fun r s2 ⟨x, H2, J2, rx, e2, H3, dp, q2⟩ => pairTrees_nil_walk ?_))
  unfold storeAll
  rw [List.forIn_cons]
  rcases dp with ⟨kvs, k', e, ey, l, eH⟩ | ⟨kvs, k', b, e, _⟩
  · rw [e2] at e
    cases e
    subst ey eH
    obtain ⟨z, hd, vs, rel, dd⟩ := dk_of J2.hok e2
    have hz : vs.length ≤ sizeLine := by rw [← rel.length]; exact z
    have hl : (putK ([] : List (Key × V)) k' x).length ≤ sizeLine := by have := length_putK ([] : List (Key × V)) k' x; simp at this; omega
    refine wpAny_bind (wpAny_bind (wpAny_dictSet_pairs (hsz := hz) (kV_is ry) dd fun h' dd' hs => wpAny_pure ?_))
    dsimp only
    rw [List.forIn_nil]
    refine wpAny_pure ?_
    have he : ∃ q, h'.get? s.heap.objs.size = some q := let ⟨q, _, _, hq, _⟩ := dd'; ⟨q, hq⟩
    exact ⟨.ref _, upd H2 s.heap.objs.size (.dK (putK [] k' x)), d_write J2 (by rw [e2]; exact True.intro) hs he (dk_new hl hd (rel.put k' rx) dd'), rfl, q2⟩
  · rw [e2] at e; cases e
/-- the dict of one pair -/
def mkDk (k v : D) : Option Ob := (toK k).map fun k => .dk [(k, v)]
def eDict1K (gk gv : Ev D) : Ev Ob := fun ρ => (noEr (gk ρ)).bind fun k r => (noEr (gv r)).bind fun v r2 => ofO (mkDk k v) r2
theorem o_dict1K {X : Cx} {cl : Cl} {W : WX} {k v : Expr} {gk gv : Ev D} {pos : Pos} (hk : PE X k (tE X.K cl W0 gk)) (hv : PE X v (tE X.K cl W0 gv)) : PE X (.Dict [some k] [v] pos) (tO X.K cl W (eDict1K gk gv)) := by
  refine PE.weak (pe_dict1K hk hv) ?_
  rintro σ H Q ⟨M, ρ, R, q⟩ p hp
  have s0 : Same H (upd H p (.dK [])) := fun b o e => by rw [upd_ne (ne_of_none e hp)]; exact e
  have R' := R.plus (o := .dk []) s0 hp ⟨_, upd_same⟩
  unfold eDict1K at q
  refine ⟨_, ρ, R', ?_⟩
  cases ek : gk ρ with
  | er c r => rw [ek] at q; exact q.elim
  | no => rw [ek] at q; exact q.elim
  | ok kd r1 =>
    rw [ek] at q
    intro y H1 g1 R1 hy
    refine ⟨_, r1, R1, ?_⟩
    have q : Pst X.K cl W (RO X.K) M σ ρ H ((noEr (gv r1)).bind fun v r2 => ofO (mkDk kd v) r2) Q := q
    cases ev : gv r1 with
    | er c r => rw [ev] at q; exact q.elim
    | no => rw [ev] at q; exact q.elim
    | ok vd r2 =>
      rw [ev] at q
      intro x H2 g2 R2 hx
      have hy : Dd X.K (rs (Mu (fun a => M a ∨ a = p) σ r1) H1) y kd := hy
      have hx : Dd X.K (rs (Mu (fun a => M a ∨ a = p) σ r2) H2) x vd := hx
      have e1 : H1 p = some (.dK []) := stay_ R' g1 upd_same
      have e2 : H2 p = some (.dK []) := stay_ R1 g2 e1
      refine ⟨e2, ?_⟩
      have q : Pst X.K cl W (RO X.K) M σ ρ H (ofO ((toK kd).map fun k => Ob.dk [(k, vd)]) r2) Q := q
      cases ets : toK kd with
      | none => rw [ets] at q; exact q.elim
      | some k =>
        rw [ets] at q
        have hy2 := dd_mono g2.same _ _ hy
        have evs := toK_dd hy2 ets
        subst evs
        obtain ⟨R8, er⟩ := rel_upd (o := .dK (putK [] k x)) R2 (.inr rfl)
        refine ⟨_, DPut.k e2 (by rw [line_]; decide), ?_⟩
        have z := (Go.ext R s0).trans (g1.trans g2)
        refine q _ _ ⟨fun b o e n => ?_, z.own, z.io, fun b o e => ?_⟩ (R8.weak fun _ w => .inl w) ⟨p, rfl, hp, fun w => ?_, R8, _, upd_same, ?_⟩
        · rw [upd_ne (ne_of_none e hp)]; exact z.keep b o e n
        · rw [upd_ne (ne_of_none e hp)]; exact z.live b o e
        · rcases w with w | w
          · obtain ⟨o, e⟩ := R.live p w
            rw [hp] at e; cases e
          · obtain ⟨j, b, o, z1, z2⟩ := w
            obtain ⟨a, y1, y2, _⟩ := R2.ow j b o z1
            rw [z2] at y1; cases y1
            exact y2 (.inr rfl)
        · rw [er]
          exact .cons ⟨rfl, hx⟩ .nil

/-! ### sorted: one item of any kind too -/
theorem sortsAt_one {prog : Program} {w : World} {A : Around} {s : Shared} {v : Value} {d : PyData} {as : List Addr} (r : Reads s.heap v d as) (ha : alike d d = true) (hn : d ≠ .none) (hu : A.units + d.depth < cLine) : SortsAt prog w A s (dataKind s.heap [d]) [v] := by
  have al : AllAlike [d] := fun x hx y hy => by
    rw [List.mem_singleton.mp hx, List.mem_singleton.mp hy]
    exact ha
  refine ⟨fun u hu => ?_, PyProof.Rows.general', fun E x y a b Q ea eb q => ?_, fun h2 => absurd h2 (by simp)⟩
  · rw [List.mem_singleton.mp hu]
    exact ⟨_, dataKind_some al (List.mem_singleton.mpr rfl) r⟩
  · obtain ⟨e, bs, he, rx, rfl⟩ := dataKind_inv ea
    obtain ⟨f, cs, hf, ry, rfl⟩ := dataKind_inv eb
    rw [List.mem_singleton.mp he] at rx q
    rw [List.mem_singleton.mp hf] at ry q
    show wpAny (model prog w) A (PyProof.Rows.oneLt' false x y) Q E s
    exact oneLt_alike (fun z => nomatch z) rx ry ha hn (by rw [Nat.min_self]; exact hu) q
def rSorted1 (K : PySem.W.Frag) : List V → Hp → VK → Prop := fun xs H Q => ∃ (p : Addr) (v : V) (d : D), xs = [.ref p] ∧ H p = some (.lst [v]) ∧ Dp K H v d ∧ alike d d = true ∧ d ≠ .none ∧ d.depth ≤ 64 ∧ ∀ l, H l = none → Q (.ref l) (upd H l (.lst [v]))
def rSortedE (K : PySem.W.Frag) : List V → Hp → VK → Prop := fun xs H Q => rSortedD K xs H Q ∨ rSorted1 K xs H Q
def one1 (ds : List D) : Bool := match ds with
  | [d] => alike d d && (match d with | .none => false | _ => true) && decide (d.depth ≤ 64)
  | _ => false
def sortE : D → Option Ob
  | .list ds => if sortOk ds = true then some (.ls (sortL ds)) else if one1 ds = true then some (.ls ds) else none
  | _ => none
section
variable {X : Cx} {K : PySem.W.Frag}
theorem cr_sortedE (hu : X.A.units + 200 < cLine) : CallR X (.builtin "sorted") (rSortedE X.K) := by
  intro pins s σ H xs us Q I r h
  rcases h with h | h
  · exact cr_sortedD hu pins s σ H xs us Q I r h
  · obtain ⟨p, v, d, rfl, hp, hd, ha, hn, hdep, q⟩ := h
    rw [Vals.ref1 r]
    obtain ⟨z, its, n, rv, hl, e⟩ := I.lstM hp
    cases rv with
    | @cons _ u _ us' r1 t =>
      cases t
      obtain ⟨as, rd⟩ := Dp.reads I d v u hd r1
      have rd' : Reads (sortingHeap (copyHeap s.heap [u]) (s.heap.objs.size + 1) [u]) u d as := PyProof.Rows.Reads.keeps (fun _ _ => sorting_copy_old) rd
      refine sorted_vals (vs := [u]) ⟨_, e, rfl, _, rfl⟩ (sortsAt_one (s := { s with heap := sortingHeap (copyHeap s.heap [u]) (s.heap.objs.size + 1) [u] }) rd' ha hn (by have : X.A.in1.in1.units = X.A.units + 2 := rfl; omega)) (by simp [line_]) ?_
      have al : AllAlike ([d].map id) := fun x hx y hy => by
        rw [List.mem_singleton.mp hx, List.mem_singleton.mp hy]
        exact ha
      have eo := sortVals_data (R := fun w (_ : D) => RelV v w) (enc := id) false (.cons r1 .nil : EachIs (fun w (_ : D) => RelV v w) [u] [d]) (.cons ⟨as, rd'⟩ .nil) al
      rw [List.mergeSort_singleton] at eo
      have de : ([d].map id) = [d] := rfl
      rw [de] at eo
      generalize sortVals (dataKind (sortingHeap (copyHeap s.heap [u]) (s.heap.objs.size + 1) [u]) [d]) false [u] [u] = out at eo
      obtain ⟨c, hc⟩ := PyProof.Rows.sortedAll_at s.heap [u] out.toArray
      have hn : H (s.heap.objs.size + 1) = none := I.hok.fresh (Nat.le_succ _)
      refine ⟨.ref (s.heap.objs.size + 1), _, I.laid (t' := s.toks) (o := .lst [v]) (fun b u q => PyProof.Rows.sortedAll_old q) (Nat.le_succ _) ⟨by simp [line_], out, c, ?_, hc⟩, rfl, q _ hn⟩
      cases eo with
      | cons r2 t2 =>
        cases t2
        exact .cons r2 .nil
theorem sc_sortedE : Sc1 K (rSortedE K) sortE := by
  intro G H v d1 o Q s h1 e k
  cases d1 with
  | list ds =>
    unfold sortE at e
    by_cases c : sortOk ds = true
    · refine .inl (sc_sorted G H v (.list ds) o Q s h1 ?_ k)
      unfold sortO
      dsimp only at e ⊢
      rw [if_pos c] at e
      rw [if_pos c]
      exact e
    · dsimp only at e
      rw [if_neg c] at e
      by_cases c1 : one1 ds = true
      · rw [if_pos c1] at e
        cases e
        unfold one1 at c1
        split at c1
        · rename_i d
          simp only [Bool.and_eq_true, decide_eq_true_eq] at c1
          obtain ⟨⟨q1, q2⟩, q3⟩ := c1
          obtain ⟨p, vs, rfl, hp, hd⟩ := h1.list s
          cases hd with
          | @cons x _ xs _ hx t =>
            cases t
            refine .inr ⟨p, x, d, rfl, hp, Dd.dp _ _ (dd_mono s _ _ hx), q1, (fun z => by rw [z] at q2; cases q2), q3, fun l n => ?_⟩
            exact k l _ (fun q o e => by rw [upd_ne (ne_of_none e n)]; exact e) n ⟨_, upd_same, .cons hx .nil⟩
        · cases c1
      · rw [if_neg c1] at e; cases e
  | none => cases e
  | bool _ => cases e
  | int _ => cases e
  | str _ => cases e
  | tuple _ => cases e
  | dict _ => cases e
end
theorem sortE_of {ds : List D} {o : Ob} (h : sortO (.list ds) = some o) : sortE (.list ds) = some o := by
  unfold sortO at h
  unfold sortE
  dsimp only at h ⊢
  by_cases c : sortOk ds = true
  · rw [if_pos c] at h ⊢; exact h
  · rw [if_neg c] at h; cases h
end DL
end
section
set_option Elab.async false
set_option linter.all false
set_option maxRecDepth 100000
set_option autoImplicit false
namespace DL
open PySem PySem.Spec PySem.W L2

/-! ### a, b = a list -/
section
variable {prog : Program} {w : World} {A : Around} {E : Value → Shared → Prop} {s : Shared}
theorem draw_list {it t : Addr} {items : Array Value} (hne : t ≠ it) : ∀ (n i : Nat) (s : Shared) (Q : List Value → Shared → Prop), s.heap.IsListIter it t i → s.heap.IsList t items → i + n ≤ items.size →
    (∀ h', h'.IsListIter it t (i + n) → Heap.SameBut it s.heap h' → Q ((items.toList.drop i).take n) { s with heap := h' }) → wpAny (model prog w) A (draw (.ref it) n) Q E s
  | 0, i, s, Q, hit, _, _, k => by
    show wpAny _ _ (pure []) Q E s
    exact wpAny_pure (by simpa using k s.heap hit (Heap.SameBut.refl ..))
  | n + 1, i, s, Q, hit, ht, hle, k => by
    have hlt : i < items.size := by omega
    show wpAny _ _ (pyNext (.ref it) >>= _) Q E s
    refine wpAny_bind (wpAny_pyNext_list_item hit ht (x := items[i]) (by simp [hlt]) fun h1 hit1 hs1 => ?_)
    refine wpAny_bind (wpAny_holding (draw_list hne n (i + 1) _ _ hit1 (Heap.IsList.extBut ht hs1.extBut hne) (by omega) fun h2 hit2 hs2 => wpAny_pure ?_))
    have hd : items.toList.drop i = items[i] :: items.toList.drop (i + 1) := by simp [List.drop_eq_getElem_cons, hlt]
    have := k h2 (by rw [show i + (n + 1) = i + 1 + n by omega]; exact hit2) (hs1.trans hs2)
    rw [hd, List.take_succ_cons] at this
    exact this
theorem unpackItems_list {t : Addr} {items : Array Value} {Q : List Value → Shared → Prop} (hh : A.handled = none) (ht : s.heap.IsList t items)
    (k : ∀ h', Heap.ExtBut s.heap.objs.size s.heap h' → Q items.toList { s with heap := h' }) : wpAny (model prog w) A (unpackItems (.ref t) items.size none) Q E s := by
  have hlt : t ≠ s.heap.objs.size := by obtain ⟨o, ho, _⟩ := ht; exact Nat.ne_of_lt (Heap.lt_size ho)
  unfold unpackItems
  refine wpAny_bind ?_
  unfold notIterableAtAll
  refine wpAny_bind (wpAny_specialOf (Heap.IsList.typeIs ht) slot_list_iter.lookup ?_)
  refine wpAny_pure ?_
  simp only [Bool.false_eq_true, if_false]
  refine wpAny_bind (wpAny_holding (wpAny_pyIter_list ht ?_))
  refine wpAny_bind (wpAny_holding (draw_list hlt items.size 0 _ _ ⟨_, Heap.get?_push_size _ rfl, rfl, rfl⟩ (Heap.IsList.push ht _) (by omega) fun h1 hit1 hs1 => ?_))
  have hall : List.take items.size (List.drop 0 items.toList) = items.toList := by
    rw [List.drop_zero]; exact List.take_of_length_le (by simp)
  rw [hall, if_neg (by simp)]
  have ht1 : h1.IsList t items := Heap.IsList.extBut (Heap.IsList.push ht _) hs1.extBut hlt
  refine wpAny_bind (wpAny_holding (wpAny_pyNext_list_end hh hit1 ht1 (by simp) fun h2 he2 => ?_))
  simp only [Option.isSome_none, Bool.false_eq_true, if_false]
  exact wpAny_pure (k h2 fun b o hb e => he2 b o hb (hs1.extBut b o hb (Heap.get?_push_of_some _ e)))
theorem assign_Tuple_list {env : Env} {elts : List Expr} {x1} {pos : Pos} {t : Addr} {items : Array Value} {Q : Unit → Shared → Prop} (hh : A.handled = none) (ht : s.heap.IsList t items)
    (hn : (assignEach elts env).length = items.size) (hstar : (assignEach elts env).findIdx? (·.1) = none)
    (h : ∀ h', Heap.ExtBut s.heap.objs.size s.heap h' → wpAny (model prog w) A (assignInOrder ((assignEach elts env).map (·.2)) items.toList) Q E { s with heap := h' }) :
    wpAny (model prog w) A (assign (.Tuple elts x1 pos) env (.ref t)) Q E s := by
  rw [PyProof.Rows.assign_Tuple]
  refine wpAny_bind (wpAny_standAt ?_)
  unfold unpack
  rw [hn, hstar]
  exact wpAny_bind (wpAny_holding (unpackItems_list hh ht h))
end
section
variable {X : Cx} {pos : Pos}
def gLst (K : PySem.W.Frag) (n : Nat) (t : TGs) : TG := fun v σ H Q => ∃ a xs, v = .ref a ∧ SqL K H a xs ∧ xs.length = n ∧ t xs σ H Q
theorem pg_lst {es : List Expr} {k : Nat} {t : TGs} {n : Nat} (hc : X.calm = true) (h : PGs X es t)
    (hn : (assignEach es X.env).length = n := by rfl) (hst : (assignEach es X.env).findIdx? (·.1) = none := by rfl) : PG X (.Tuple es k pos) (gLst X.K n t) := by
  refine ⟨fun pins s σ H v u Q I r hw => ?_⟩
  obtain ⟨a, xs, e1, hq, hl, hw⟩ := hw
  subst e1
  cases r
  obtain ⟨its, rv, ⟨o, m, p1, p2, p3, p4⟩, hz⟩ := I.list hq
  refine assign_Tuple_list (I.ok.hd hc) ⟨o, p1, p2, m, p4⟩ (by simp [hn, ← hl, rv.length]) hst fun h' hx => ?_
  have I1 : Inv X pins σ H { s with heap := h' } := I.kept (t' := s.toks) fun b o e => hx b o (Nat.ne_of_lt (Heap.lt_size e)) e
  exact h.run pins _ σ H xs _ Q I1 (by simpa using rv) hw
/-- targets that take a list apart -/
def tgU (ts : List Tg) : Tg := ⟨(ts.map Tg.ss).flatten, fun d r => match d with
  | .list ds => tgs ts ds r
  | _ => none⟩
theorem g_unp {es : List Expr} {k : Nat} {ts : List Tg} {n : Nat} (hc : X.calm = true) (h : PGs X es (gDs X.K ts)) (hl : ts.length = n := by rfl)
    (hn : (assignEach es X.env).length = n := by rfl) (hst : (assignEach es X.env).findIdx? (·.1) = none := by rfl) : PG X (.Tuple es k pos) (gD X.K (tgU ts)) := by
  refine PG.weak (pg_lst (n := n) hc h hn hst) ?_
  rintro v σ H Q ⟨M, ρ, d, ρ', R, hd, e, q⟩
  cases d with
  | list ds =>
    have e : tgs ts ds ρ = some ρ' := e
    cases hd with
    | lst hs ha => exact ⟨_, _, rfl, .inl (.inl (rs_of hs).1), by rw [ha.length, tgs_len e, hl], M, ρ, ds, ρ', R, ha, e, q⟩
  | none => cases e
  | bool _ => cases e
  | int _ => cases e
  | str _ => cases e
  | tuple _ => cases e
  | dict _ => cases e
end
end DL
end
section
set_option linter.all false
set_option maxRecDepth 100000
namespace K65
open PySem DL
def g_rests_of : Ev Fl :=
  (seqS (setO 2 (lcE (eIt (eV 0)) (tgN 3) (e1 truD (.g (eM1 swD (eV 3) (.b 1)))) (eSl slD (.b 3) (some (e1 lenD (.b 1))) none) [3]))
    (rtS (eFz (e2 catO (.b 2) (.g (eFz (lcE (eIt (eV 0)) (tgN 3) (e1 truD (.g (eM1 swD (eV 1) (.b 3)))) (eSl slD (.b 1) (some (e1 lenD (.b 3))) none) [3])))))))
def F_rests_of : Rho → Res D := bodyF 4 g_rests_of
def B_remainders_1 : Ev Fl :=
  (mutS extF 2 (eFz (lcE (eIt (eV 0)) (tgN 5) (eAnd (eT (e2 neD (.b 5) (.b 3))) (e1 truD (.g (eM1 swD (eV 5) (.b 3))))) (eSl slD (.b 5) (some (e1 lenD (.b 3))) none) [5])))
def B_remainders_2 : Ev Fl :=
  (seqS (setS 4 (pop0E 2))
    (ifS (eT (e2 notInD (.b 4) (.b 1)))
    (seqS (mutS appF 1 (eV 4))
    (ifS (eT (e2 neD (.b 4) (.g (eC (.str (Str.ofString ""))))))
    (mutS extF 2 (callE (F_rests_of) [.g (eV 0), .g (eV 4)]))
    nxS))
    nxS))
def C_remainders_2 : Ev Bool :=
  (e1 truD (.b 2))
def g_remainders : Ev Fl :=
  (seqS (setO 1 (eLst []))
    (seqS (setO 2 (eLst []))
    (seqS (forS (eIt (eV 0)) (tgN 3) B_remainders_1)
    (seqS (whileS C_remainders_2 B_remainders_2 100000)
    (rtS (eFz (e1 sortO (.b 1))))))))
def F_remainders : Rho → Res D := bodyF 6 g_remainders
def B_least_double_1 : Ev Fl :=
  (seqS (setO 3 (lcE (eIt (eV 0)) (tgN 10) (eAnd (eT (e2 neD (.b 10) (.b 2))) (e1 truD (.g (eM1 swD (eV 10) (.b 2))))) (eV 10) [10]))
    (mutS extF 1 (eFz (lcE (eIt (eV 3)) (tgN 10) yesT (eTup [(e1 lenD (.b 10)), (eV 10), (eSl slD (.b 10) (some (e1 lenD (.b 2))) none)]) [10]))))
def B_least_double_2 : Ev Fl :=
  (ifS (e1 truD (.g (eM1 swD (eV 7) (.b 8))))
    (mutS appF 1 (eTup [(eV 5), (eV 6), (eSl slD (.b 7) (some (e1 lenD (.b 8))) none)]))
    (ifS (e1 truD (.g (eM1 swD (eV 8) (.b 7))))
    (seqS (setS 9 (eSl slD (.b 8) (some (e1 lenD (.b 7))) none))
    (mutS appF 1 (eTup [(e2 addD (.b 5) (.g (e1 lenD (.b 9)))), (e2 addD (.b 6) (.b 9)), (eV 9)])))
    nxS))
def B_least_double_3 : Ev Fl :=
  (seqS (sortS 1)
    (seqS (asgS (tgT [(tgN 5), (tgN 6), (tgN 7)]) (popE 1 (eC (.int 0))))
    (seqS (ifS (eT (e2 eqD (.b 7) (.g (eC (.str (Str.ofString ""))))))
    (rtS (eV 6))
    nxS)
    (ifS (eT (e2 notInD (.b 7) (.b 4)))
    (seqS (mutS appF 4 (eV 7))
    (forS (eIt (eV 0)) (tgN 8) B_least_double_2))
    nxS))))
def C_least_double_3 : Ev Bool :=
  (e1 truD (.b 1))
def g_least_double : Ev Fl :=
  (seqS (setO 1 (eLst []))
    (seqS (forS (eIt (eV 0)) (tgN 2) B_least_double_1)
    (seqS (setO 4 (eLst []))
    (seqS (whileS C_least_double_3 B_least_double_3 100000)
    (rtS (eC .none))))))
def F_least_double : Rho → Res D := bodyF 11 g_least_double
def B_readings_1 : Ev Fl :=
  (ifS (e1 truD (.g (eM2 sw3D (eV 1) (.b 6) (.b 3))))
    (mutS extF 4 (eFz (lcE (eIt (dgetE 2 (e2 addD (.b 3) (.g (e1 lenD (.b 6)))))) (tgN 7) yesT (e2 addD (.g (eTup [(eV 5)])) (.b 7)) [7])))
    nxS)
def B_readings_2 : Ev Fl :=
  (seqS (setO 4 (eLst []))
    (seqS (forS (eEn (eV 0)) (tgT [(tgN 5), (tgN 6)]) B_readings_1)
    (dputS 2 (eV 3) (eFz (eSl slO (.g (eFz (e1 sortO (.b 4)))) none (some (eC (.int 2))))))))
def g_readings : Ev Fl :=
  (seqS (setO 2 (eDict1K (e1 lenD (.b 1)) (eFz (eLst [(eTup [])]))))
    (seqS (forS (eRr (e1 lenD (.b 1))) (tgN 3) B_readings_2)
    (rtS (dgetE 2 (eC (.int 0))))))
def F_readings : Rho → Res D := bodyF 8 g_readings
def g_code : Ev Fl :=
  (seqS (setS 1 (callE (F_least_double) [.g (eV 0)]))
    (seqS (ifS (eT (e2 isND (.b 1) (.g (eC .none))))
    (rtS (eTup [(eC (.str (Str.ofString "yes"))), (e1 tupD (.g (callE (F_remainders) [.g (eV 0)])))]))
    nxS)
    (rtS (eTup [(eC (.str (Str.ofString "no"))), (e1 tupD (.g (callE (F_readings) [.g (eV 0), .g (eV 1)])))]))))
def F_code : Rho → Res D := bodyF 2 g_code
def g_is_reading : Ev Fl :=
  (seqS (ifS (eNot (e1 truD (.g (e1 (isiD "tuple") (.b 1)))))
    (rtS (eC (.bool false)))
    nxS)
    (seqS (setO 2 (lcE (eIt (eV 1)) (tgN 3) yesT (eAndV (e1 (isiD "int") (.b 3)) (eNotV (e1 (isiD "bool") (.b 3)))) [3]))
    (rtS (eAndV (e2 notInD (.g (eC (.bool false))) (.b 2)) (e2 notInD (.g (eC (.bool false))) (.g (eFz (lcE (eIt (eV 1)) (tgN 3) yesT (eCh (cmpI leI) (cmpI ltI) (.g (eC (.int 0))) (.b 3) (.g (e1 lenD (.b 0)))) [3]))))))))
def F_is_reading : Rho → Res D := bodyF 4 g_is_reading
def B_judge_code_1 : Ev Fl :=
  (mutS extF 4 (eFz (lcE (eIt (eV 0)) (tgN 3) (eAnd (eT (e2 neD (.b 3) (.b 2))) (e1 truD (.g (eM1 swD (eV 3) (.b 2))))) (eSl slD (.b 3) (some (e1 lenD (.b 2))) none) [3])))
def B_judge_code_2 : Ev Fl :=
  (mutS extF 4 (callE (F_rests_of) [.g (eV 0), .g (eV 5)]))
def g_judge_code : Ev Fl :=
  (seqS (ifS (eOr (eNot (e1 truD (.g (e1 (isiD "tuple") (.b 1))))) (eOr (eT (e2 neD (.g (e1 lenD (.b 1))) (.g (eC (.int 2))))) (eOr (eT (e2 notInD (.g (e2 ixD (.b 1) (.g (eC (.int 0))))) (.g (eTup [(eC (.str (Str.ofString "yes"))), (eC (.str (Str.ofString "no")))])))) (eNot (e1 truD (.g (e1 (isiD "tuple") (.g (e2 ixD (.b 1) (.g (eC (.int 1))))))))))))
    (rtS (eC (.bool false)))
    nxS)
    (seqS (ifS (eT (e2 eqD (.g (e2 ixD (.b 1) (.g (eC (.int 0))))) (.g (eC (.str (Str.ofString "no"))))))
    (seqS (ifS (eOr (eT (e2 neD (.g (e1 lenD (.g (e2 ixD (.b 1) (.g (eC (.int 1))))))) (.g (eC (.int 2))))) (eOr (eT (e2 inD (.g (eC (.bool false))) (.g (eFz (lcE (eIt (e2 ixD (.b 1) (.g (eC (.int 1))))) (tgN 6) yesT (callE (F_is_reading) [.g (eV 0), .g (eV 6)]) [6]))))) (eT (e2 eqD (.g (e2 ixD (.g (e2 ixD (.b 1) (.g (eC (.int 1))))) (.g (eC (.int 0))))) (.g (e2 ixD (.g (e2 ixD (.b 1) (.g (eC (.int 1))))) (.g (eC (.int 1)))))))))
    (rtS (eC (.bool false)))
    nxS)
    (seqS (asgS (tgU [(tgN 2), (tgN 3)]) (eFz (lcE (eIt (e2 ixD (.b 1) (.g (eC (.int 1))))) (tgN 6) yesT (eM1 joinD (eC (.str (Str.ofString ""))) (.g (eFz (lcE (eIt (eV 6)) (tgN 7) yesT (e2 ixD (.b 0) (.b 7)) [7])))) [6])))
    (rtS (e2 eqD (.b 2) (.b 3)))))
    nxS)
    (seqS (ifS (eOr (eT (e2 inD (.g (eC (.bool false))) (.g (eFz (lcE (eIt (e2 ixD (.b 1) (.g (eC (.int 1))))) (tgN 5) yesT (e1 (isiD "str") (.b 5)) [5]))))) (eT (e2 inD (.g (eC (.str (Str.ofString "")))) (.g (e2 ixD (.b 1) (.g (eC (.int 1))))))))
    (rtS (eC (.bool false)))
    nxS)
    (seqS (setO 4 (eLst []))
    (seqS (forS (eIt (eV 0)) (tgN 2) B_judge_code_1)
    (seqS (forS (eIt (e2 ixD (.b 1) (.g (eC (.int 1))))) (tgN 5) B_judge_code_2)
    (rtS (e2 notInD (.g (eC (.bool false))) (.g (eFz (lcE (eIt (eV 4)) (tgN 5) yesT (e2 inD (.b 5) (.g (e2 ixD (.b 1) (.g (eC (.int 1)))))) [5])))))))))))
def F_judge_code : Rho → Res D := bodyF 8 g_judge_code
def g__law_next : Ev Fl :=
  (seqS (ifS (eAnd (eT (e2 eqD (.g (e2 ixD (.b 0) (.g (eC (.int 2))))) (.g (eC (.int 0))))) (eT (e2 (cmpI ltI) (.g (e2 ixD (.b 0) (.g (eC (.int 1))))) (.g (e1 lenD (.g (e2 ixD (.b 0) (.g (eC (.int 0))))))))))
    (seqS (setS 2 (e2 ixD (.g (e2 ixD (.b 0) (.g (eC (.int 0))))) (.g (e2 ixD (.b 0) (.g (eC (.int 1)))))))
    (seqS (ixAug 0 (eC (.int 1)) (eC (.int 1)))
    (ifS (eT (e2 (cmpI geI) (.b 2) (.g (e2 powD (.g (eC (.int 10))) (.g (eC (.int 18)))))))
    (ixS 0 (eC (.int 2)) (eV 2))
    (ixS 0 (eC (.int 3)) (e2 modD (.g (e1 intD (.g (e2 addD (.g (e2 addD (.g (e2 mulD (.g (e2 ixD (.b 0) (.g (eC (.int 3))))) (.g (eC (.int 48271))))) (.g (e2 modD (.g (e1 intD (.b 2))) (.g (eC (.int 2147483647))))))) (.g (eC (.int 7))))))) (.g (eC (.int 2147483647))))))))
    nxS)
    (seqS (ifS (eT (e2 (cmpI gtI) (.g (e2 ixD (.b 0) (.g (eC (.int 2))))) (.g (eC (.int 0)))))
    (seqS (setS 3 (e2 modD (.g (e1 intD (.g (e2 ixD (.b 0) (.g (eC (.int 2))))))) (.b 1)))
    (seqS (ixS 0 (eC (.int 2)) (e2 fdivD (.g (e2 ixD (.b 0) (.g (eC (.int 2))))) (.b 1)))
    (rtS (eV 3))))
    nxS)
    (seqS (ixS 0 (eC (.int 3)) (e2 modD (.g (e1 intD (.g (e2 addD (.g (e2 mulD (.g (e2 ixD (.b 0) (.g (eC (.int 3))))) (.g (eC (.int 69621))))) (.g (eC (.int 12345))))))) (.g (eC (.int 2147483647)))))
    (rtS (e2 modD (.g (e1 intD (.g (e2 fdivD (.g (e2 ixD (.b 0) (.g (eC (.int 3))))) (.g (eC (.int 7))))))) (.b 1))))))
def F__law_next : Rho → Res D := bodyF 4 g__law_next
def B__law_same_1 (Fs : Rho → Res D) : Ev Fl :=
  (ifS (eNot (e1 truD (.g (callE (Fs) [.g (e2 ixD (.b 0) (.b 2)), .g (e2 ixD (.b 1) (.b 2))]))))
    (rtS (eC (.bool false)))
    nxS)
def g__law_same (Fs : Rho → Res D) : Ev Fl :=
  (seqS (ifS (eT (e2 isND (.b 1) (.g (eC .none))))
    (rtS (e2 isND (.b 0) (.g (eC .none))))
    nxS)
    (seqS (ifS (e1 truD (.g (e1 (isiD "bool") (.b 1))))
    (rtS (eAndV (e1 (isiD "bool") (.b 0)) (e2 eqD (.b 0) (.b 1))))
    nxS)
    (seqS (ifS (e1 truD (.g (e1 (isiD "int") (.b 1))))
    (rtS (eAndV (e1 (isiD "int") (.b 0)) (eAndV (eNotV (e1 (isiD "bool") (.b 0))) (e2 eqD (.b 0) (.b 1)))))
    nxS)
    (seqS (ifS (e1 truD (.g (e1 (isiD "str") (.b 1))))
    (rtS (eAndV (e1 (isiD "str") (.b 0)) (e2 eqD (.b 0) (.b 1))))
    nxS)
    (seqS (ifS (eAnd (e1 truD (.g (e1 (isiD "tuple") (.b 1)))) (eNot (e1 truD (.g (e1 (isiD "tuple") (.b 0))))))
    (rtS (eC (.bool false)))
    nxS)
    (seqS (ifS (eAnd (e1 truD (.g (e1 (isiD "list") (.b 1)))) (eNot (e1 truD (.g (e1 (isiD "list") (.b 0))))))
    (rtS (eC (.bool false)))
    nxS)
    (seqS (ifS (eT (e2 neD (.g (e1 lenD (.b 0))) (.g (e1 lenD (.b 1)))))
    (rtS (eC (.bool false)))
    nxS)
    (seqS (forS (e1 rg1D (.g (e1 lenD (.b 1)))) (tgN 2) (B__law_same_1 Fs))
    (rtS (eC (.bool true)))))))))))
def F__law_same : Nat → Rho → Res D
  | 0 => fun _ => .no
  | k + 1 => bodyF 3 (g__law_same (F__law_same k))
def B__law_signs_1 : Ev Fl :=
  (setS 4 (e2 modD (.g (e2 addD (.b 4) (.g (eC (.int 1))))) (.g (eC (.int 26)))))
def C__law_signs_1 : Ev Bool :=
  (eT (e2 inD (.g (e2 ixD (.b 1) (.b 4))) (.b 2)))
def B__law_signs_3 : Ev Fl :=
  (seqS (setS 4 (callE (F__law_next) [.s 0, .g (eC (.int 26))]))
    (seqS (whileS C__law_signs_1 B__law_signs_1 100)
    (mutS appF 2 (e2 ixD (.b 1) (.b 4)))))
def g__law_signs : Ev Fl :=
  (seqS (setS 1 (eC (.str (Str.ofString "abcdefghijklmnopqrstuvwxyz"))))
    (seqS (setO 2 (eLst []))
    (seqS (forS (e1 rg1D (.g (e2 ixD (.g (eFz (eLst [(eC (.int 2)), (eC (.int 2)), (eC (.int 3)), (eC (.int 2)), (eC (.int 3)), (eC (.int 2)), (eC (.int 3)), (eC (.int 4))]))) (.g (callE (F__law_next) [.s 0, .g (eC (.int 8))]))))) (tgN 3) B__law_signs_3)
    (rtS (eM1 joinD (eC (.str (Str.ofString ""))) (.g (eFz (e1 sortO (.b 2)))))))))
def F__law_signs : Rho → Res D := bodyF 5 g__law_signs
def g__law_word : Ev Fl :=
  (rtS (eM1 joinD (eC (.str (Str.ofString ""))) (.g (eFz (lcE (e1 rg1D (.g (e2 addD (.g (eC (.int 1))) (.g (callE (F__law_next) [.s 0, .g (eV 2)]))))) (tgN 3) yesT (e2 ixD (.b 1) (.g (callE (F__law_next) [.s 0, .g (e1 lenD (.b 1))]))) [3])))))
def F__law_word : Rho → Res D := bodyF 4 g__law_word
def B__law_rows_1 : Ev Fl :=
  (seqS (setS 4 (callE (F__law_next) [.s 0, .g (eC (.int 4))]))
    (seqS (setS 5 (callE (F__law_word) [.s 0, .g (eV 1), .g (eC (.int 4))]))
    (seqS (ifS (eAnd (eT (e2 neD (.b 2) (.g (eFz (eLst []))))) (eT (e2 eqD (.b 4) (.g (eC (.int 0))))))
    (setS 5 (e2 addD (.g (e2 ixD (.b 2) (.g (callE (F__law_next) [.s 0, .g (e1 lenD (.b 2))])))) (.g (eSl slD (.b 5) none (some (eC (.int 2)))))))
    (ifS (eAnd (eT (e2 neD (.b 2) (.g (eFz (eLst []))))) (eT (e2 eqD (.b 4) (.g (eC (.int 1))))))
    (setS 5 (e2 addD (.g (eSl slD (.b 5) none (some (eC (.int 1))))) (.g (e2 ixD (.b 2) (.g (callE (F__law_next) [.s 0, .g (e1 lenD (.b 2))]))))))
    nxS))
    (ifS (eT (e2 notInD (.b 5) (.b 2)))
    (mutS appF 2 (eV 5))
    nxS))))
def g__law_rows : Ev Fl :=
  (seqS (setO 2 (eLst []))
    (seqS (forS (e1 rg1D (.g (e2 addD (.g (eC (.int 1))) (.g (callE (F__law_next) [.s 0, .g (eC (.int 5))]))))) (tgN 3) B__law_rows_1)
    (rtS (eV 2))))
def F__law_rows : Rho → Res D := bodyF 6 g__law_rows
def B__law_rests_1 : Ev Fl :=
  (seqS (ifS (eT (e2 eqD (.g (eSl slD (.b 3) none (some (e1 lenD (.b 1))))) (.b 1)))
    (mutS appF 2 (eSl slD (.b 3) (some (e1 lenD (.b 1))) none))
    nxS)
    (ifS (eT (e2 eqD (.g (eSl slD (.b 1) none (some (e1 lenD (.b 3))))) (.b 3)))
    (mutS appF 2 (eSl slD (.b 1) (some (e1 lenD (.b 3))) none))
    nxS))
def g__law_rests : Ev Fl :=
  (seqS (setO 2 (eLst []))
    (seqS (forS (eIt (eV 0)) (tgN 3) B__law_rests_1)
    (rtS (eV 2))))
def F__law_rests : Rho → Res D := bodyF 4 g__law_rests
def B__law_left_over_1 : Ev Fl :=
  (setO 2 (e2 catO (.b 2) (.g (eFz (lcE (eIt (eV 0)) (tgN 6) (eAnd (eT (e2 neD (.b 6) (.b 3))) (eT (e2 eqD (.g (eSl slD (.b 6) none (some (e1 lenD (.b 3))))) (.b 3)))) (eSl slD (.b 6) (some (e1 lenD (.b 3))) none) [6])))))
def B__law_left_over_2 : Ev Fl :=
  (setO 4 (e2 catO (.b 4) (.g (eIf (eT (e2 neD (.b 5) (.g (eC (.str (Str.ofString "")))))) (callE (F__law_rests) [.g (eV 0), .g (eV 5)]) (eFz (eLst []))))))
def B__law_left_over_3 : Ev Fl :=
  (seqS (setO 1 (e2 catO (.b 1) (.g (eFz (lcE (eIt (eV 2)) (tgN 5) (eT (e2 notInD (.b 5) (.b 1))) (eV 5) [5])))))
    (seqS (setO 4 (eLst []))
    (seqS (forS (eIt (eV 2)) (tgN 5) B__law_left_over_2)
    (setO 2 (e1 sortsetT (.b 4))))))
def C__law_left_over_3 : Ev Bool :=
  (eT (e2 neD (.g (eFz (lcE (eIt (eV 2)) (tgN 5) (eT (e2 notInD (.b 5) (.b 1))) (eV 5) [5]))) (.g (eFz (eLst [])))))
def g__law_left_over : Ev Fl :=
  (seqS (setO 1 (eLst []))
    (seqS (setO 2 (eLst []))
    (seqS (forS (eIt (eV 0)) (tgN 3) B__law_left_over_1)
    (seqS (whileS C__law_left_over_3 B__law_left_over_3 100000)
    (rtS (eFz (e1 sortsetT (.b 1))))))))
def F__law_left_over : Rho → Res D := bodyF 7 g__law_left_over
def B__law_ways_1 (Fs : Rho → Res D) : Ev Fl :=
  (ifS (eT (e2 eqD (.g (eSl slD (.b 1) (some (eV 2)) (some (e2 addD (.b 2) (.g (e1 lenD (.g (e2 ixD (.b 0) (.b 5))))))))) (.g (e2 ixD (.b 0) (.b 5)))))
    (setO 4 (e2 catO (.b 4) (.g (eFz (lcE (eIt (callE (Fs) [.g (eV 0), .g (eV 1), .g (e2 addD (.b 2) (.g (e1 lenD (.g (e2 ixD (.b 0) (.b 5)))))), .s 3])) (tgN 6) yesT (e2 addD (.g (eTup [(eV 5)])) (.b 6)) [6])))))
    nxS)
def g__law_ways (Fs : Rho → Res D) : Ev Fl :=
  (seqS (ifS (eT (dinE true 3 (eV 2)))
    (seqS (setS 4 (eIf (eT (e2 eqD (.b 2) (.g (e1 lenD (.b 1))))) (eFz (eLst [(eTup [])])) (eFz (eLst []))))
    (seqS (forS (e1 rg1D (.g (e1 lenD (.b 0)))) (tgN 5) (B__law_ways_1 Fs))
    (dputS 3 (eV 2) (eFz (eSl slO (.g (eFz (e1 sortE (.b 4)))) none (some (eC (.int 3))))))))
    nxS)
    (rtS (dgetE 3 (eV 2))))
def F__law_ways : Nat → Rho → Res D
  | 0 => fun _ => .no
  | k + 1 => bodyF 7 (g__law_ways (F__law_ways k))
def B__law_least_double_1 : Ev Fl :=
  (setO 2 (e2 catO (.b 2) (.g (eFz (lcE (eIt (eV 0)) (tgN 8) (eAnd (eT (e2 neD (.b 8) (.b 3))) (eT (e2 eqD (.g (eSl slD (.b 8) none (some (e1 lenD (.b 3))))) (.b 3)))) (eTup [(e1 lenD (.b 8)), (eV 8), (eSl slD (.b 8) (some (e1 lenD (.b 3))) none)]) [8])))))
def B__law_least_double_2 : Ev Fl :=
  (ifS (eT (e2 eqD (.g (eSl slD (.b 6) none (some (e1 lenD (.b 7))))) (.b 7)))
    (mutS appF 2 (eTup [(eV 4), (eV 5), (eSl slD (.b 6) (some (e1 lenD (.b 7))) none)]))
    (ifS (eT (e2 eqD (.g (eSl slD (.b 7) none (some (e1 lenD (.b 6))))) (.b 6)))
    (mutS appF 2 (eTup [(e2 subD (.g (e2 addD (.b 4) (.g (e1 lenD (.b 7))))) (.g (e1 lenD (.b 6)))), (e2 addD (.b 5) (.g (eSl slD (.b 7) (some (e1 lenD (.b 6))) none))), (eSl slD (.b 7) (some (e1 lenD (.b 6))) none)]))
    nxS))
def B__law_least_double_3 : Ev Fl :=
  (seqS (asgS (tgT [(tgN 4), (tgN 5), (tgN 6)]) (e1 minLD (.b 2)))
    (seqS (setO 2 (lcE (eIt (eV 2)) (tgN 9) (eT (e2 neD (.b 9) (.g (eTup [(eV 4), (eV 5), (eV 6)])))) (eV 9) [9]))
    (seqS (ifS (eT (e2 eqD (.b 6) (.g (eC (.str (Str.ofString ""))))))
    (rtS (eV 5))
    nxS)
    (ifS (eT (dinE true 1 (eV 6)))
    (seqS (dputS 1 (eV 6) (eV 5))
    (forS (eIt (eV 0)) (tgN 7) B__law_least_double_2))
    nxS))))
def C__law_least_double_3 : Ev Bool :=
  (eT (e2 neD (.b 2) (.g (eFz (eLst [])))))
def g__law_least_double : Ev Fl :=
  (seqS (setO 1 newK)
    (seqS (setO 2 (eLst []))
    (seqS (forS (eIt (eV 0)) (tgN 3) B__law_least_double_1)
    (seqS (whileS C__law_least_double_3 B__law_least_double_3 100000)
    (rtS (eC .none))))))
def F__law_least_double : Rho → Res D := bodyF 10 g__law_least_double
def B__law_longer_1 : Ev Fl :=
  (setO 2 (e2 catO (.b 2) (.g (eFz (lcE (eIt (eV 1)) (tgN 4) yesT (e2 addD (.b 3) (.b 4)) [4])))))
def g__law_longer : Ev Fl :=
  (seqS (setO 2 (eLst []))
    (seqS (forS (eIt (eV 0)) (tgN 3) B__law_longer_1)
    (rtS (eV 2))))
def F__law_longer : Rho → Res D := bodyF 5 g__law_longer
def B__law_no_lesser_1 : Ev Fl :=
  (ifS (eAnd (eT (e2 ltDD (.g (eTup [(e1 lenD (.b 5)), (eV 5)])) (.g (eTup [(e1 lenD (.b 1)), (eV 1)])))) (eT (e2 (cmpI gtI) (.g (e1 lenD (.g (callEO (F__law_ways 228) [.g (eV 0), .g (eV 5), .g (eC (.int 0))] newK)))) (.g (eC (.int 1))))))
    (rtS (eC (.bool false)))
    nxS)
def B__law_no_lesser_2 : Ev Fl :=
  (seqS (forS (eIt (eV 3)) (tgN 5) B__law_no_lesser_1)
    (setS 3 (callE (F__law_longer) [.g (eV 3), .g (eV 2)])))
def g__law_no_lesser : Ev Fl :=
  (seqS (setO 3 (eLst [(eC (.str (Str.ofString "")))]))
    (seqS (forS (e1 rg1D (.g (e2 minD (.g (e2 addD (.g (e1 lenD (.b 1))) (.g (eC (.int 1))))) (.g (eC (.int 7)))))) (tgN 4) B__law_no_lesser_2)
    (rtS (eC (.bool true)))))
def F__law_no_lesser : Rho → Res D := bodyF 6 g__law_no_lesser
def g__law_is_number : Ev Fl :=
  (rtS (eAndV (e1 (isiD "int") (.b 0)) (eAndV (eNotV (e1 (isiD "bool") (.b 0))) (eCh (cmpI leI) (cmpI ltI) (.g (eC (.int 0))) (.b 0) (.b 1)))))
def F__law_is_number : Rho → Res D := bodyF 2 g__law_is_number
def B__law_accepts_1 : Ev Fl :=
  (ifS (eT (e2 neD (.g (eFz (lcE (eIt (eV 2)) (tgN 7) (eNot (e1 truD (.g (callE (F__law_is_number) [.g (eV 7), .g (e1 lenD (.b 0))])))) (eV 7) [7]))) (.g (eFz (eLst [])))))
    (rtS (eC (.bool false)))
    nxS)
def B__law_accepts_2 : Ev Fl :=
  (setO 4 (e2 catO (.b 4) (.g (eFz (lcE (eIt (eV 0)) (tgN 8) (eAnd (eT (e2 neD (.b 8) (.b 5))) (eT (e2 eqD (.g (eSl slD (.b 8) none (some (e1 lenD (.b 5))))) (.b 5)))) (eSl slD (.b 8) (some (e1 lenD (.b 5))) none) [8])))))
def B__law_accepts_3 : Ev Fl :=
  (setO 4 (e2 catO (.b 4) (.g (callE (F__law_rests) [.g (eV 0), .g (eV 6)]))))
def g__law_accepts : Ev Fl :=
  (seqS (ifS (eOr (eNot (e1 truD (.g (e1 (isiD "tuple") (.b 1))))) (eOr (eT (e2 neD (.g (e1 lenD (.b 1))) (.g (eC (.int 2))))) (eOr (eT (e2 notInD (.g (e2 ixD (.b 1) (.g (eC (.int 0))))) (.g (eFz (eLst [(eC (.str (Str.ofString "yes"))), (eC (.str (Str.ofString "no")))]))))) (eNot (e1 truD (.g (e1 (isiD "tuple") (.g (e2 ixD (.b 1) (.g (eC (.int 1))))))))))))
    (rtS (eC (.bool false)))
    nxS)
    (seqS (ifS (eT (e2 eqD (.g (e2 ixD (.b 1) (.g (eC (.int 0))))) (.g (eC (.str (Str.ofString "no"))))))
    (seqS (ifS (eOr (eT (e2 neD (.g (e1 lenD (.g (e2 ixD (.b 1) (.g (eC (.int 1))))))) (.g (eC (.int 2))))) (eT (e2 neD (.g (eFz (lcE (eIt (e2 ixD (.b 1) (.g (eC (.int 1))))) (tgN 2) (eNot (e1 truD (.g (e1 (isiD "tuple") (.b 2))))) (eV 2) [2]))) (.g (eFz (eLst []))))))
    (rtS (eC (.bool false)))
    nxS)
    (seqS (forS (eIt (e2 ixD (.b 1) (.g (eC (.int 1))))) (tgN 2) B__law_accepts_1)
    (seqS (setO 3 (lcE (eIt (e2 ixD (.b 1) (.g (eC (.int 1))))) (tgN 2) yesT (eM1 joinD (eC (.str (Str.ofString ""))) (.g (eFz (lcE (eIt (eV 2)) (tgN 7) yesT (e2 ixD (.b 0) (.b 7)) [7])))) [2]))
    (rtS (eAndV (e2 eqD (.g (e2 ixD (.b 3) (.g (eC (.int 0))))) (.g (e2 ixD (.b 3) (.g (eC (.int 1)))))) (e2 neD (.g (e2 ixD (.g (e2 ixD (.b 1) (.g (eC (.int 1))))) (.g (eC (.int 0))))) (.g (e2 ixD (.g (e2 ixD (.b 1) (.g (eC (.int 1))))) (.g (eC (.int 1)))))))))))
    nxS)
    (seqS (ifS (eT (e2 neD (.g (eFz (lcE (eIt (e2 ixD (.b 1) (.g (eC (.int 1))))) (tgN 6) (eOr (eNot (e1 truD (.g (e1 (isiD "str") (.b 6))))) (eT (e2 eqD (.b 6) (.g (eC (.str (Str.ofString ""))))))) (eV 6) [6]))) (.g (eFz (eLst [])))))
    (rtS (eC (.bool false)))
    nxS)
    (seqS (setO 4 (eLst []))
    (seqS (forS (eIt (eV 0)) (tgN 5) B__law_accepts_2)
    (seqS (forS (eIt (e2 ixD (.b 1) (.g (eC (.int 1))))) (tgN 6) B__law_accepts_3)
    (rtS (e2 eqD (.g (eFz (lcE (eIt (eV 4)) (tgN 6) (eT (e2 notInD (.b 6) (.g (e2 ixD (.b 1) (.g (eC (.int 1))))))) (eV 6) [6]))) (.g (eFz (eLst [])))))))))))
def F__law_accepts : Rho → Res D := bodyF 9 g__law_accepts
def g__law_turned : Ev Fl :=
  (seqS (setS 3 (callE (F__law_next) [.s 0, .g (eC (.int 6))]))
    (seqS (ifS (eOr (eT (e2 eqD (.b 2) (.g (eTup [])))) (eT (e2 eqD (.b 3) (.g (eC (.int 0))))))
    (rtS (e2 addD (.b 2) (.g (eTup [(e2 ixD (.g (eFz (eLst [(eTup [(eC (.int 0))]), (eC (.str (Str.ofString "a"))), (eV 1), (eC (.int 5))]))) (.g (callE (F__law_next) [.s 0, .g (eC (.int 4))])))]))))
    nxS)
    (seqS (setS 4 (callE (F__law_next) [.s 0, .g (e1 lenD (.b 2))]))
    (seqS (ifS (eT (e2 eqD (.b 3) (.g (eC (.int 1)))))
    (rtS (e2 addD (.g (eSl slD (.b 2) none (some (eV 4)))) (.g (eSl slD (.b 2) (some (e2 addD (.b 4) (.g (eC (.int 1))))) none))))
    nxS)
    (seqS (ifS (eT (e2 eqD (.b 3) (.g (eC (.int 2)))))
    (rtS (e1 revD (.b 2)))
    nxS)
    (seqS (ifS (e1 truD (.g (e1 (isiD "tuple") (.g (e2 ixD (.b 2) (.b 4))))))
    (rtS (e2 addD (.g (e2 addD (.g (eSl slD (.b 2) none (some (eV 4)))) (.g (eTup [(e2 ixD (.g (eFz (eLst [(eC .none), (e2 addD (.g (e2 ixD (.b 2) (.b 4))) (.g (eTup [(eC (.int 0))]))), (eSl slD (.g (e2 ixD (.b 2) (.b 4))) (some (eC (.int 1))) none), (e2 addD (.g (e2 ixD (.b 2) (.b 4))) (.g (eTup [(eC (.int 9))])))]))) (.g (e2 subD (.b 3) (.g (eC (.int 2))))))])))) (.g (eSl slD (.b 2) (some (e2 addD (.b 4) (.g (eC (.int 1))))) none))))
    nxS)
    (rtS (e2 addD (.g (e2 addD (.g (eSl slD (.b 2) none (some (eV 4)))) (.g (eTup [(e2 ixD (.g (eFz (eLst [(e2 addD (.g (e2 ixD (.b 2) (.b 4))) (.g (e2 ixD (.b 1) (.g (eC (.int 0)))))), (eSl slD (.g (e2 ixD (.b 2) (.b 4))) (some (eC (.int 1))) none), (eC (.int 5)), (eC .none)]))) (.g (e2 subD (.b 3) (.g (eC (.int 2))))))])))) (.g (eSl slD (.b 2) (some (e2 addD (.b 4) (.g (eC (.int 1))))) none))))))))))
def F__law_turned : Rho → Res D := bodyF 5 g__law_turned
def B_law_1 : Ev Fl :=
  (setO 11 (e2 catO (.b 11) (.g (eFz (lcE (e1 rg1D (.g (e2 addD (.g (e1 lenD (.b 12))) (.g (eC (.int 1)))))) (tgN 13) yesT (eSl slD (.b 12) (some (eV 13)) none) [13])))))
def B_law_2 : Ev Fl :=
  (mutS appF 10 (eTup [(e2 ixD (.b 7) (.g (eC (.int 0)))), (callE (F__law_turned) [.s 1, .g (eV 3), .g (e2 ixD (.b 7) (.g (eC (.int 1))))])]))
def B_law_3 : Ev Fl :=
  (ifS (eNot (e1 truD (.g (callE (F__law_same 6) [.g (callE (F_judge_code) [.g (eV 8), .g (eV 14)]), .g (callE (F__law_accepts) [.g (eV 4), .g (eV 14)])]))))
    (rtS (eC (.bool false)))
    nxS)
def B_law_4 : Ev Fl :=
  (seqS (setS 3 (callE (F__law_signs) [.s 1]))
    (seqS (setS 4 (callE (F__law_rows) [.s 1, .g (eV 3)]))
    (seqS (setS 5 (callE (F__law_left_over) [.g (eV 4)]))
    (seqS (setS 6 (callE (F__law_least_double) [.g (eV 4)]))
    (seqS (ifS (eOr (eT (e2 neD (.g (e2 inD (.g (eC (.str (Str.ofString "")))) (.b 5))) (.g (e2 notND (.b 6) (.g (eC .none)))))) (eAnd (eT (e2 notND (.b 6) (.g (eC .none)))) (eNot (e1 truD (.g (callE (F__law_no_lesser) [.g (eV 4), .g (eV 6), .g (eV 3)]))))))
    (rtS (eC (.bool false)))
    nxS)
    (seqS (setS 7 (eTup [(eC (.str (Str.ofString "yes"))), (e1 tupD (.b 5))]))
    (seqS (ifS (eT (e2 notND (.b 6) (.g (eC .none))))
    (setS 7 (eTup [(eC (.str (Str.ofString "no"))), (e1 tupD (.g (eFz (eSl slO (.g (callEO (F__law_ways 228) [.g (eV 4), .g (eV 6), .g (eC (.int 0))] newK)) none (some (eC (.int 2)))))))]))
    nxS)
    (seqS (setO 8 (e1 lstO (.b 4)))
    (seqS (setS 9 (callE (F_code) [.g (eV 8)]))
    (seqS (ifS (eOr (eNot (e1 truD (.g (callE (F__law_same 6) [.g (eV 9), .g (eV 7)])))) (eOr (eT (e2 neD (.b 8) (.b 4))) (eT (e2 notBD (.g (callE (F_judge_code) [.g (eV 8), .g (eV 9)])) (.g (eC (.bool true)))))))
    (rtS (eC (.bool false)))
    nxS)
    (seqS (ifS (eOr (eNot (e1 truD (.g (callE (F__law_same 6) [.g (callE (F_remainders) [.g (eV 8)]), .g (eV 5)])))) (eT (e2 neD (.b 8) (.b 4))))
    (rtS (eC (.bool false)))
    nxS)
    (seqS (setO 10 (eLst [(eC .none), (eSl slD (.b 7) none (some (eC (.int 1)))), (eFz (e1 lstO (.b 7))), (eTup [(eC (.str (Str.ofString "maybe"))), (e2 ixD (.b 7) (.g (eC (.int 1))))]), (eTup [(eC (.str (Str.ofString "yes"))), (eTup [])]), (eTup [(eC (.str (Str.ofString "no"))), (eTup [(eTup []), (eTup [])])]), (eTup [(eC (.str (Str.ofString "yes"))), (e2 ixD (.b 7) (.g (eC (.int 1))))]), (eTup [(eC (.str (Str.ofString "no"))), (e2 ixD (.b 7) (.g (eC (.int 1))))]), (eTup [(eC (.str (Str.ofString "yes"))), (e1 tupD (.b 5))])]))
    (seqS (setO 10 (e2 catO (.b 10) (.g (eFz (eLst [(eTup [(eC (.str (Str.ofString "no"))), (eTup [(eTup [(eC (.int 0))]), (eTup [(eC (.int 0))])])]), (eTup [(eC (.str (Str.ofString "no"))), (eTup [(eTup [(eC (.int 0)), (eC (.int 0))]), (eTup [(eC (.int 0))])])]), (eTup [(eC (.str (Str.ofString "yes"))), (eFz (e1 lstO (.g (e2 ixD (.b 7) (.g (eC (.int 1)))))))]), (eTup [(eC (.str (Str.ofString "no"))), (eTup [(eTup [(eC (.int 0))]), (eTup [(e2 subD (.g (eC (.int 0))) (.g (e1 lenD (.b 4))))])])]), (eTup [(eC (.str (Str.ofString "yes"))), (eTup [(eFz (eLst [(eC (.str (Str.ofString "a")))]))])]), (eTup [(eC (.str (Str.ofString "no"))), (eTup [(eFz (eLst [(eC (.int 0))])), (eTup [(eC (.int 0))])])])])))))
    (seqS (setO 11 (eLst []))
    (seqS (forS (eIt (eV 4)) (tgN 12) B_law_1)
    (seqS (setO 10 (e2 catO (.b 10) (.g (eFz (eLst [(eTup [(eC (.str (Str.ofString "yes"))), (e1 tupD (.g (eFz (e1 sortsetT (.b 11)))))]), (eTup [(eC (.str (Str.ofString "yes"))), (e1 tupD (.g (eFz (lcE (eIt (eFz (e1 sortsetT (.b 11)))) (tgN 15) (eT (e2 neD (.b 15) (.g (eC (.str (Str.ofString "")))))) (eV 15) [15]))))])])))))
    (seqS (forS (e1 rg1D (.g (eC (.int 6)))) (tgN 13) B_law_2)
    (forS (eIt (eV 10)) (tgN 14) B_law_3))))))))))))))))))
def g_law (ns : List Int) : Ev Fl :=
  (seqS (setO 1 (eLst [(eC (.list (ns.map PyData.int))), (eC (.int 0)), (eC (.int 0)), (eC (.int 1))]))
    (seqS (forS (e1 rg1D (.g (eC (.int 3)))) (tgN 2) B_law_4)
    (rtS (eC (.bool true)))))
end K65
end
section
set_option Elab.async false
set_option linter.all false
set_option maxRecDepth 100000
namespace K65
open PySem PySem.Spec L2 DL
def topS (i : Nat) : Stmt := PySem.Challenge.pw_gatewhole_k65_codes_by_what_is_left_over.main.body.getD i (.Pass ⟨0, 0, 0, 0⟩)
abbrev s_rests_of : Stmt := topS 2
theorem sc_rests_of : FnScope ["rows", "rest", "found", "row"] ["rows", "rest"] (defScope s_rests_of) := ⟨rfl, rfl, rfl, by decide +kernel, rfl, by decide +kernel, by decide +kernel⟩
abbrev s_remainders : Stmt := topS 1
theorem sc_remainders : FnScope ["rows", "found", "left", "first", "rest", "second"] ["rows"] (defScope s_remainders) := ⟨rfl, rfl, rfl, by decide +kernel, rfl, by decide +kernel, by decide +kernel⟩
abbrev s_least_double : Stmt := topS 3
theorem sc_least_double : FnScope ["rows", "left", "first", "longer", "met", "length", "text", "rest", "row", "other", "second"] ["rows"] (defScope s_least_double) := ⟨rfl, rfl, rfl, by decide +kernel, rfl, by decide +kernel, by decide +kernel⟩
abbrev s_readings : Stmt := topS 4
theorem sc_readings : FnScope ["rows", "text", "found", "place", "ways", "number", "row", "way"] ["rows", "text"] (defScope s_readings) := ⟨rfl, rfl, rfl, by decide +kernel, rfl, by decide +kernel, by decide +kernel⟩
abbrev s_code : Stmt := topS 5
theorem sc_code : FnScope ["rows", "double"] ["rows"] (defScope s_code) := ⟨rfl, rfl, rfl, by decide +kernel, rfl, by decide +kernel, by decide +kernel⟩
abbrev s_is_reading : Stmt := topS 6
theorem sc_is_reading : FnScope ["rows", "reading", "whole", "number"] ["rows", "reading"] (defScope s_is_reading) := ⟨rfl, rfl, rfl, by decide +kernel, rfl, by decide +kernel, by decide +kernel⟩
abbrev s_judge_code : Stmt := topS 7
theorem sc_judge_code : FnScope ["rows", "told", "first", "second", "due", "rest", "reading", "number"] ["rows", "told"] (defScope s_judge_code) := ⟨rfl, rfl, rfl, by decide +kernel, rfl, by decide +kernel, by decide +kernel⟩
abbrev s__law_next : Stmt := topS 9
theorem sc__law_next : FnScope ["state", "limit", "cell", "value"] ["state", "limit"] (defScope s__law_next) := ⟨rfl, rfl, rfl, by decide +kernel, rfl, by decide +kernel, by decide +kernel⟩
abbrev s__law_same : Stmt := topS 10
theorem sc__law_same : FnScope ["actual", "expected", "k"] ["actual", "expected"] (defScope s__law_same) := ⟨rfl, rfl, rfl, by decide +kernel, rfl, by decide +kernel, by decide +kernel⟩
abbrev s__law_signs : Stmt := topS 11
theorem sc__law_signs : FnScope ["state", "letters", "found", "k", "place"] ["state"] (defScope s__law_signs) := ⟨rfl, rfl, rfl, by decide +kernel, rfl, by decide +kernel, by decide +kernel⟩
abbrev s__law_word : Stmt := topS 12
theorem sc__law_word : FnScope ["state", "signs", "most", "k"] ["state", "signs", "most"] (defScope s__law_word) := ⟨rfl, rfl, rfl, by decide +kernel, rfl, by decide +kernel, by decide +kernel⟩
abbrev s__law_rows : Stmt := topS 13
theorem sc__law_rows : FnScope ["state", "signs", "rows", "k", "pick", "row"] ["state", "signs"] (defScope s__law_rows) := ⟨rfl, rfl, rfl, by decide +kernel, rfl, by decide +kernel, by decide +kernel⟩
abbrev s__law_rests : Stmt := topS 14
theorem sc__law_rests : FnScope ["rows", "rest", "found", "row"] ["rows", "rest"] (defScope s__law_rests) := ⟨rfl, rfl, rfl, by decide +kernel, rfl, by decide +kernel, by decide +kernel⟩
abbrev s__law_left_over : Stmt := topS 15
theorem sc__law_left_over : FnScope ["rows", "found", "behind", "one", "made", "rest", "other"] ["rows"] (defScope s__law_left_over) := ⟨rfl, rfl, rfl, by decide +kernel, rfl, by decide +kernel, by decide +kernel⟩
abbrev s__law_ways : Stmt := topS 16
theorem sc__law_ways : FnScope ["rows", "text", "at", "known", "found", "k", "way"] ["rows", "text", "at", "known"] (defScope s__law_ways) := ⟨rfl, rfl, rfl, by decide +kernel, rfl, by decide +kernel, by decide +kernel⟩
abbrev s__law_least_double : Stmt := topS 17
theorem sc__law_least_double : FnScope ["rows", "best", "front", "one", "size", "text", "rest", "row", "other", "each"] ["rows"] (defScope s__law_least_double) := ⟨rfl, rfl, rfl, by decide +kernel, rfl, by decide +kernel, by decide +kernel⟩
abbrev s__law_longer : Stmt := topS 19
theorem sc__law_longer : FnScope ["front", "signs", "found", "row", "sign"] ["front", "signs"] (defScope s__law_longer) := ⟨rfl, rfl, rfl, by decide +kernel, rfl, by decide +kernel, by decide +kernel⟩
abbrev s__law_no_lesser : Stmt := topS 18
theorem sc__law_no_lesser : FnScope ["rows", "text", "signs", "front", "size", "row"] ["rows", "text", "signs"] (defScope s__law_no_lesser) := ⟨rfl, rfl, rfl, by decide +kernel, rfl, by decide +kernel, by decide +kernel⟩
abbrev s__law_is_number : Stmt := topS 20
theorem sc__law_is_number : FnScope ["value", "limit"] ["value", "limit"] (defScope s__law_is_number) := ⟨rfl, rfl, rfl, by decide +kernel, rfl, by decide +kernel, by decide +kernel⟩
abbrev s__law_accepts : Stmt := topS 21
theorem sc__law_accepts : FnScope ["rows", "told", "way", "texts", "due", "one", "rest", "number", "other"] ["rows", "told"] (defScope s__law_accepts) := ⟨rfl, rfl, rfl, by decide +kernel, rfl, by decide +kernel, by decide +kernel⟩
abbrev s__law_turned : Stmt := topS 22
theorem sc__law_turned : FnScope ["state", "signs", "paper", "pick", "k"] ["state", "signs", "paper"] (defScope s__law_turned) := ⟨rfl, rfl, rfl, by decide +kernel, rfl, by decide +kernel, by decide +kernel⟩
abbrev s_law : Stmt := topS 23
theorem sc_law : FnScope ["script", "state", "turn", "signs", "rows", "rests", "double", "due", "handed", "told", "asks", "ends", "row", "k", "asked", "end"] ["script"] (defScope s_law) := ⟨rfl, rfl, rfl, by decide +kernel, rfl, by decide +kernel, by decide +kernel⟩
abbrev clM (mg : Str → Option Value) : Cl := fun c v dd => mg (Str.ofString c) = some v ∧ dd = none
structure Txt (K : PySem.W.Frag) (mg : Str → Option Value) where
  m_bool : mg "bool" = none
  m_enumerate : mg "enumerate" = none
  m_int : mg "int" = none
  m_isinstance : mg "isinstance" = none
  m_len : mg "len" = none
  m_list : mg "list" = none
  m_min : mg "min" = none
  m_range : mg "range" = none
  m_reversed : mg "reversed" = none
  m_set : mg "set" = none
  m_sorted : mg "sorted" = none
  m_str : mg "str" = none
  m_tuple : mg "tuple" = none
  a_rests_of : Addr
  fd_rests_of : FuncData
  F_rests_of : Fun K "rests_of" "rests_of" s_rests_of a_rests_of fd_rests_of
  g_rests_of : mg "rests_of" = some (.ref a_rests_of)
  b_rests_of : Binds K fd_rests_of ["rows", "rest"] []
  a_remainders : Addr
  fd_remainders : FuncData
  F_remainders : Fun K "remainders" "remainders" s_remainders a_remainders fd_remainders
  g_remainders : mg "remainders" = some (.ref a_remainders)
  b_remainders : Binds K fd_remainders ["rows"] []
  a_least_double : Addr
  fd_least_double : FuncData
  F_least_double : Fun K "least_double" "least_double" s_least_double a_least_double fd_least_double
  g_least_double : mg "least_double" = some (.ref a_least_double)
  b_least_double : Binds K fd_least_double ["rows"] []
  a_readings : Addr
  fd_readings : FuncData
  F_readings : Fun K "readings" "readings" s_readings a_readings fd_readings
  g_readings : mg "readings" = some (.ref a_readings)
  b_readings : Binds K fd_readings ["rows", "text"] []
  a_code : Addr
  fd_code : FuncData
  F_code : Fun K "code" "code" s_code a_code fd_code
  g_code : mg "code" = some (.ref a_code)
  b_code : Binds K fd_code ["rows"] []
  a_is_reading : Addr
  fd_is_reading : FuncData
  F_is_reading : Fun K "is_reading" "is_reading" s_is_reading a_is_reading fd_is_reading
  g_is_reading : mg "is_reading" = some (.ref a_is_reading)
  b_is_reading : Binds K fd_is_reading ["rows", "reading"] []
  a_judge_code : Addr
  fd_judge_code : FuncData
  F_judge_code : Fun K "judge_code" "judge_code" s_judge_code a_judge_code fd_judge_code
  g_judge_code : mg "judge_code" = some (.ref a_judge_code)
  b_judge_code : Binds K fd_judge_code ["rows", "told"] []
  a__law_next : Addr
  fd__law_next : FuncData
  F__law_next : Fun K "_law_next" "_law_next" s__law_next a__law_next fd__law_next
  g__law_next : mg "_law_next" = some (.ref a__law_next)
  b__law_next : Binds K fd__law_next ["state", "limit"] []
  a__law_same : Addr
  fd__law_same : FuncData
  F__law_same : Fun K "_law_same" "_law_same" s__law_same a__law_same fd__law_same
  g__law_same : mg "_law_same" = some (.ref a__law_same)
  b__law_same : Binds K fd__law_same ["actual", "expected"] []
  a__law_signs : Addr
  fd__law_signs : FuncData
  F__law_signs : Fun K "_law_signs" "_law_signs" s__law_signs a__law_signs fd__law_signs
  g__law_signs : mg "_law_signs" = some (.ref a__law_signs)
  b__law_signs : Binds K fd__law_signs ["state"] []
  a__law_word : Addr
  fd__law_word : FuncData
  F__law_word : Fun K "_law_word" "_law_word" s__law_word a__law_word fd__law_word
  g__law_word : mg "_law_word" = some (.ref a__law_word)
  b__law_word : Binds K fd__law_word ["state", "signs", "most"] []
  a__law_rows : Addr
  fd__law_rows : FuncData
  F__law_rows : Fun K "_law_rows" "_law_rows" s__law_rows a__law_rows fd__law_rows
  g__law_rows : mg "_law_rows" = some (.ref a__law_rows)
  b__law_rows : Binds K fd__law_rows ["state", "signs"] []
  a__law_rests : Addr
  fd__law_rests : FuncData
  F__law_rests : Fun K "_law_rests" "_law_rests" s__law_rests a__law_rests fd__law_rests
  g__law_rests : mg "_law_rests" = some (.ref a__law_rests)
  b__law_rests : Binds K fd__law_rests ["rows", "rest"] []
  a__law_left_over : Addr
  fd__law_left_over : FuncData
  F__law_left_over : Fun K "_law_left_over" "_law_left_over" s__law_left_over a__law_left_over fd__law_left_over
  g__law_left_over : mg "_law_left_over" = some (.ref a__law_left_over)
  b__law_left_over : Binds K fd__law_left_over ["rows"] []
  a__law_ways : Addr
  fd__law_ways : FuncData
  F__law_ways : Fun K "_law_ways" "_law_ways" s__law_ways a__law_ways fd__law_ways
  g__law_ways : mg "_law_ways" = some (.ref a__law_ways)
  b__law_ways : Binds K fd__law_ways ["rows", "text", "at", "known"] []
  a__law_least_double : Addr
  fd__law_least_double : FuncData
  F__law_least_double : Fun K "_law_least_double" "_law_least_double" s__law_least_double a__law_least_double fd__law_least_double
  g__law_least_double : mg "_law_least_double" = some (.ref a__law_least_double)
  b__law_least_double : Binds K fd__law_least_double ["rows"] []
  a__law_longer : Addr
  fd__law_longer : FuncData
  F__law_longer : Fun K "_law_longer" "_law_longer" s__law_longer a__law_longer fd__law_longer
  g__law_longer : mg "_law_longer" = some (.ref a__law_longer)
  b__law_longer : Binds K fd__law_longer ["front", "signs"] []
  a__law_no_lesser : Addr
  fd__law_no_lesser : FuncData
  F__law_no_lesser : Fun K "_law_no_lesser" "_law_no_lesser" s__law_no_lesser a__law_no_lesser fd__law_no_lesser
  g__law_no_lesser : mg "_law_no_lesser" = some (.ref a__law_no_lesser)
  b__law_no_lesser : Binds K fd__law_no_lesser ["rows", "text", "signs"] []
  a__law_is_number : Addr
  fd__law_is_number : FuncData
  F__law_is_number : Fun K "_law_is_number" "_law_is_number" s__law_is_number a__law_is_number fd__law_is_number
  g__law_is_number : mg "_law_is_number" = some (.ref a__law_is_number)
  b__law_is_number : Binds K fd__law_is_number ["value", "limit"] []
  a__law_accepts : Addr
  fd__law_accepts : FuncData
  F__law_accepts : Fun K "_law_accepts" "_law_accepts" s__law_accepts a__law_accepts fd__law_accepts
  g__law_accepts : mg "_law_accepts" = some (.ref a__law_accepts)
  b__law_accepts : Binds K fd__law_accepts ["rows", "told"] []
  a__law_turned : Addr
  fd__law_turned : FuncData
  F__law_turned : Fun K "_law_turned" "_law_turned" s__law_turned a__law_turned fd__law_turned
  g__law_turned : mg "_law_turned" = some (.ref a__law_turned)
  b__law_turned : Binds K fd__law_turned ["state", "signs", "paper"] []
  a_law : Addr
  fd_law : FuncData
  F_law : Fun K "law" "law" s_law a_law fd_law
  g_law : mg "law" = some (.ref a_law)
  b_law : Binds K fd_law ["script"] []
end K65
end
section
set_option Elab.async false
set_option linter.all false
set_option maxRecDepth 100000
namespace K65
open PySem PySem.Spec L2 DL
set_option maxHeartbeats 4000000 in
theorem ok_rests_of {P : Program} {w : World} {K : PySem.W.Frag} {mg : Str → Option Value} {base : Heap} (T : Txt K mg) : FnOk P w K mg base (L2.CX P w) 1 T.a_rests_of T.fd_rests_of ["rows", "rest"] (spF K (clM mg) 2 (F_rests_of)) := by
  refine def_ok2 (g := g_rests_of) (n := 4) (m := 2) T.F_rests_of sc_rests_of rfl rfl rfl (by decide) (fun cdv A outer s H E hr => ?_)
  have hp := passes_of (X := bx P w K mg base ["rows", "rest", "found", "row"] "rests_of" s_rests_of T.a_rests_of cdv A outer s H E) rfl
  have tk : Takes (bx P w K mg base ["rows", "rest", "found", "row"] "rests_of" s_rests_of T.a_rests_of cdv A outer s H E) (WF E) := takes_of rfl rfl rfl rfl
  obtain ⟨hu1, hu64, hu65, hu200⟩ := room_un hr
  have sc := sc_rests_of
  unfold g_rests_of
  exact (ss_cons (s_setLc (i := 2) rfl sc.nd rfl rfl (sw_true rfl rfl rfl (by decide +kernel)) (i_seq (d_v (pv 0))) (blkOk_by (own := [("row", 3)]) (N := ["rows", "rest", "found", "row"]) (sc := defScope s_rests_of) (by decide +kernel)) (fun _ _ _ _ _ => (g_name (i := 3) sc.nd rfl (by first | exact Or.inl rfl | exact Or.inr rfl))) (fun _ _ _ _ _ => (c_one (t_tru (o_g (d_sw (d_v (pv 3)) (o_b (pv 1))))))) (fun _ _ _ _ _ => (d_sl (o_b (pv 3)) (p_so (d_b1 call_len sb_len (by rfl) T.m_len PySem.boot_len (o_b (pv 1)))) p_no)))
      (ss_one (s_ret (d_fz (o_bin op_cat so_cat (o_b (pv 2)) (o_g (d_fz (o_lc rfl sc.nd (i_seq (d_v (pv 0))) (blkOk_by (own := [("row", 3)]) (N := ["rows", "rest", "found", "row"]) (sc := defScope s_rests_of) (by decide +kernel)) (fun _ _ _ _ _ => (g_name (i := 3) sc.nd rfl (by first | exact Or.inl rfl | exact Or.inr rfl))) (fun _ _ _ _ _ => (c_one (t_tru (o_g (d_sw (d_v (pv 1)) (o_b (pv 3))))))) (fun _ _ _ _ _ => (d_sl (o_b (pv 1)) (p_so (d_b1 call_len sb_len (by rfl) T.m_len PySem.boot_len (o_b (pv 3)))) p_no))))))))))
end K65
end
section
set_option Elab.async false
set_option linter.all false
set_option maxRecDepth 100000
namespace K65
open PySem PySem.Spec L2 DL
set_option maxHeartbeats 4000000 in
theorem ok_remainders {P : Program} {w : World} {K : PySem.W.Frag} {mg : Str → Option Value} {base : Heap} (T : Txt K mg) : FnOk P w K mg base (L2.CX P w) 2 T.a_remainders T.fd_remainders ["rows"] (spF K (clM mg) 1 (F_remainders)) := by
  have G_rests_of := ok_rests_of (P := P) (w := w) (base := base) T
  refine def_ok2 (g := g_remainders) (n := 6) (m := 1) T.F_remainders sc_remainders rfl rfl rfl (by decide) (fun cdv A outer s H E hr => ?_)
  have hp := passes_of (X := bx P w K mg base ["rows", "found", "left", "first", "rest", "second"] "remainders" s_remainders T.a_remainders cdv A outer s H E) rfl
  have tk : Takes (bx P w K mg base ["rows", "found", "left", "first", "rest", "second"] "remainders" s_remainders T.a_remainders cdv A outer s H E) (WF E) := takes_of rfl rfl rfl rfl
  obtain ⟨hu1, hu64, hu65, hu200⟩ := room_un hr
  have sc := sc_remainders
  unfold g_remainders
  exact (ss_cons (s_setO (i := 1) sc.nd rfl (by first | exact Or.inl rfl | exact Or.inr rfl) (o_lst l_nil))
      (ss_cons (s_setO (i := 2) sc.nd rfl (by first | exact Or.inl rfl | exact Or.inr rfl) (o_lst l_nil))
      (ss_cons (s_for hp rfl (i_seq (d_v (pv 0))) (g_name (i := 3) sc.nd rfl (by first | exact Or.inl rfl | exact Or.inr rfl))
      (ss_one (s_mut PySem.F.slot_list_extend PySem.F.type_list_extend mt_extend mu_ext (pv 2) (d_fz (o_lc rfl sc.nd (i_seq (d_v (pv 0))) (blkOk_by (own := [("second", 5)]) (N := ["rows", "found", "left", "first", "rest", "second"]) (sc := defScope s_remainders) (by decide +kernel)) (fun _ _ _ _ _ => (g_name (i := 5) sc.nd rfl (by first | exact Or.inl rfl | exact Or.inr rfl))) (fun _ _ _ _ _ => (c_one (PW.pt (w_and (t_cmp (op_neD hu64) sd_ne (o_b (pv 5)) (o_b (pv 3)) (nomark _)) (w_and1 (t_tru (o_g (d_sw (d_v (pv 5)) (o_b (pv 3)))))))))) (fun _ _ _ _ _ => (d_sl (o_b (pv 5)) (p_so (d_b1 call_len sb_len (by rfl) T.m_len PySem.boot_len (o_b (pv 3)))) p_no)))))))
      (ss_cons (s_while 100000 hp (t_tru (o_b (pv 2)))
      (ss_cons (s_set (i := 4) sc.nd rfl (by first | exact Or.inl rfl | exact Or.inr rfl) (d_pop0 (pv 2)))
      (ss_one (s_if (t_cmp (op_notInAll hu65) sd_notIn (o_b (pv 4)) (o_b (pv 1)) (by rfl))
      (ss_cons (s_mut PySem.F.slot_list_append PySem.F.type_list_append mt_append mu_app (pv 1) (d_v (pv 4)))
      (ss_one (s_if (t_cmp (op_neD hu64) sd_ne (o_b (pv 4)) (o_g d_str) (nomark _))
      (ss_one (s_mut PySem.F.slot_list_extend PySem.F.type_list_extend mt_extend mu_ext (pv 2) (d_call tk G_rests_of (hr.mono (by omega)) (by rfl) T.g_rests_of T.F_rests_of.kp T.b_rests_of (as_cons (a_g (d_v (pv 0))) (as_cons (a_g (d_v (pv 4))) as_nil)))))
      ss_nil)))
      ss_nil))))
      (ss_one (s_ret (d_fz (o_b1 (cr_sortedD hu200) sc_sorted (by rfl) T.m_sorted PyProof.Rows.boot_sorted (o_b (pv 1))))))))))
end K65
end
section
set_option Elab.async false
set_option linter.all false
set_option maxRecDepth 100000
namespace K65
open PySem PySem.Spec L2 DL
set_option maxHeartbeats 4000000 in
theorem ok_least_double {P : Program} {w : World} {K : PySem.W.Frag} {mg : Str → Option Value} {base : Heap} (T : Txt K mg) : FnOk P w K mg base (L2.CX P w) 1 T.a_least_double T.fd_least_double ["rows"] (spF K (clM mg) 1 (F_least_double)) := by
  refine def_ok2 (g := g_least_double) (n := 11) (m := 1) T.F_least_double sc_least_double rfl rfl rfl (by decide) (fun cdv A outer s H E hr => ?_)
  have hp := passes_of (X := bx P w K mg base ["rows", "left", "first", "longer", "met", "length", "text", "rest", "row", "other", "second"] "least_double" s_least_double T.a_least_double cdv A outer s H E) rfl
  have tk : Takes (bx P w K mg base ["rows", "left", "first", "longer", "met", "length", "text", "rest", "row", "other", "second"] "least_double" s_least_double T.a_least_double cdv A outer s H E) (WF E) := takes_of rfl rfl rfl rfl
  obtain ⟨hu1, hu64, hu65, hu200⟩ := room_un hr
  have sc := sc_least_double
  unfold g_least_double
  exact (ss_cons (s_setO (i := 1) sc.nd rfl (by first | exact Or.inl rfl | exact Or.inr rfl) (o_lst l_nil))
      (ss_cons (s_for hp rfl (i_seq (d_v (pv 0))) (g_name (i := 2) sc.nd rfl (by first | exact Or.inl rfl | exact Or.inr rfl))
      (ss_cons (s_setLc (i := 3) rfl sc.nd rfl rfl (sw_true rfl rfl rfl (by decide +kernel)) (i_seq (d_v (pv 0))) (blkOk_by (own := [("second", 10)]) (N := ["rows", "left", "first", "longer", "met", "length", "text", "rest", "row", "other", "second"]) (sc := defScope s_least_double) (by decide +kernel)) (fun _ _ _ _ _ => (g_name (i := 10) sc.nd rfl (by first | exact Or.inl rfl | exact Or.inr rfl))) (fun _ _ _ _ _ => (c_one (PW.pt (w_and (t_cmp (op_neD hu64) sd_ne (o_b (pv 10)) (o_b (pv 2)) (nomark _)) (w_and1 (t_tru (o_g (d_sw (d_v (pv 10)) (o_b (pv 2)))))))))) (fun _ _ _ _ _ => (d_v (pv 10))))
      (ss_one (s_mut PySem.F.slot_list_extend PySem.F.type_list_extend mt_extend mu_ext (pv 1) (d_fz (o_lc rfl sc.nd (i_seq (d_v (pv 3))) (blkOk_by (own := [("second", 10)]) (N := ["rows", "left", "first", "longer", "met", "length", "text", "rest", "row", "other", "second"]) (sc := defScope s_least_double) (by decide +kernel)) (fun _ _ _ _ _ => (g_name (i := 10) sc.nd rfl (by first | exact Or.inl rfl | exact Or.inr rfl))) (fun _ _ _ _ _ => c_nil) (fun _ _ _ _ _ => (d_tup (l_cons (d_b1 call_len sb_len (by rfl) T.m_len PySem.boot_len (o_b (pv 10))) (l_cons (d_v (pv 10)) (l_cons (d_sl (o_b (pv 10)) (p_so (d_b1 call_len sb_len (by rfl) T.m_len PySem.boot_len (o_b (pv 2)))) p_no) l_nil)))))))))))
      (ss_cons (s_setO (i := 4) sc.nd rfl (by first | exact Or.inl rfl | exact Or.inr rfl) (o_lst l_nil))
      (ss_cons (s_while 100000 hp (t_tru (o_b (pv 1)))
      (ss_cons (s_sort hu200 (pv 1))
      (ss_cons (s_asg (d_pop (pv 1) d_int) (g_tup rfl (gs_cons (g_name (i := 5) sc.nd rfl (by first | exact Or.inl rfl | exact Or.inr rfl)) (gs_cons (g_name (i := 6) sc.nd rfl (by first | exact Or.inl rfl | exact Or.inr rfl)) (gs_cons (g_name (i := 7) sc.nd rfl (by first | exact Or.inl rfl | exact Or.inr rfl)) gs_nil)))))
      (ss_cons (s_if (t_cmp (op_eqD hu64) sd_eq (o_b (pv 7)) (o_g d_str) (nomark _))
      (ss_one (s_ret (d_v (pv 6))))
      ss_nil)
      (ss_one (s_if (t_cmp (op_notInAll hu65) sd_notIn (o_b (pv 7)) (o_b (pv 4)) (by rfl))
      (ss_cons (s_mut PySem.F.slot_list_append PySem.F.type_list_append mt_append mu_app (pv 4) (d_v (pv 7)))
      (ss_one (s_for hp rfl (i_seq (d_v (pv 0))) (g_name (i := 8) sc.nd rfl (by first | exact Or.inl rfl | exact Or.inr rfl))
      (ss_one (s_if (t_tru (o_g (d_sw (d_v (pv 7)) (o_b (pv 8)))))
      (ss_one (s_mut PySem.F.slot_list_append PySem.F.type_list_append mt_append mu_app (pv 1) (d_tup (l_cons (d_v (pv 5)) (l_cons (d_v (pv 6)) (l_cons (d_sl (o_b (pv 7)) (p_so (d_b1 call_len sb_len (by rfl) T.m_len PySem.boot_len (o_b (pv 8)))) p_no) l_nil))))))
      (ss_one (s_if (t_tru (o_g (d_sw (d_v (pv 8)) (o_b (pv 7)))))
      (ss_cons (s_set (i := 9) sc.nd rfl (by first | exact Or.inl rfl | exact Or.inr rfl) (d_sl (o_b (pv 8)) (p_so (d_b1 call_len sb_len (by rfl) T.m_len PySem.boot_len (o_b (pv 7)))) p_no))
      (ss_one (s_mut PySem.F.slot_list_append PySem.F.type_list_append mt_append mu_app (pv 1) (d_tup (l_cons (d_bin op_addD sd_add (o_b (pv 5)) (o_g (d_b1 call_len sb_len (by rfl) T.m_len PySem.boot_len (o_b (pv 9))))) (l_cons (d_bin op_addD sd_add (o_b (pv 6)) (o_b (pv 9))) (l_cons (d_v (pv 9)) l_nil)))))))
      ss_nil)))))))
      ss_nil))))))
      (ss_one (s_ret d_non))))))
end K65
end
section
set_option Elab.async false
set_option linter.all false
set_option maxRecDepth 100000
namespace K65
open PySem PySem.Spec L2 DL
set_option maxHeartbeats 4000000 in
theorem ok_readings {P : Program} {w : World} {K : PySem.W.Frag} {mg : Str → Option Value} {base : Heap} (T : Txt K mg) : FnOk P w K mg base (L2.CX P w) 1 T.a_readings T.fd_readings ["rows", "text"] (spF K (clM mg) 2 (F_readings)) := by
  refine def_ok2 (g := g_readings) (n := 8) (m := 2) T.F_readings sc_readings rfl rfl rfl (by decide) (fun cdv A outer s H E hr => ?_)
  have hp := passes_of (X := bx P w K mg base ["rows", "text", "found", "place", "ways", "number", "row", "way"] "readings" s_readings T.a_readings cdv A outer s H E) rfl
  have tk : Takes (bx P w K mg base ["rows", "text", "found", "place", "ways", "number", "row", "way"] "readings" s_readings T.a_readings cdv A outer s H E) (WF E) := takes_of rfl rfl rfl rfl
  obtain ⟨hu1, hu64, hu65, hu200⟩ := room_un hr
  have sc := sc_readings
  unfold g_readings
  exact (ss_cons (s_setO (i := 2) sc.nd rfl (by first | exact Or.inl rfl | exact Or.inr rfl) (o_dict1K (d_b1 call_len sb_len (by rfl) T.m_len PySem.boot_len (o_b (pv 1))) (d_fz (o_lst (l_cons (d_tup l_nil) l_nil)))))
      (ss_cons (s_for hp rfl (i_revr1 (by rfl) T.m_reversed (by rfl) T.m_range (d_b1 call_len sb_len (by rfl) T.m_len PySem.boot_len (o_b (pv 1)))) (g_name (i := 3) sc.nd rfl (by first | exact Or.inl rfl | exact Or.inr rfl))
      (ss_cons (s_setO (i := 4) sc.nd rfl (by first | exact Or.inl rfl | exact Or.inr rfl) (o_lst l_nil))
      (ss_cons (s_for hp rfl (i_enum (by rfl) T.m_enumerate (d_v (pv 0))) (g_tup rfl (gs_cons (g_name (i := 5) sc.nd rfl (by first | exact Or.inl rfl | exact Or.inr rfl)) (gs_cons (g_name (i := 6) sc.nd rfl (by first | exact Or.inl rfl | exact Or.inr rfl)) gs_nil)))
      (ss_one (s_if (t_tru (o_g (d_sw3 (d_v (pv 1)) (o_b (pv 6)) (o_b (pv 3)))))
      (ss_one (s_mut PySem.F.slot_list_extend PySem.F.type_list_extend mt_extend mu_ext (pv 4) (d_fz (o_lc rfl sc.nd (i_seq (d_dget hu1 (pv 2) (d_bin op_addD sd_add (o_b (pv 3)) (o_g (d_b1 call_len sb_len (by rfl) T.m_len PySem.boot_len (o_b (pv 6))))))) (blkOk_by (own := [("way", 7)]) (N := ["rows", "text", "found", "place", "ways", "number", "row", "way"]) (sc := defScope s_readings) (by decide +kernel)) (fun _ _ _ _ _ => (g_name (i := 7) sc.nd rfl (by first | exact Or.inl rfl | exact Or.inr rfl))) (fun _ _ _ _ _ => c_nil) (fun _ _ _ _ _ => (d_bin op_addD sd_add (o_g (d_tup (l_cons (d_v (pv 5)) l_nil))) (o_b (pv 7))))))))
      ss_nil)))
      (ss_one (s_dput hu1 (pv 2) (d_v (pv 3)) (d_fz (o_sl (o_g (d_fz (o_b1 (cr_sortedD hu200) sc_sorted (by rfl) T.m_sorted PyProof.Rows.boot_sorted (o_b (pv 4))))) p_no (p_so d_int))))))))
      (ss_one (s_ret (d_dget hu1 (pv 2) d_int)))))
end K65
end
section
set_option Elab.async false
set_option linter.all false
set_option maxRecDepth 100000
namespace K65
open PySem PySem.Spec L2 DL
set_option maxHeartbeats 4000000 in
theorem ok_code {P : Program} {w : World} {K : PySem.W.Frag} {mg : Str → Option Value} {base : Heap} (T : Txt K mg) : FnOk P w K mg base (L2.CX P w) 3 T.a_code T.fd_code ["rows"] (spF K (clM mg) 1 (F_code)) := by
  have G_least_double := ok_least_double (P := P) (w := w) (base := base) T
  have G_remainders := ok_remainders (P := P) (w := w) (base := base) T
  have G_readings := ok_readings (P := P) (w := w) (base := base) T
  refine def_ok2 (g := g_code) (n := 2) (m := 1) T.F_code sc_code rfl rfl rfl (by decide) (fun cdv A outer s H E hr => ?_)
  have hp := passes_of (X := bx P w K mg base ["rows", "double"] "code" s_code T.a_code cdv A outer s H E) rfl
  have tk : Takes (bx P w K mg base ["rows", "double"] "code" s_code T.a_code cdv A outer s H E) (WF E) := takes_of rfl rfl rfl rfl
  obtain ⟨hu1, hu64, hu65, hu200⟩ := room_un hr
  have sc := sc_code
  unfold g_code
  exact (ss_cons (s_set (i := 1) sc.nd rfl (by first | exact Or.inl rfl | exact Or.inr rfl) (d_call tk G_least_double (hr.mono (by omega)) (by rfl) T.g_least_double T.F_least_double.kp T.b_least_double (as_cons (a_g (d_v (pv 0))) as_nil)))
      (ss_cons (s_if (t_cmp op_isN sd_isN (o_b (pv 1)) (o_g d_non) (nomark _))
      (ss_one (s_ret (d_tup (l_cons d_str (l_cons (d_y1 call_tuple_of sb_tup (by rfl) T.m_tuple PyProof.Rows.boot_tuple (o_g (d_call tk G_remainders (hr.mono (by omega)) (by rfl) T.g_remainders T.F_remainders.kp T.b_remainders (as_cons (a_g (d_v (pv 0))) as_nil)))) l_nil)))))
      ss_nil)
      (ss_one (s_ret (d_tup (l_cons d_str (l_cons (d_y1 call_tuple_of sb_tup (by rfl) T.m_tuple PyProof.Rows.boot_tuple (o_g (d_call tk G_readings (hr.mono (by omega)) (by rfl) T.g_readings T.F_readings.kp T.b_readings (as_cons (a_g (d_v (pv 0))) (as_cons (a_g (d_v (pv 1))) as_nil))))) l_nil)))))))
end K65
end
section
set_option Elab.async false
set_option linter.all false
set_option maxRecDepth 100000
namespace K65
open PySem PySem.Spec L2 DL
set_option maxHeartbeats 4000000 in
theorem ok_is_reading {P : Program} {w : World} {K : PySem.W.Frag} {mg : Str → Option Value} {base : Heap} (T : Txt K mg) : FnOk P w K mg base (L2.CX P w) 1 T.a_is_reading T.fd_is_reading ["rows", "reading"] (spF K (clM mg) 2 (F_is_reading)) := by
  refine def_ok2 (g := g_is_reading) (n := 4) (m := 2) T.F_is_reading sc_is_reading rfl rfl rfl (by decide) (fun cdv A outer s H E hr => ?_)
  have hp := passes_of (X := bx P w K mg base ["rows", "reading", "whole", "number"] "is_reading" s_is_reading T.a_is_reading cdv A outer s H E) rfl
  have tk : Takes (bx P w K mg base ["rows", "reading", "whole", "number"] "is_reading" s_is_reading T.a_is_reading cdv A outer s H E) (WF E) := takes_of rfl rfl rfl rfl
  obtain ⟨hu1, hu64, hu65, hu200⟩ := room_un hr
  have sc := sc_is_reading
  unfold g_is_reading
  exact (ss_cons (s_if (t_not (t_tru (o_g (d_isi kit_tuple (by rfl) T.m_isinstance (by rfl) T.m_tuple PyProof.Rows.boot_tuple (o_b (pv 1))))))
      (ss_one (s_ret d_bl))
      ss_nil)
      (ss_cons (s_setLc (i := 2) rfl sc.nd rfl rfl (sw_true rfl rfl rfl (by decide +kernel)) (i_seq (d_v (pv 1))) (blkOk_by (own := [("number", 3)]) (N := ["rows", "reading", "whole", "number"]) (sc := defScope s_is_reading) (by decide +kernel)) (fun _ _ _ _ _ => (g_name (i := 3) sc.nd rfl (by first | exact Or.inl rfl | exact Or.inr rfl))) (fun _ _ _ _ _ => c_nil) (fun _ _ _ _ _ => (d_and (d_isi kit_int (by rfl) T.m_isinstance (by rfl) T.m_int PyProof.Rows.boot_int (o_b (pv 3))) (d_one (d_not (d_isi kit_bool (by rfl) T.m_isinstance (by rfl) T.m_bool PyProof.Rows.boot_bool (o_b (pv 3))))))))
      (ss_one (s_ret (d_and (d_cmp (op_notInAll hu65) sd_notIn (o_g d_bl) (o_b (pv 2)) (by rfl)) (d_one (d_cmp (op_notInAll hu65) sd_notIn (o_g d_bl) (o_g (d_fz (o_lc rfl sc.nd (i_seq (d_v (pv 1))) (blkOk_by (own := [("number", 3)]) (N := ["rows", "reading", "whole", "number"]) (sc := defScope s_is_reading) (by decide +kernel)) (fun _ _ _ _ _ => (g_name (i := 3) sc.nd rfl (by first | exact Or.inl rfl | exact Or.inr rfl))) (fun _ _ _ _ _ => c_nil) (fun _ _ _ _ _ => (d_chain op_le (sd_cmpI _) op_lt (sd_cmpI _) (o_g d_int) (o_b (pv 3)) (o_g (d_b1 call_len sb_len (by rfl) T.m_len PySem.boot_len (o_b (pv 0))))))))) (by rfl))))))))
end K65
end
section
set_option Elab.async false
set_option linter.all false
set_option maxRecDepth 100000
namespace K65
open PySem PySem.Spec L2 DL
set_option maxHeartbeats 4000000 in
theorem ok_judge_code {P : Program} {w : World} {K : PySem.W.Frag} {mg : Str → Option Value} {base : Heap} (T : Txt K mg) : FnOk P w K mg base (L2.CX P w) 2 T.a_judge_code T.fd_judge_code ["rows", "told"] (spF K (clM mg) 2 (F_judge_code)) := by
  have G_is_reading := ok_is_reading (P := P) (w := w) (base := base) T
  have G_rests_of := ok_rests_of (P := P) (w := w) (base := base) T
  refine def_ok2 (g := g_judge_code) (n := 8) (m := 2) T.F_judge_code sc_judge_code rfl rfl rfl (by decide) (fun cdv A outer s H E hr => ?_)
  have hp := passes_of (X := bx P w K mg base ["rows", "told", "first", "second", "due", "rest", "reading", "number"] "judge_code" s_judge_code T.a_judge_code cdv A outer s H E) rfl
  have tk : Takes (bx P w K mg base ["rows", "told", "first", "second", "due", "rest", "reading", "number"] "judge_code" s_judge_code T.a_judge_code cdv A outer s H E) (WF E) := takes_of rfl rfl rfl rfl
  obtain ⟨hu1, hu64, hu65, hu200⟩ := room_un hr
  have sc := sc_judge_code
  unfold g_judge_code
  exact (ss_cons (s_if (PW.pt (w_or (t_not (t_tru (o_g (d_isi kit_tuple (by rfl) T.m_isinstance (by rfl) T.m_tuple PyProof.Rows.boot_tuple (o_b (pv 1)))))) (w_or (t_cmp (op_neD hu64) sd_ne (o_g (d_b1 call_len sb_len (by rfl) T.m_len PySem.boot_len (o_b (pv 1)))) (o_g d_int) (nomark _)) (w_or (t_cmp (op_notInAll hu65) sd_notIn (o_g (d_ix (o_b (pv 1)) (o_g d_int))) (o_g (d_tup (l_cons d_str (l_cons d_str l_nil)))) (by rfl)) (w_or1 (t_not (t_tru (o_g (d_isi kit_tuple (by rfl) T.m_isinstance (by rfl) T.m_tuple PyProof.Rows.boot_tuple (o_g (d_ix (o_b (pv 1)) (o_g d_int))))))))))))
      (ss_one (s_ret d_bl))
      ss_nil)
      (ss_cons (s_if (t_cmp (op_eqD hu64) sd_eq (o_g (d_ix (o_b (pv 1)) (o_g d_int))) (o_g d_str) (nomark _))
      (ss_cons (s_if (PW.pt (w_or (t_cmp (op_neD hu64) sd_ne (o_g (d_b1 call_len sb_len (by rfl) T.m_len PySem.boot_len (o_g (d_ix (o_b (pv 1)) (o_g d_int))))) (o_g d_int) (nomark _)) (w_or (t_cmp (op_inAll hu65) sd_in (o_g d_bl) (o_g (d_fz (o_lc rfl sc.nd (i_seq (d_ix (o_b (pv 1)) (o_g d_int))) (blkOk_by (own := [("reading", 6)]) (N := ["rows", "told", "first", "second", "due", "rest", "reading", "number"]) (sc := defScope s_judge_code) (by decide +kernel)) (fun _ _ _ _ _ => (g_name (i := 6) sc.nd rfl (by first | exact Or.inl rfl | exact Or.inr rfl))) (fun _ _ _ _ _ => c_nil) (fun _ _ _ _ _ => (d_call takes0 G_is_reading (hr.mono (by omega)) (by rfl) T.g_is_reading T.F_is_reading.kp T.b_is_reading (as_cons (a_g (d_v (pv 0))) (as_cons (a_g (d_v (pv 6))) as_nil))))))) (by rfl)) (w_or1 (t_cmp (op_eqD hu64) sd_eq (o_g (d_ix (o_g (d_ix (o_b (pv 1)) (o_g d_int))) (o_g d_int))) (o_g (d_ix (o_g (d_ix (o_b (pv 1)) (o_g d_int))) (o_g d_int))) (nomark _))))))
      (ss_one (s_ret d_bl))
      ss_nil)
      (ss_cons (s_asg (d_fz (o_lc rfl sc.nd (i_seq (d_ix (o_b (pv 1)) (o_g d_int))) (blkOk_by (own := [("reading", 6)]) (N := ["rows", "told", "first", "second", "due", "rest", "reading", "number"]) (sc := defScope s_judge_code) (by decide +kernel)) (fun _ _ _ _ _ => (g_name (i := 6) sc.nd rfl (by first | exact Or.inl rfl | exact Or.inr rfl))) (fun _ _ _ _ _ => c_nil) (fun _ _ _ _ _ => (d_join d_str (o_g (d_fz (o_lc rfl sc.nd (i_seq (d_v (pv 6))) (blkOk_by (own := [("number", 7)]) (N := ["rows", "told", "first", "second", "due", "rest", "reading", "number"]) (sc := (relS { kind := .function, names := [(Str.ofString ".0", .local), (Str.ofString "reading", .local), (Str.ofString "rows", .free)], isGenerator := false, isCoroutine := false } (defScope s_judge_code))) (by decide +kernel)) (fun _ _ _ _ _ => (g_name (i := 7) sc.nd rfl (by first | exact Or.inl rfl | exact Or.inr rfl))) (fun _ _ _ _ _ => c_nil) (fun _ _ _ _ _ => (d_ix (o_b (pv 0)) (o_b (pv 7))))))))))) (g_unp rfl (gs_cons (g_name (i := 2) sc.nd rfl (by first | exact Or.inl rfl | exact Or.inr rfl)) (gs_cons (g_name (i := 3) sc.nd rfl (by first | exact Or.inl rfl | exact Or.inr rfl)) gs_nil))))
      (ss_one (s_ret (d_cmp (op_eqD hu64) sd_eq (o_b (pv 2)) (o_b (pv 3)) (nomark _))))))
      ss_nil)
      (ss_cons (s_if (PW.pt (w_or (t_cmp (op_inAll hu65) sd_in (o_g d_bl) (o_g (d_fz (o_lc rfl sc.nd (i_seq (d_ix (o_b (pv 1)) (o_g d_int))) (blkOk_by (own := [("rest", 5)]) (N := ["rows", "told", "first", "second", "due", "rest", "reading", "number"]) (sc := defScope s_judge_code) (by decide +kernel)) (fun _ _ _ _ _ => (g_name (i := 5) sc.nd rfl (by first | exact Or.inl rfl | exact Or.inr rfl))) (fun _ _ _ _ _ => c_nil) (fun _ _ _ _ _ => (d_isi kit_str (by rfl) T.m_isinstance (by rfl) T.m_str PyProof.Rows.boot_str (o_b (pv 5))))))) (by rfl)) (w_or1 (t_cmp (op_inAll hu65) sd_in (o_g d_str) (o_g (d_ix (o_b (pv 1)) (o_g d_int))) (by rfl)))))
      (ss_one (s_ret d_bl))
      ss_nil)
      (ss_cons (s_setO (i := 4) sc.nd rfl (by first | exact Or.inl rfl | exact Or.inr rfl) (o_lst l_nil))
      (ss_cons (s_for hp rfl (i_seq (d_v (pv 0))) (g_name (i := 2) sc.nd rfl (by first | exact Or.inl rfl | exact Or.inr rfl))
      (ss_one (s_mut PySem.F.slot_list_extend PySem.F.type_list_extend mt_extend mu_ext (pv 4) (d_fz (o_lc rfl sc.nd (i_seq (d_v (pv 0))) (blkOk_by (own := [("second", 3)]) (N := ["rows", "told", "first", "second", "due", "rest", "reading", "number"]) (sc := defScope s_judge_code) (by decide +kernel)) (fun _ _ _ _ _ => (g_name (i := 3) sc.nd rfl (by first | exact Or.inl rfl | exact Or.inr rfl))) (fun _ _ _ _ _ => (c_one (PW.pt (w_and (t_cmp (op_neD hu64) sd_ne (o_b (pv 3)) (o_b (pv 2)) (nomark _)) (w_and1 (t_tru (o_g (d_sw (d_v (pv 3)) (o_b (pv 2)))))))))) (fun _ _ _ _ _ => (d_sl (o_b (pv 3)) (p_so (d_b1 call_len sb_len (by rfl) T.m_len PySem.boot_len (o_b (pv 2)))) p_no)))))))
      (ss_cons (s_for hp rfl (i_seq (d_ix (o_b (pv 1)) (o_g d_int))) (g_name (i := 5) sc.nd rfl (by first | exact Or.inl rfl | exact Or.inr rfl))
      (ss_one (s_mut PySem.F.slot_list_extend PySem.F.type_list_extend mt_extend mu_ext (pv 4) (d_call tk G_rests_of (hr.mono (by omega)) (by rfl) T.g_rests_of T.F_rests_of.kp T.b_rests_of (as_cons (a_g (d_v (pv 0))) (as_cons (a_g (d_v (pv 5))) as_nil))))))
      (ss_one (s_ret (d_cmp (op_notInAll hu65) sd_notIn (o_g d_bl) (o_g (d_fz (o_lc rfl sc.nd (i_seq (d_v (pv 4))) (blkOk_by (own := [("rest", 5)]) (N := ["rows", "told", "first", "second", "due", "rest", "reading", "number"]) (sc := defScope s_judge_code) (by decide +kernel)) (fun _ _ _ _ _ => (g_name (i := 5) sc.nd rfl (by first | exact Or.inl rfl | exact Or.inr rfl))) (fun _ _ _ _ _ => c_nil) (fun _ _ _ _ _ => (d_cmp (op_inAll hu65) sd_in (o_b (pv 5)) (o_g (d_ix (o_b (pv 1)) (o_g d_int))) (by rfl)))))) (by rfl))))))))))
end K65
end
section
set_option Elab.async false
set_option linter.all false
set_option maxRecDepth 100000
namespace K65
open PySem PySem.Spec L2 DL
set_option maxHeartbeats 4000000 in
theorem ok__law_next {P : Program} {w : World} {K : PySem.W.Frag} {mg : Str → Option Value} {base : Heap} (T : Txt K mg) : FnOk P w K mg base (L2.CX P w) 1 T.a__law_next T.fd__law_next ["state", "limit"] (spF K (clM mg) 2 (F__law_next)) := by
  refine def_ok2 (g := g__law_next) (n := 4) (m := 2) T.F__law_next sc__law_next rfl rfl rfl (by decide) (fun cdv A outer s H E hr => ?_)
  have hp := passes_of (X := bx P w K mg base ["state", "limit", "cell", "value"] "_law_next" s__law_next T.a__law_next cdv A outer s H E) rfl
  have tk : Takes (bx P w K mg base ["state", "limit", "cell", "value"] "_law_next" s__law_next T.a__law_next cdv A outer s H E) (WF E) := takes_of rfl rfl rfl rfl
  obtain ⟨hu1, hu64, hu65, hu200⟩ := room_un hr
  have sc := sc__law_next
  unfold g__law_next
  exact (ss_cons (s_if (PW.pt (w_and (t_cmp (op_eqD hu64) sd_eq (o_g (d_ix (o_b (pv 0)) (o_g d_int))) (o_g d_int) (nomark _)) (w_and1 (t_cmp op_lt (sd_cmpI _) (o_g (d_ix (o_b (pv 0)) (o_g d_int))) (o_g (d_b1 call_len sb_len (by rfl) T.m_len PySem.boot_len (o_g (d_ix (o_b (pv 0)) (o_g d_int))))) (nomark _)))))
      (ss_cons (s_set (i := 2) sc.nd rfl (by first | exact Or.inl rfl | exact Or.inr rfl) (d_ix (o_g (d_ix (o_b (pv 0)) (o_g d_int))) (o_g (d_ix (o_b (pv 0)) (o_g d_int)))))
      (ss_cons (s_ixAug (pv 0) d_int d_int)
      (ss_one (s_if (t_cmp op_ge (sd_cmpI _) (o_b (pv 2)) (o_g (d_bin op_pow sd_pow (o_g d_int) (o_g d_int))) (nomark _))
      (ss_one (s_ix (pv 0) d_int (d_v (pv 2))))
      (ss_one (s_ix (pv 0) d_int (d_bin op_modN sd_mod (o_g (d_y1 call_int1 sb_int (by rfl) T.m_int PyProof.Rows.boot_int (o_g (d_bin op_addD sd_add (o_g (d_bin op_addD sd_add (o_g (d_bin op_mul sd_mul (o_g (d_ix (o_b (pv 0)) (o_g d_int))) (o_g d_int))) (o_g (d_bin op_modN sd_mod (o_g (d_y1 call_int1 sb_int (by rfl) T.m_int PyProof.Rows.boot_int (o_b (pv 2)))) (o_g d_int))))) (o_g d_int))))) (o_g d_int))))))))
      ss_nil)
      (ss_cons (s_if (t_cmp op_gt (sd_cmpI _) (o_g (d_ix (o_b (pv 0)) (o_g d_int))) (o_g d_int) (nomark _))
      (ss_cons (s_set (i := 3) sc.nd rfl (by first | exact Or.inl rfl | exact Or.inr rfl) (d_bin op_modN sd_mod (o_g (d_y1 call_int1 sb_int (by rfl) T.m_int PyProof.Rows.boot_int (o_g (d_ix (o_b (pv 0)) (o_g d_int))))) (o_b (pv 1))))
      (ss_cons (s_ix (pv 0) d_int (d_bin op_fdivN sd_fdiv (o_g (d_ix (o_b (pv 0)) (o_g d_int))) (o_b (pv 1))))
      (ss_one (s_ret (d_v (pv 3))))))
      ss_nil)
      (ss_cons (s_ix (pv 0) d_int (d_bin op_modN sd_mod (o_g (d_y1 call_int1 sb_int (by rfl) T.m_int PyProof.Rows.boot_int (o_g (d_bin op_addD sd_add (o_g (d_bin op_mul sd_mul (o_g (d_ix (o_b (pv 0)) (o_g d_int))) (o_g d_int))) (o_g d_int))))) (o_g d_int)))
      (ss_one (s_ret (d_bin op_modN sd_mod (o_g (d_y1 call_int1 sb_int (by rfl) T.m_int PyProof.Rows.boot_int (o_g (d_bin op_fdivN sd_fdiv (o_g (d_ix (o_b (pv 0)) (o_g d_int))) (o_g d_int))))) (o_b (pv 1))))))))
end K65
end
section
set_option Elab.async false
set_option linter.all false
set_option maxRecDepth 100000
namespace K65
open PySem PySem.Spec L2 DL
set_option maxHeartbeats 4000000 in
theorem ok__law_same_k {P : Program} {w : World} {K : PySem.W.Frag} {mg : Str → Option Value} {base : Heap} (T : Txt K mg) : ∀ k, FnOk P w K mg base (L2.CX P w) (k + 1) T.a__law_same T.fd__law_same ["actual", "expected"] (spF K (clM mg) 2 (F__law_same k))
  | 0 => def_no
  | k + 1 => by
    have G__law_same := ok__law_same_k (P := P) (w := w) (base := base) T k
    refine def_ok2 (g := g__law_same (F__law_same k)) (n := 3) (m := 2) T.F__law_same sc__law_same rfl rfl rfl (by decide) (fun cdv A outer s H E hr => ?_)
    have hp := passes_of (X := bx P w K mg base ["actual", "expected", "k"] "_law_same" s__law_same T.a__law_same cdv A outer s H E) rfl
    have tk : Takes (bx P w K mg base ["actual", "expected", "k"] "_law_same" s__law_same T.a__law_same cdv A outer s H E) (WF E) := takes_of rfl rfl rfl rfl
    obtain ⟨hu1, hu64, hu65, hu200⟩ := room_un hr
    have sc := sc__law_same
    unfold g__law_same
    exact (ss_cons (s_if (t_cmp op_isN sd_isN (o_b (pv 1)) (o_g d_non) (nomark _))
      (ss_one (s_ret (d_cmp op_isN sd_isN (o_b (pv 0)) (o_g d_non) (nomark _))))
      ss_nil)
      (ss_cons (s_if (t_tru (o_g (d_isi kit_bool (by rfl) T.m_isinstance (by rfl) T.m_bool PyProof.Rows.boot_bool (o_b (pv 1)))))
      (ss_one (s_ret (d_and (d_isi kit_bool (by rfl) T.m_isinstance (by rfl) T.m_bool PyProof.Rows.boot_bool (o_b (pv 0))) (d_one (d_cmp (op_eqD hu64) sd_eq (o_b (pv 0)) (o_b (pv 1)) (nomark _))))))
      ss_nil)
      (ss_cons (s_if (t_tru (o_g (d_isi kit_int (by rfl) T.m_isinstance (by rfl) T.m_int PyProof.Rows.boot_int (o_b (pv 1)))))
      (ss_one (s_ret (d_and (d_isi kit_int (by rfl) T.m_isinstance (by rfl) T.m_int PyProof.Rows.boot_int (o_b (pv 0))) (d_and (d_not (d_isi kit_bool (by rfl) T.m_isinstance (by rfl) T.m_bool PyProof.Rows.boot_bool (o_b (pv 0)))) (d_one (d_cmp (op_eqD hu64) sd_eq (o_b (pv 0)) (o_b (pv 1)) (nomark _)))))))
      ss_nil)
      (ss_cons (s_if (t_tru (o_g (d_isi kit_str (by rfl) T.m_isinstance (by rfl) T.m_str PyProof.Rows.boot_str (o_b (pv 1)))))
      (ss_one (s_ret (d_and (d_isi kit_str (by rfl) T.m_isinstance (by rfl) T.m_str PyProof.Rows.boot_str (o_b (pv 0))) (d_one (d_cmp (op_eqD hu64) sd_eq (o_b (pv 0)) (o_b (pv 1)) (nomark _))))))
      ss_nil)
      (ss_cons (s_if (PW.pt (w_and (t_tru (o_g (d_isi kit_tuple (by rfl) T.m_isinstance (by rfl) T.m_tuple PyProof.Rows.boot_tuple (o_b (pv 1))))) (w_and1 (t_not (t_tru (o_g (d_isi kit_tuple (by rfl) T.m_isinstance (by rfl) T.m_tuple PyProof.Rows.boot_tuple (o_b (pv 0)))))))))
      (ss_one (s_ret d_bl))
      ss_nil)
      (ss_cons (s_if (PW.pt (w_and (t_tru (o_g (d_isi kit_list (by rfl) T.m_isinstance (by rfl) T.m_list PyProof.Rows.boot_list (o_b (pv 1))))) (w_and1 (t_not (t_tru (o_g (d_isi kit_list (by rfl) T.m_isinstance (by rfl) T.m_list PyProof.Rows.boot_list (o_b (pv 0)))))))))
      (ss_one (s_ret d_bl))
      ss_nil)
      (ss_cons (s_if (t_cmp (op_neD hu64) sd_ne (o_g (d_b1 call_len sb_len (by rfl) T.m_len PySem.boot_len (o_b (pv 0)))) (o_g (d_b1 call_len sb_len (by rfl) T.m_len PySem.boot_len (o_b (pv 1)))) (nomark _))
      (ss_one (s_ret d_bl))
      ss_nil)
      (ss_cons (s_for hp rfl (i_range1 (by rfl) T.m_range (o_g (d_b1 call_len sb_len (by rfl) T.m_len PySem.boot_len (o_b (pv 1))))) (g_name (i := 2) sc.nd rfl (by first | exact Or.inl rfl | exact Or.inr rfl))
      (ss_one (s_if (t_not (t_tru (o_g (d_call tk G__law_same (hr.mono (by omega)) (by rfl) T.g__law_same T.F__law_same.kp T.b__law_same (as_cons (a_g (d_ix (o_b (pv 0)) (o_b (pv 2)))) (as_cons (a_g (d_ix (o_b (pv 1)) (o_b (pv 2)))) as_nil))))))
      (ss_one (s_ret d_bl))
      ss_nil)))
      (ss_one (s_ret d_bl))))))))))
theorem ok__law_same {P : Program} {w : World} {K : PySem.W.Frag} {mg : Str → Option Value} {base : Heap} (T : Txt K mg) : FnOk P w K mg base (L2.CX P w) 7 T.a__law_same T.fd__law_same ["actual", "expected"] (spF K (clM mg) 2 (F__law_same 6)) := ok__law_same_k T 6
end K65
end
section
set_option Elab.async false
set_option linter.all false
set_option maxRecDepth 100000
namespace K65
open PySem PySem.Spec L2 DL
set_option maxHeartbeats 4000000 in
theorem ok__law_signs {P : Program} {w : World} {K : PySem.W.Frag} {mg : Str → Option Value} {base : Heap} (T : Txt K mg) : FnOk P w K mg base (L2.CX P w) 2 T.a__law_signs T.fd__law_signs ["state"] (spF K (clM mg) 1 (F__law_signs)) := by
  have G__law_next := ok__law_next (P := P) (w := w) (base := base) T
  refine def_ok2 (g := g__law_signs) (n := 5) (m := 1) T.F__law_signs sc__law_signs rfl rfl rfl (by decide) (fun cdv A outer s H E hr => ?_)
  have hp := passes_of (X := bx P w K mg base ["state", "letters", "found", "k", "place"] "_law_signs" s__law_signs T.a__law_signs cdv A outer s H E) rfl
  have tk : Takes (bx P w K mg base ["state", "letters", "found", "k", "place"] "_law_signs" s__law_signs T.a__law_signs cdv A outer s H E) (WF E) := takes_of rfl rfl rfl rfl
  obtain ⟨hu1, hu64, hu65, hu200⟩ := room_un hr
  have sc := sc__law_signs
  unfold g__law_signs
  exact (ss_cons (s_set (i := 1) sc.nd rfl (by first | exact Or.inl rfl | exact Or.inr rfl) d_str)
      (ss_cons (s_setO (i := 2) sc.nd rfl (by first | exact Or.inl rfl | exact Or.inr rfl) (o_lst l_nil))
      (ss_cons (s_for hp rfl (i_range1 (by rfl) T.m_range (o_g (d_ix (o_g (d_fz (o_lst (l_cons d_int (l_cons d_int (l_cons d_int (l_cons d_int (l_cons d_int (l_cons d_int (l_cons d_int (l_cons d_int l_nil))))))))))) (o_g (d_call tk G__law_next (hr.mono (by omega)) (by rfl) T.g__law_next T.F__law_next.kp T.b__law_next (as_cons (a_s (pv 0)) (as_cons (a_g d_int) as_nil))))))) (g_name (i := 3) sc.nd rfl (by first | exact Or.inl rfl | exact Or.inr rfl))
      (ss_cons (s_set (i := 4) sc.nd rfl (by first | exact Or.inl rfl | exact Or.inr rfl) (d_call tk G__law_next (hr.mono (by omega)) (by rfl) T.g__law_next T.F__law_next.kp T.b__law_next (as_cons (a_s (pv 0)) (as_cons (a_g d_int) as_nil))))
      (ss_cons (s_while 100 hp (t_cmp (op_inAll hu65) sd_in (o_g (d_ix (o_b (pv 1)) (o_b (pv 4)))) (o_b (pv 2)) (by rfl))
      (ss_one (s_set (i := 4) sc.nd rfl (by first | exact Or.inl rfl | exact Or.inr rfl) (d_bin op_modN sd_mod (o_g (d_bin op_addD sd_add (o_b (pv 4)) (o_g d_int))) (o_g d_int)))))
      (ss_one (s_mut PySem.F.slot_list_append PySem.F.type_list_append mt_append mu_app (pv 2) (d_ix (o_b (pv 1)) (o_b (pv 4))))))))
      (ss_one (s_ret (d_join d_str (o_g (d_fz (o_b1 (cr_sortedD hu200) sc_sorted (by rfl) T.m_sorted PyProof.Rows.boot_sorted (o_b (pv 2)))))))))))
end K65
end
section
set_option Elab.async false
set_option linter.all false
set_option maxRecDepth 100000
namespace K65
open PySem PySem.Spec L2 DL
set_option maxHeartbeats 4000000 in
theorem ok__law_word {P : Program} {w : World} {K : PySem.W.Frag} {mg : Str → Option Value} {base : Heap} (T : Txt K mg) : FnOk P w K mg base (L2.CX P w) 2 T.a__law_word T.fd__law_word ["state", "signs", "most"] (spF K (clM mg) 3 (F__law_word)) := by
  have G__law_next := ok__law_next (P := P) (w := w) (base := base) T
  refine def_ok2 (g := g__law_word) (n := 4) (m := 3) T.F__law_word sc__law_word rfl rfl rfl (by decide) (fun cdv A outer s H E hr => ?_)
  have hp := passes_of (X := bx P w K mg base ["state", "signs", "most", "k"] "_law_word" s__law_word T.a__law_word cdv A outer s H E) rfl
  have tk : Takes (bx P w K mg base ["state", "signs", "most", "k"] "_law_word" s__law_word T.a__law_word cdv A outer s H E) (WF E) := takes_of rfl rfl rfl rfl
  obtain ⟨hu1, hu64, hu65, hu200⟩ := room_un hr
  have sc := sc__law_word
  unfold g__law_word
  exact (ss_one (s_ret (d_join d_str (o_g (d_fz (o_lc rfl sc.nd (i_range1 (by rfl) T.m_range (o_g (d_bin op_addD sd_add (o_g d_int) (o_g (d_call tk G__law_next (hr.mono (by omega)) (by rfl) T.g__law_next T.F__law_next.kp T.b__law_next (as_cons (a_s (pv 0)) (as_cons (a_g (d_v (pv 2))) as_nil))))))) (blkOk_by (own := [("k", 3)]) (N := ["state", "signs", "most", "k"]) (sc := defScope s__law_word) (by decide +kernel)) (fun _ _ _ _ _ => (g_name (i := 3) sc.nd rfl (by first | exact Or.inl rfl | exact Or.inr rfl))) (fun _ _ _ _ _ => c_nil) (fun _ _ _ _ _ => (d_ix (o_b (pv 1)) (o_g (d_call takes0 G__law_next (hr.mono (by omega)) (by rfl) T.g__law_next T.F__law_next.kp T.b__law_next (as_cons (a_s (pv 0)) (as_cons (a_g (d_b1 call_len sb_len (by rfl) T.m_len PySem.boot_len (o_b (pv 1)))) as_nil))))))))))))
end K65
end
section
set_option Elab.async false
set_option linter.all false
set_option maxRecDepth 100000
namespace K65
open PySem PySem.Spec L2 DL
set_option maxHeartbeats 4000000 in
theorem ok__law_rows {P : Program} {w : World} {K : PySem.W.Frag} {mg : Str → Option Value} {base : Heap} (T : Txt K mg) : FnOk P w K mg base (L2.CX P w) 3 T.a__law_rows T.fd__law_rows ["state", "signs"] (spF K (clM mg) 2 (F__law_rows)) := by
  have G__law_next := ok__law_next (P := P) (w := w) (base := base) T
  have G__law_word := ok__law_word (P := P) (w := w) (base := base) T
  refine def_ok2 (g := g__law_rows) (n := 6) (m := 2) T.F__law_rows sc__law_rows rfl rfl rfl (by decide) (fun cdv A outer s H E hr => ?_)
  have hp := passes_of (X := bx P w K mg base ["state", "signs", "rows", "k", "pick", "row"] "_law_rows" s__law_rows T.a__law_rows cdv A outer s H E) rfl
  have tk : Takes (bx P w K mg base ["state", "signs", "rows", "k", "pick", "row"] "_law_rows" s__law_rows T.a__law_rows cdv A outer s H E) (WF E) := takes_of rfl rfl rfl rfl
  obtain ⟨hu1, hu64, hu65, hu200⟩ := room_un hr
  have sc := sc__law_rows
  unfold g__law_rows
  exact (ss_cons (s_setO (i := 2) sc.nd rfl (by first | exact Or.inl rfl | exact Or.inr rfl) (o_lst l_nil))
      (ss_cons (s_for hp rfl (i_range1 (by rfl) T.m_range (o_g (d_bin op_addD sd_add (o_g d_int) (o_g (d_call tk G__law_next (hr.mono (by omega)) (by rfl) T.g__law_next T.F__law_next.kp T.b__law_next (as_cons (a_s (pv 0)) (as_cons (a_g d_int) as_nil))))))) (g_name (i := 3) sc.nd rfl (by first | exact Or.inl rfl | exact Or.inr rfl))
      (ss_cons (s_set (i := 4) sc.nd rfl (by first | exact Or.inl rfl | exact Or.inr rfl) (d_call tk G__law_next (hr.mono (by omega)) (by rfl) T.g__law_next T.F__law_next.kp T.b__law_next (as_cons (a_s (pv 0)) (as_cons (a_g d_int) as_nil))))
      (ss_cons (s_set (i := 5) sc.nd rfl (by first | exact Or.inl rfl | exact Or.inr rfl) (d_call tk G__law_word (hr.mono (by omega)) (by rfl) T.g__law_word T.F__law_word.kp T.b__law_word (as_cons (a_s (pv 0)) (as_cons (a_g (d_v (pv 1))) (as_cons (a_g d_int) as_nil)))))
      (ss_cons (s_if (PW.pt (w_and (t_cmp (op_neD hu64) sd_ne (o_b (pv 2)) (o_g (d_fz (o_lst l_nil))) (nomark _)) (w_and1 (t_cmp (op_eqD hu64) sd_eq (o_b (pv 4)) (o_g d_int) (nomark _)))))
      (ss_one (s_set (i := 5) sc.nd rfl (by first | exact Or.inl rfl | exact Or.inr rfl) (d_bin op_addD sd_add (o_g (d_ix (o_b (pv 2)) (o_g (d_call tk G__law_next (hr.mono (by omega)) (by rfl) T.g__law_next T.F__law_next.kp T.b__law_next (as_cons (a_s (pv 0)) (as_cons (a_g (d_b1 call_len sb_len (by rfl) T.m_len PySem.boot_len (o_b (pv 2)))) as_nil)))))) (o_g (d_sl (o_b (pv 5)) p_no (p_so d_int))))))
      (ss_one (s_if (PW.pt (w_and (t_cmp (op_neD hu64) sd_ne (o_b (pv 2)) (o_g (d_fz (o_lst l_nil))) (nomark _)) (w_and1 (t_cmp (op_eqD hu64) sd_eq (o_b (pv 4)) (o_g d_int) (nomark _)))))
      (ss_one (s_set (i := 5) sc.nd rfl (by first | exact Or.inl rfl | exact Or.inr rfl) (d_bin op_addD sd_add (o_g (d_sl (o_b (pv 5)) p_no (p_so d_int))) (o_g (d_ix (o_b (pv 2)) (o_g (d_call tk G__law_next (hr.mono (by omega)) (by rfl) T.g__law_next T.F__law_next.kp T.b__law_next (as_cons (a_s (pv 0)) (as_cons (a_g (d_b1 call_len sb_len (by rfl) T.m_len PySem.boot_len (o_b (pv 2)))) as_nil)))))))))
      ss_nil)))
      (ss_one (s_if (t_cmp (op_notInAll hu65) sd_notIn (o_b (pv 5)) (o_b (pv 2)) (by rfl))
      (ss_one (s_mut PySem.F.slot_list_append PySem.F.type_list_append mt_append mu_app (pv 2) (d_v (pv 5))))
      ss_nil))))))
      (ss_one (s_ret (d_v (pv 2))))))
end K65
end
section
set_option Elab.async false
set_option linter.all false
set_option maxRecDepth 100000
namespace K65
open PySem PySem.Spec L2 DL
set_option maxHeartbeats 4000000 in
theorem ok__law_rests {P : Program} {w : World} {K : PySem.W.Frag} {mg : Str → Option Value} {base : Heap} (T : Txt K mg) : FnOk P w K mg base (L2.CX P w) 1 T.a__law_rests T.fd__law_rests ["rows", "rest"] (spF K (clM mg) 2 (F__law_rests)) := by
  refine def_ok2 (g := g__law_rests) (n := 4) (m := 2) T.F__law_rests sc__law_rests rfl rfl rfl (by decide) (fun cdv A outer s H E hr => ?_)
  have hp := passes_of (X := bx P w K mg base ["rows", "rest", "found", "row"] "_law_rests" s__law_rests T.a__law_rests cdv A outer s H E) rfl
  have tk : Takes (bx P w K mg base ["rows", "rest", "found", "row"] "_law_rests" s__law_rests T.a__law_rests cdv A outer s H E) (WF E) := takes_of rfl rfl rfl rfl
  obtain ⟨hu1, hu64, hu65, hu200⟩ := room_un hr
  have sc := sc__law_rests
  unfold g__law_rests
  exact (ss_cons (s_setO (i := 2) sc.nd rfl (by first | exact Or.inl rfl | exact Or.inr rfl) (o_lst l_nil))
      (ss_cons (s_for hp rfl (i_seq (d_v (pv 0))) (g_name (i := 3) sc.nd rfl (by first | exact Or.inl rfl | exact Or.inr rfl))
      (ss_cons (s_if (t_cmp (op_eqD hu64) sd_eq (o_g (d_sl (o_b (pv 3)) p_no (p_so (d_b1 call_len sb_len (by rfl) T.m_len PySem.boot_len (o_b (pv 1)))))) (o_b (pv 1)) (nomark _))
      (ss_one (s_mut PySem.F.slot_list_append PySem.F.type_list_append mt_append mu_app (pv 2) (d_sl (o_b (pv 3)) (p_so (d_b1 call_len sb_len (by rfl) T.m_len PySem.boot_len (o_b (pv 1)))) p_no)))
      ss_nil)
      (ss_one (s_if (t_cmp (op_eqD hu64) sd_eq (o_g (d_sl (o_b (pv 1)) p_no (p_so (d_b1 call_len sb_len (by rfl) T.m_len PySem.boot_len (o_b (pv 3)))))) (o_b (pv 3)) (nomark _))
      (ss_one (s_mut PySem.F.slot_list_append PySem.F.type_list_append mt_append mu_app (pv 2) (d_sl (o_b (pv 1)) (p_so (d_b1 call_len sb_len (by rfl) T.m_len PySem.boot_len (o_b (pv 3)))) p_no)))
      ss_nil))))
      (ss_one (s_ret (d_v (pv 2))))))
end K65
end
section
set_option Elab.async false
set_option linter.all false
set_option maxRecDepth 100000
namespace K65
open PySem PySem.Spec L2 DL
set_option maxHeartbeats 4000000 in
theorem ok__law_left_over {P : Program} {w : World} {K : PySem.W.Frag} {mg : Str → Option Value} {base : Heap} (T : Txt K mg) : FnOk P w K mg base (L2.CX P w) 2 T.a__law_left_over T.fd__law_left_over ["rows"] (spF K (clM mg) 1 (F__law_left_over)) := by
  have G__law_rests := ok__law_rests (P := P) (w := w) (base := base) T
  refine def_ok2 (g := g__law_left_over) (n := 7) (m := 1) T.F__law_left_over sc__law_left_over rfl rfl rfl (by decide) (fun cdv A outer s H E hr => ?_)
  have hp := passes_of (X := bx P w K mg base ["rows", "found", "behind", "one", "made", "rest", "other"] "_law_left_over" s__law_left_over T.a__law_left_over cdv A outer s H E) rfl
  have tk : Takes (bx P w K mg base ["rows", "found", "behind", "one", "made", "rest", "other"] "_law_left_over" s__law_left_over T.a__law_left_over cdv A outer s H E) (WF E) := takes_of rfl rfl rfl rfl
  obtain ⟨hu1, hu64, hu65, hu200⟩ := room_un hr
  have sc := sc__law_left_over
  unfold g__law_left_over
  exact (ss_cons (s_setO (i := 1) sc.nd rfl (by first | exact Or.inl rfl | exact Or.inr rfl) (o_lst l_nil))
      (ss_cons (s_setO (i := 2) sc.nd rfl (by first | exact Or.inl rfl | exact Or.inr rfl) (o_lst l_nil))
      (ss_cons (s_for hp rfl (i_seq (d_v (pv 0))) (g_name (i := 3) sc.nd rfl (by first | exact Or.inl rfl | exact Or.inr rfl))
      (ss_one (s_setO (i := 2) sc.nd rfl (by first | exact Or.inl rfl | exact Or.inr rfl) (o_bin op_cat so_cat (o_b (pv 2)) (o_g (d_fz (o_lc rfl sc.nd (i_seq (d_v (pv 0))) (blkOk_by (own := [("other", 6)]) (N := ["rows", "found", "behind", "one", "made", "rest", "other"]) (sc := defScope s__law_left_over) (by decide +kernel)) (fun _ _ _ _ _ => (g_name (i := 6) sc.nd rfl (by first | exact Or.inl rfl | exact Or.inr rfl))) (fun _ _ _ _ _ => (c_one (PW.pt (w_and (t_cmp (op_neD hu64) sd_ne (o_b (pv 6)) (o_b (pv 3)) (nomark _)) (w_and1 (t_cmp (op_eqD hu64) sd_eq (o_g (d_sl (o_b (pv 6)) p_no (p_so (d_b1 call_len sb_len (by rfl) T.m_len PySem.boot_len (o_b (pv 3)))))) (o_b (pv 3)) (nomark _))))))) (fun _ _ _ _ _ => (d_sl (o_b (pv 6)) (p_so (d_b1 call_len sb_len (by rfl) T.m_len PySem.boot_len (o_b (pv 3)))) p_no)))))))))
      (ss_cons (s_while 100000 hp (t_cmp (op_neD hu64) sd_ne (o_g (d_fz (o_lc rfl sc.nd (i_seq (d_v (pv 2))) (blkOk_by (own := [("rest", 5)]) (N := ["rows", "found", "behind", "one", "made", "rest", "other"]) (sc := defScope s__law_left_over) (by decide +kernel)) (fun _ _ _ _ _ => (g_name (i := 5) sc.nd rfl (by first | exact Or.inl rfl | exact Or.inr rfl))) (fun _ _ _ _ _ => (c_one (t_cmp (op_notInAll hu65) sd_notIn (o_b (pv 5)) (o_b (pv 1)) (by rfl)))) (fun _ _ _ _ _ => (d_v (pv 5)))))) (o_g (d_fz (o_lst l_nil))) (nomark _))
      (ss_cons (s_setO (i := 1) sc.nd rfl (by first | exact Or.inl rfl | exact Or.inr rfl) (o_bin op_cat so_cat (o_b (pv 1)) (o_g (d_fz (o_lc rfl sc.nd (i_seq (d_v (pv 2))) (blkOk_by (own := [("rest", 5)]) (N := ["rows", "found", "behind", "one", "made", "rest", "other"]) (sc := defScope s__law_left_over) (by decide +kernel)) (fun _ _ _ _ _ => (g_name (i := 5) sc.nd rfl (by first | exact Or.inl rfl | exact Or.inr rfl))) (fun _ _ _ _ _ => (c_one (t_cmp (op_notInAll hu65) sd_notIn (o_b (pv 5)) (o_b (pv 1)) (by rfl)))) (fun _ _ _ _ _ => (d_v (pv 5))))))))
      (ss_cons (s_setO (i := 4) sc.nd rfl (by first | exact Or.inl rfl | exact Or.inr rfl) (o_lst l_nil))
      (ss_cons (s_for hp rfl (i_seq (d_v (pv 2))) (g_name (i := 5) sc.nd rfl (by first | exact Or.inl rfl | exact Or.inr rfl))
      (ss_one (s_setO (i := 4) sc.nd rfl (by first | exact Or.inl rfl | exact Or.inr rfl) (o_bin op_cat so_cat (o_b (pv 4)) (o_g (d_ifx (t_cmp (op_neD hu64) sd_ne (o_b (pv 5)) (o_g d_str) (nomark _)) (d_call tk G__law_rests (hr.mono (by omega)) (by rfl) T.g__law_rests T.F__law_rests.kp T.b__law_rests (as_cons (a_g (d_v (pv 0))) (as_cons (a_g (d_v (pv 5))) as_nil))) (d_fz (o_lst l_nil))))))))
      (ss_one (s_setO (i := 2) sc.nd rfl (by first | exact Or.inl rfl | exact Or.inr rfl) (o_sortsetT rfl hu200 (by rfl) T.m_sorted (by rfl) T.m_set (o_b (pv 4)))))))))
      (ss_one (s_ret (d_fz (o_sortsetT rfl hu200 (by rfl) T.m_sorted (by rfl) T.m_set (o_b (pv 1))))))))))
end K65
end
section
set_option Elab.async false
set_option linter.all false
set_option maxRecDepth 100000
namespace K65
open PySem PySem.Spec L2 DL
set_option maxHeartbeats 4000000 in
theorem ok__law_ways_k {P : Program} {w : World} {K : PySem.W.Frag} {mg : Str → Option Value} {base : Heap} (T : Txt K mg) : ∀ k, FnOk P w K mg base (L2.CX P w) (k + 1) T.a__law_ways T.fd__law_ways ["rows", "text", "at", "known"] (spF K (clM mg) 4 (F__law_ways k))
  | 0 => def_no
  | k + 1 => by
    have G__law_ways := ok__law_ways_k (P := P) (w := w) (base := base) T k
    refine def_ok2 (g := g__law_ways (F__law_ways k)) (n := 7) (m := 4) T.F__law_ways sc__law_ways rfl rfl rfl (by decide) (fun cdv A outer s H E hr => ?_)
    have hp := passes_of (X := bx P w K mg base ["rows", "text", "at", "known", "found", "k", "way"] "_law_ways" s__law_ways T.a__law_ways cdv A outer s H E) rfl
    have tk : Takes (bx P w K mg base ["rows", "text", "at", "known", "found", "k", "way"] "_law_ways" s__law_ways T.a__law_ways cdv A outer s H E) (WF E) := takes_of rfl rfl rfl rfl
    obtain ⟨hu1, hu64, hu65, hu200⟩ := room_un hr
    have sc := sc__law_ways
    unfold g__law_ways
    exact (ss_cons (s_if (t_dnin hu1 (d_v (pv 2)) (pv 3))
      (ss_cons (s_set (i := 4) sc.nd rfl (by first | exact Or.inl rfl | exact Or.inr rfl) (d_ifx (t_cmp (op_eqD hu64) sd_eq (o_b (pv 2)) (o_g (d_b1 call_len sb_len (by rfl) T.m_len PySem.boot_len (o_b (pv 1)))) (nomark _)) (d_fz (o_lst (l_cons (d_tup l_nil) l_nil))) (d_fz (o_lst l_nil))))
      (ss_cons (s_for hp rfl (i_range1 (by rfl) T.m_range (o_g (d_b1 call_len sb_len (by rfl) T.m_len PySem.boot_len (o_b (pv 0))))) (g_name (i := 5) sc.nd rfl (by first | exact Or.inl rfl | exact Or.inr rfl))
      (ss_one (s_if (t_cmp (op_eqD hu64) sd_eq (o_g (d_sl (o_b (pv 1)) (p_so (d_v (pv 2))) (p_so (d_bin op_addD sd_add (o_b (pv 2)) (o_g (d_b1 call_len sb_len (by rfl) T.m_len PySem.boot_len (o_g (d_ix (o_b (pv 0)) (o_b (pv 5)))))))))) (o_g (d_ix (o_b (pv 0)) (o_b (pv 5)))) (nomark _))
      (ss_one (s_setO (i := 4) sc.nd rfl (by first | exact Or.inl rfl | exact Or.inr rfl) (o_bin op_cat so_cat (o_b (pv 4)) (o_g (d_fz (o_lc rfl sc.nd (i_seq (d_call tk G__law_ways (hr.mono (by omega)) (by rfl) T.g__law_ways T.F__law_ways.kp T.b__law_ways (as_cons (a_g (d_v (pv 0))) (as_cons (a_g (d_v (pv 1))) (as_cons (a_g (d_bin op_addD sd_add (o_b (pv 2)) (o_g (d_b1 call_len sb_len (by rfl) T.m_len PySem.boot_len (o_g (d_ix (o_b (pv 0)) (o_b (pv 5)))))))) (as_cons (a_s (pv 3)) as_nil)))))) (blkOk_by (own := [("way", 6)]) (N := ["rows", "text", "at", "known", "found", "k", "way"]) (sc := defScope s__law_ways) (by decide +kernel)) (fun _ _ _ _ _ => (g_name (i := 6) sc.nd rfl (by first | exact Or.inl rfl | exact Or.inr rfl))) (fun _ _ _ _ _ => c_nil) (fun _ _ _ _ _ => (d_bin op_addD sd_add (o_g (d_tup (l_cons (d_v (pv 5)) l_nil))) (o_b (pv 6))))))))))
      ss_nil)))
      (ss_one (s_dput hu1 (pv 3) (d_v (pv 2)) (d_fz (o_sl (o_g (d_fz (o_b1 (cr_sortedE hu200) sc_sortedE (by rfl) T.m_sorted PyProof.Rows.boot_sorted (o_b (pv 4))))) p_no (p_so d_int)))))))
      ss_nil)
      (ss_one (s_ret (d_dget hu1 (pv 3) (d_v (pv 2))))))
theorem ok__law_ways {P : Program} {w : World} {K : PySem.W.Frag} {mg : Str → Option Value} {base : Heap} (T : Txt K mg) : FnOk P w K mg base (L2.CX P w) 229 T.a__law_ways T.fd__law_ways ["rows", "text", "at", "known"] (spF K (clM mg) 4 (F__law_ways 228)) := ok__law_ways_k T 228
end K65
end
section
set_option Elab.async false
set_option linter.all false
set_option maxRecDepth 100000
namespace K65
open PySem PySem.Spec L2 DL
set_option maxHeartbeats 4000000 in
theorem ok__law_least_double {P : Program} {w : World} {K : PySem.W.Frag} {mg : Str → Option Value} {base : Heap} (T : Txt K mg) : FnOk P w K mg base (L2.CX P w) 1 T.a__law_least_double T.fd__law_least_double ["rows"] (spF K (clM mg) 1 (F__law_least_double)) := by
  refine def_ok2 (g := g__law_least_double) (n := 10) (m := 1) T.F__law_least_double sc__law_least_double rfl rfl rfl (by decide) (fun cdv A outer s H E hr => ?_)
  have hp := passes_of (X := bx P w K mg base ["rows", "best", "front", "one", "size", "text", "rest", "row", "other", "each"] "_law_least_double" s__law_least_double T.a__law_least_double cdv A outer s H E) rfl
  have tk : Takes (bx P w K mg base ["rows", "best", "front", "one", "size", "text", "rest", "row", "other", "each"] "_law_least_double" s__law_least_double T.a__law_least_double cdv A outer s H E) (WF E) := takes_of rfl rfl rfl rfl
  obtain ⟨hu1, hu64, hu65, hu200⟩ := room_un hr
  have sc := sc__law_least_double
  unfold g__law_least_double
  exact (ss_cons (s_setO (i := 1) sc.nd rfl (by first | exact Or.inl rfl | exact Or.inr rfl) o_newK)
      (ss_cons (s_setO (i := 2) sc.nd rfl (by first | exact Or.inl rfl | exact Or.inr rfl) (o_lst l_nil))
      (ss_cons (s_for hp rfl (i_seq (d_v (pv 0))) (g_name (i := 3) sc.nd rfl (by first | exact Or.inl rfl | exact Or.inr rfl))
      (ss_one (s_setO (i := 2) sc.nd rfl (by first | exact Or.inl rfl | exact Or.inr rfl) (o_bin op_cat so_cat (o_b (pv 2)) (o_g (d_fz (o_lc rfl sc.nd (i_seq (d_v (pv 0))) (blkOk_by (own := [("other", 8)]) (N := ["rows", "best", "front", "one", "size", "text", "rest", "row", "other", "each"]) (sc := defScope s__law_least_double) (by decide +kernel)) (fun _ _ _ _ _ => (g_name (i := 8) sc.nd rfl (by first | exact Or.inl rfl | exact Or.inr rfl))) (fun _ _ _ _ _ => (c_one (PW.pt (w_and (t_cmp (op_neD hu64) sd_ne (o_b (pv 8)) (o_b (pv 3)) (nomark _)) (w_and1 (t_cmp (op_eqD hu64) sd_eq (o_g (d_sl (o_b (pv 8)) p_no (p_so (d_b1 call_len sb_len (by rfl) T.m_len PySem.boot_len (o_b (pv 3)))))) (o_b (pv 3)) (nomark _))))))) (fun _ _ _ _ _ => (d_tup (l_cons (d_b1 call_len sb_len (by rfl) T.m_len PySem.boot_len (o_b (pv 8))) (l_cons (d_v (pv 8)) (l_cons (d_sl (o_b (pv 8)) (p_so (d_b1 call_len sb_len (by rfl) T.m_len PySem.boot_len (o_b (pv 3)))) p_no) l_nil))))))))))))
      (ss_cons (s_while 100000 hp (t_cmp (op_neD hu64) sd_ne (o_b (pv 2)) (o_g (d_fz (o_lst l_nil))) (nomark _))
      (ss_cons (s_asg (d_b1 (cr_minLD rfl hu200) sb_minLD (by rfl) T.m_min PyProof.Rows.boot_min (o_b (pv 2))) (g_tup rfl (gs_cons (g_name (i := 4) sc.nd rfl (by first | exact Or.inl rfl | exact Or.inr rfl)) (gs_cons (g_name (i := 5) sc.nd rfl (by first | exact Or.inl rfl | exact Or.inr rfl)) (gs_cons (g_name (i := 6) sc.nd rfl (by first | exact Or.inl rfl | exact Or.inr rfl)) gs_nil)))))
      (ss_cons (s_setLc (i := 2) rfl sc.nd rfl rfl (sw_true rfl rfl rfl (by decide +kernel)) (i_seq (d_v (pv 2))) (blkOk_by (own := [("each", 9)]) (N := ["rows", "best", "front", "one", "size", "text", "rest", "row", "other", "each"]) (sc := defScope s__law_least_double) (by decide +kernel)) (fun _ _ _ _ _ => (g_name (i := 9) sc.nd rfl (by first | exact Or.inl rfl | exact Or.inr rfl))) (fun _ _ _ _ _ => (c_one (t_cmp (op_neD hu64) sd_ne (o_b (pv 9)) (o_g (d_tup (l_cons (d_v (pv 4)) (l_cons (d_v (pv 5)) (l_cons (d_v (pv 6)) l_nil))))) (nomark _)))) (fun _ _ _ _ _ => (d_v (pv 9))))
      (ss_cons (s_if (t_cmp (op_eqD hu64) sd_eq (o_b (pv 6)) (o_g d_str) (nomark _))
      (ss_one (s_ret (d_v (pv 5))))
      ss_nil)
      (ss_one (s_if (t_dnin hu1 (d_v (pv 6)) (pv 1))
      (ss_cons (s_dput hu1 (pv 1) (d_v (pv 6)) (d_v (pv 5)))
      (ss_one (s_for hp rfl (i_seq (d_v (pv 0))) (g_name (i := 7) sc.nd rfl (by first | exact Or.inl rfl | exact Or.inr rfl))
      (ss_one (s_if (t_cmp (op_eqD hu64) sd_eq (o_g (d_sl (o_b (pv 6)) p_no (p_so (d_b1 call_len sb_len (by rfl) T.m_len PySem.boot_len (o_b (pv 7)))))) (o_b (pv 7)) (nomark _))
      (ss_one (s_mut PySem.F.slot_list_append PySem.F.type_list_append mt_append mu_app (pv 2) (d_tup (l_cons (d_v (pv 4)) (l_cons (d_v (pv 5)) (l_cons (d_sl (o_b (pv 6)) (p_so (d_b1 call_len sb_len (by rfl) T.m_len PySem.boot_len (o_b (pv 7)))) p_no) l_nil))))))
      (ss_one (s_if (t_cmp (op_eqD hu64) sd_eq (o_g (d_sl (o_b (pv 7)) p_no (p_so (d_b1 call_len sb_len (by rfl) T.m_len PySem.boot_len (o_b (pv 6)))))) (o_b (pv 6)) (nomark _))
      (ss_one (s_mut PySem.F.slot_list_append PySem.F.type_list_append mt_append mu_app (pv 2) (d_tup (l_cons (d_bin op_sub sd_sub (o_g (d_bin op_addD sd_add (o_b (pv 4)) (o_g (d_b1 call_len sb_len (by rfl) T.m_len PySem.boot_len (o_b (pv 7)))))) (o_g (d_b1 call_len sb_len (by rfl) T.m_len PySem.boot_len (o_b (pv 6))))) (l_cons (d_bin op_addD sd_add (o_b (pv 5)) (o_g (d_sl (o_b (pv 7)) (p_so (d_b1 call_len sb_len (by rfl) T.m_len PySem.boot_len (o_b (pv 6)))) p_no))) (l_cons (d_sl (o_b (pv 7)) (p_so (d_b1 call_len sb_len (by rfl) T.m_len PySem.boot_len (o_b (pv 6)))) p_no) l_nil))))))
      ss_nil)))))))
      ss_nil))))))
      (ss_one (s_ret d_non))))))
end K65
end
section
set_option Elab.async false
set_option linter.all false
set_option maxRecDepth 100000
namespace K65
open PySem PySem.Spec L2 DL
set_option maxHeartbeats 4000000 in
theorem ok__law_longer {P : Program} {w : World} {K : PySem.W.Frag} {mg : Str → Option Value} {base : Heap} (T : Txt K mg) : FnOk P w K mg base (L2.CX P w) 1 T.a__law_longer T.fd__law_longer ["front", "signs"] (spF K (clM mg) 2 (F__law_longer)) := by
  refine def_ok2 (g := g__law_longer) (n := 5) (m := 2) T.F__law_longer sc__law_longer rfl rfl rfl (by decide) (fun cdv A outer s H E hr => ?_)
  have hp := passes_of (X := bx P w K mg base ["front", "signs", "found", "row", "sign"] "_law_longer" s__law_longer T.a__law_longer cdv A outer s H E) rfl
  have tk : Takes (bx P w K mg base ["front", "signs", "found", "row", "sign"] "_law_longer" s__law_longer T.a__law_longer cdv A outer s H E) (WF E) := takes_of rfl rfl rfl rfl
  obtain ⟨hu1, hu64, hu65, hu200⟩ := room_un hr
  have sc := sc__law_longer
  unfold g__law_longer
  exact (ss_cons (s_setO (i := 2) sc.nd rfl (by first | exact Or.inl rfl | exact Or.inr rfl) (o_lst l_nil))
      (ss_cons (s_for hp rfl (i_seq (d_v (pv 0))) (g_name (i := 3) sc.nd rfl (by first | exact Or.inl rfl | exact Or.inr rfl))
      (ss_one (s_setO (i := 2) sc.nd rfl (by first | exact Or.inl rfl | exact Or.inr rfl) (o_bin op_cat so_cat (o_b (pv 2)) (o_g (d_fz (o_lc rfl sc.nd (i_seq (d_v (pv 1))) (blkOk_by (own := [("sign", 4)]) (N := ["front", "signs", "found", "row", "sign"]) (sc := defScope s__law_longer) (by decide +kernel)) (fun _ _ _ _ _ => (g_name (i := 4) sc.nd rfl (by first | exact Or.inl rfl | exact Or.inr rfl))) (fun _ _ _ _ _ => c_nil) (fun _ _ _ _ _ => (d_bin op_addD sd_add (o_b (pv 3)) (o_b (pv 4)))))))))))
      (ss_one (s_ret (d_v (pv 2))))))
end K65
end
section
set_option Elab.async false
set_option linter.all false
set_option maxRecDepth 100000
namespace K65
open PySem PySem.Spec L2 DL
set_option maxHeartbeats 4000000 in
theorem ok__law_no_lesser {P : Program} {w : World} {K : PySem.W.Frag} {mg : Str → Option Value} {base : Heap} (T : Txt K mg) : FnOk P w K mg base (L2.CX P w) 230 T.a__law_no_lesser T.fd__law_no_lesser ["rows", "text", "signs"] (spF K (clM mg) 3 (F__law_no_lesser)) := by
  have G__law_ways := ok__law_ways (P := P) (w := w) (base := base) T
  have G__law_longer := ok__law_longer (P := P) (w := w) (base := base) T
  refine def_ok2 (g := g__law_no_lesser) (n := 6) (m := 3) T.F__law_no_lesser sc__law_no_lesser rfl rfl rfl (by decide) (fun cdv A outer s H E hr => ?_)
  have hp := passes_of (X := bx P w K mg base ["rows", "text", "signs", "front", "size", "row"] "_law_no_lesser" s__law_no_lesser T.a__law_no_lesser cdv A outer s H E) rfl
  have tk : Takes (bx P w K mg base ["rows", "text", "signs", "front", "size", "row"] "_law_no_lesser" s__law_no_lesser T.a__law_no_lesser cdv A outer s H E) (WF E) := takes_of rfl rfl rfl rfl
  obtain ⟨hu1, hu64, hu65, hu200⟩ := room_un hr
  have sc := sc__law_no_lesser
  unfold g__law_no_lesser
  exact (ss_cons (s_setO (i := 3) sc.nd rfl (by first | exact Or.inl rfl | exact Or.inr rfl) (o_lst (l_cons d_str l_nil)))
      (ss_cons (s_for hp rfl (i_range1 (by rfl) T.m_range (o_g (d_b2 (call_min2 rfl) sb_min (by rfl) T.m_min PyProof.Rows.boot_min (o_g (d_bin op_addD sd_add (o_g (d_b1 call_len sb_len (by rfl) T.m_len PySem.boot_len (o_b (pv 1)))) (o_g d_int))) (o_g d_int)))) (g_name (i := 4) sc.nd rfl (by first | exact Or.inl rfl | exact Or.inr rfl))
      (ss_cons (s_for hp rfl (i_seq (d_v (pv 3))) (g_name (i := 5) sc.nd rfl (by first | exact Or.inl rfl | exact Or.inr rfl))
      (ss_one (s_if (PW.pt (w_and (t_cmp (op_ltDD hu200) sd_ltDD (o_g (d_tup (l_cons (d_b1 call_len sb_len (by rfl) T.m_len PySem.boot_len (o_b (pv 5))) (l_cons (d_v (pv 5)) l_nil)))) (o_g (d_tup (l_cons (d_b1 call_len sb_len (by rfl) T.m_len PySem.boot_len (o_b (pv 1))) (l_cons (d_v (pv 1)) l_nil)))) (nomark _)) (w_and1 (t_cmp op_gt (sd_cmpI _) (o_g (d_b1 call_len sb_len (by rfl) T.m_len PySem.boot_len (o_g (d_callO tk G__law_ways (hr.mono (by omega)) (by rfl) T.g__law_ways T.F__law_ways.kp T.b__law_ways (ao_cons (a_g (d_v (pv 0))) (ao_cons (a_g (d_v (pv 5))) (ao_cons (a_g d_int) (ao_last o_newK)))))))) (o_g d_int) (nomark _)))))
      (ss_one (s_ret d_bl))
      ss_nil)))
      (ss_one (s_set (i := 3) sc.nd rfl (by first | exact Or.inl rfl | exact Or.inr rfl) (d_call tk G__law_longer (hr.mono (by omega)) (by rfl) T.g__law_longer T.F__law_longer.kp T.b__law_longer (as_cons (a_g (d_v (pv 3))) (as_cons (a_g (d_v (pv 2))) as_nil)))))))
      (ss_one (s_ret d_bl))))
end K65
end
section
set_option Elab.async false
set_option linter.all false
set_option maxRecDepth 100000
namespace K65
open PySem PySem.Spec L2 DL
set_option maxHeartbeats 4000000 in
theorem ok__law_is_number {P : Program} {w : World} {K : PySem.W.Frag} {mg : Str → Option Value} {base : Heap} (T : Txt K mg) : FnOk P w K mg base (L2.CX P w) 1 T.a__law_is_number T.fd__law_is_number ["value", "limit"] (spF K (clM mg) 2 (F__law_is_number)) := by
  refine def_ok2 (g := g__law_is_number) (n := 2) (m := 2) T.F__law_is_number sc__law_is_number rfl rfl rfl (by decide) (fun cdv A outer s H E hr => ?_)
  have hp := passes_of (X := bx P w K mg base ["value", "limit"] "_law_is_number" s__law_is_number T.a__law_is_number cdv A outer s H E) rfl
  have tk : Takes (bx P w K mg base ["value", "limit"] "_law_is_number" s__law_is_number T.a__law_is_number cdv A outer s H E) (WF E) := takes_of rfl rfl rfl rfl
  obtain ⟨hu1, hu64, hu65, hu200⟩ := room_un hr
  have sc := sc__law_is_number
  unfold g__law_is_number
  exact (ss_one (s_ret (d_and (d_isi kit_int (by rfl) T.m_isinstance (by rfl) T.m_int PyProof.Rows.boot_int (o_b (pv 0))) (d_and (d_not (d_isi kit_bool (by rfl) T.m_isinstance (by rfl) T.m_bool PyProof.Rows.boot_bool (o_b (pv 0)))) (d_one (d_chain op_le (sd_cmpI _) op_lt (sd_cmpI _) (o_g d_int) (o_b (pv 0)) (o_b (pv 1))))))))
end K65
end
section
set_option Elab.async false
set_option linter.all false
set_option maxRecDepth 100000
namespace K65
open PySem PySem.Spec L2 DL
set_option maxHeartbeats 4000000 in
theorem ok__law_accepts {P : Program} {w : World} {K : PySem.W.Frag} {mg : Str → Option Value} {base : Heap} (T : Txt K mg) : FnOk P w K mg base (L2.CX P w) 2 T.a__law_accepts T.fd__law_accepts ["rows", "told"] (spF K (clM mg) 2 (F__law_accepts)) := by
  have G__law_is_number := ok__law_is_number (P := P) (w := w) (base := base) T
  have G__law_rests := ok__law_rests (P := P) (w := w) (base := base) T
  refine def_ok2 (g := g__law_accepts) (n := 9) (m := 2) T.F__law_accepts sc__law_accepts rfl rfl rfl (by decide) (fun cdv A outer s H E hr => ?_)
  have hp := passes_of (X := bx P w K mg base ["rows", "told", "way", "texts", "due", "one", "rest", "number", "other"] "_law_accepts" s__law_accepts T.a__law_accepts cdv A outer s H E) rfl
  have tk : Takes (bx P w K mg base ["rows", "told", "way", "texts", "due", "one", "rest", "number", "other"] "_law_accepts" s__law_accepts T.a__law_accepts cdv A outer s H E) (WF E) := takes_of rfl rfl rfl rfl
  obtain ⟨hu1, hu64, hu65, hu200⟩ := room_un hr
  have sc := sc__law_accepts
  unfold g__law_accepts
  exact (ss_cons (s_if (PW.pt (w_or (t_not (t_tru (o_g (d_isi kit_tuple (by rfl) T.m_isinstance (by rfl) T.m_tuple PyProof.Rows.boot_tuple (o_b (pv 1)))))) (w_or (t_cmp (op_neD hu64) sd_ne (o_g (d_b1 call_len sb_len (by rfl) T.m_len PySem.boot_len (o_b (pv 1)))) (o_g d_int) (nomark _)) (w_or (t_cmp (op_notInAll hu65) sd_notIn (o_g (d_ix (o_b (pv 1)) (o_g d_int))) (o_g (d_fz (o_lst (l_cons d_str (l_cons d_str l_nil))))) (by rfl)) (w_or1 (t_not (t_tru (o_g (d_isi kit_tuple (by rfl) T.m_isinstance (by rfl) T.m_tuple PyProof.Rows.boot_tuple (o_g (d_ix (o_b (pv 1)) (o_g d_int))))))))))))
      (ss_one (s_ret d_bl))
      ss_nil)
      (ss_cons (s_if (t_cmp (op_eqD hu64) sd_eq (o_g (d_ix (o_b (pv 1)) (o_g d_int))) (o_g d_str) (nomark _))
      (ss_cons (s_if (PW.pt (w_or (t_cmp (op_neD hu64) sd_ne (o_g (d_b1 call_len sb_len (by rfl) T.m_len PySem.boot_len (o_g (d_ix (o_b (pv 1)) (o_g d_int))))) (o_g d_int) (nomark _)) (w_or1 (t_cmp (op_neD hu64) sd_ne (o_g (d_fz (o_lc rfl sc.nd (i_seq (d_ix (o_b (pv 1)) (o_g d_int))) (blkOk_by (own := [("way", 2)]) (N := ["rows", "told", "way", "texts", "due", "one", "rest", "number", "other"]) (sc := defScope s__law_accepts) (by decide +kernel)) (fun _ _ _ _ _ => (g_name (i := 2) sc.nd rfl (by first | exact Or.inl rfl | exact Or.inr rfl))) (fun _ _ _ _ _ => (c_one (t_not (t_tru (o_g (d_isi kit_tuple (by rfl) T.m_isinstance (by rfl) T.m_tuple PyProof.Rows.boot_tuple (o_b (pv 2)))))))) (fun _ _ _ _ _ => (d_v (pv 2)))))) (o_g (d_fz (o_lst l_nil))) (nomark _)))))
      (ss_one (s_ret d_bl))
      ss_nil)
      (ss_cons (s_for hp rfl (i_seq (d_ix (o_b (pv 1)) (o_g d_int))) (g_name (i := 2) sc.nd rfl (by first | exact Or.inl rfl | exact Or.inr rfl))
      (ss_one (s_if (t_cmp (op_neD hu64) sd_ne (o_g (d_fz (o_lc rfl sc.nd (i_seq (d_v (pv 2))) (blkOk_by (own := [("number", 7)]) (N := ["rows", "told", "way", "texts", "due", "one", "rest", "number", "other"]) (sc := defScope s__law_accepts) (by decide +kernel)) (fun _ _ _ _ _ => (g_name (i := 7) sc.nd rfl (by first | exact Or.inl rfl | exact Or.inr rfl))) (fun _ _ _ _ _ => (c_one (t_not (t_tru (o_g (d_call takes0 G__law_is_number (hr.mono (by omega)) (by rfl) T.g__law_is_number T.F__law_is_number.kp T.b__law_is_number (as_cons (a_g (d_v (pv 7))) (as_cons (a_g (d_b1 call_len sb_len (by rfl) T.m_len PySem.boot_len (o_b (pv 0)))) as_nil)))))))) (fun _ _ _ _ _ => (d_v (pv 7)))))) (o_g (d_fz (o_lst l_nil))) (nomark _))
      (ss_one (s_ret d_bl))
      ss_nil)))
      (ss_cons (s_setLc (i := 3) rfl sc.nd rfl rfl (sw_true rfl rfl rfl (by decide +kernel)) (i_seq (d_ix (o_b (pv 1)) (o_g d_int))) (blkOk_by (own := [("way", 2)]) (N := ["rows", "told", "way", "texts", "due", "one", "rest", "number", "other"]) (sc := defScope s__law_accepts) (by decide +kernel)) (fun _ _ _ _ _ => (g_name (i := 2) sc.nd rfl (by first | exact Or.inl rfl | exact Or.inr rfl))) (fun _ _ _ _ _ => c_nil) (fun _ _ _ _ _ => (d_join d_str (o_g (d_fz (o_lc rfl sc.nd (i_seq (d_v (pv 2))) (blkOk_by (own := [("number", 7)]) (N := ["rows", "told", "way", "texts", "due", "one", "rest", "number", "other"]) (sc := (relS { kind := .function, names := [(Str.ofString ".0", .local), (Str.ofString "way", .local), (Str.ofString "rows", .free)], isGenerator := false, isCoroutine := false } (defScope s__law_accepts))) (by decide +kernel)) (fun _ _ _ _ _ => (g_name (i := 7) sc.nd rfl (by first | exact Or.inl rfl | exact Or.inr rfl))) (fun _ _ _ _ _ => c_nil) (fun _ _ _ _ _ => (d_ix (o_b (pv 0)) (o_b (pv 7))))))))))
      (ss_one (s_ret (d_and (d_cmp (op_eqD hu64) sd_eq (o_g (d_ix (o_b (pv 3)) (o_g d_int))) (o_g (d_ix (o_b (pv 3)) (o_g d_int))) (nomark _)) (d_one (d_cmp (op_neD hu64) sd_ne (o_g (d_ix (o_g (d_ix (o_b (pv 1)) (o_g d_int))) (o_g d_int))) (o_g (d_ix (o_g (d_ix (o_b (pv 1)) (o_g d_int))) (o_g d_int))) (nomark _)))))))))
      ss_nil)
      (ss_cons (s_if (t_cmp (op_neD hu64) sd_ne (o_g (d_fz (o_lc rfl sc.nd (i_seq (d_ix (o_b (pv 1)) (o_g d_int))) (blkOk_by (own := [("rest", 6)]) (N := ["rows", "told", "way", "texts", "due", "one", "rest", "number", "other"]) (sc := defScope s__law_accepts) (by decide +kernel)) (fun _ _ _ _ _ => (g_name (i := 6) sc.nd rfl (by first | exact Or.inl rfl | exact Or.inr rfl))) (fun _ _ _ _ _ => (c_one (PW.pt (w_or (t_not (t_tru (o_g (d_isi kit_str (by rfl) T.m_isinstance (by rfl) T.m_str PyProof.Rows.boot_str (o_b (pv 6)))))) (w_or1 (t_cmp (op_eqD hu64) sd_eq (o_b (pv 6)) (o_g d_str) (nomark _))))))) (fun _ _ _ _ _ => (d_v (pv 6)))))) (o_g (d_fz (o_lst l_nil))) (nomark _))
      (ss_one (s_ret d_bl))
      ss_nil)
      (ss_cons (s_setO (i := 4) sc.nd rfl (by first | exact Or.inl rfl | exact Or.inr rfl) (o_lst l_nil))
      (ss_cons (s_for hp rfl (i_seq (d_v (pv 0))) (g_name (i := 5) sc.nd rfl (by first | exact Or.inl rfl | exact Or.inr rfl))
      (ss_one (s_setO (i := 4) sc.nd rfl (by first | exact Or.inl rfl | exact Or.inr rfl) (o_bin op_cat so_cat (o_b (pv 4)) (o_g (d_fz (o_lc rfl sc.nd (i_seq (d_v (pv 0))) (blkOk_by (own := [("other", 8)]) (N := ["rows", "told", "way", "texts", "due", "one", "rest", "number", "other"]) (sc := defScope s__law_accepts) (by decide +kernel)) (fun _ _ _ _ _ => (g_name (i := 8) sc.nd rfl (by first | exact Or.inl rfl | exact Or.inr rfl))) (fun _ _ _ _ _ => (c_one (PW.pt (w_and (t_cmp (op_neD hu64) sd_ne (o_b (pv 8)) (o_b (pv 5)) (nomark _)) (w_and1 (t_cmp (op_eqD hu64) sd_eq (o_g (d_sl (o_b (pv 8)) p_no (p_so (d_b1 call_len sb_len (by rfl) T.m_len PySem.boot_len (o_b (pv 5)))))) (o_b (pv 5)) (nomark _))))))) (fun _ _ _ _ _ => (d_sl (o_b (pv 8)) (p_so (d_b1 call_len sb_len (by rfl) T.m_len PySem.boot_len (o_b (pv 5)))) p_no)))))))))
      (ss_cons (s_for hp rfl (i_seq (d_ix (o_b (pv 1)) (o_g d_int))) (g_name (i := 6) sc.nd rfl (by first | exact Or.inl rfl | exact Or.inr rfl))
      (ss_one (s_setO (i := 4) sc.nd rfl (by first | exact Or.inl rfl | exact Or.inr rfl) (o_bin op_cat so_cat (o_b (pv 4)) (o_g (d_call tk G__law_rests (hr.mono (by omega)) (by rfl) T.g__law_rests T.F__law_rests.kp T.b__law_rests (as_cons (a_g (d_v (pv 0))) (as_cons (a_g (d_v (pv 6))) as_nil))))))))
      (ss_one (s_ret (d_cmp (op_eqD hu64) sd_eq (o_g (d_fz (o_lc rfl sc.nd (i_seq (d_v (pv 4))) (blkOk_by (own := [("rest", 6)]) (N := ["rows", "told", "way", "texts", "due", "one", "rest", "number", "other"]) (sc := defScope s__law_accepts) (by decide +kernel)) (fun _ _ _ _ _ => (g_name (i := 6) sc.nd rfl (by first | exact Or.inl rfl | exact Or.inr rfl))) (fun _ _ _ _ _ => (c_one (t_cmp (op_notInAll hu65) sd_notIn (o_b (pv 6)) (o_g (d_ix (o_b (pv 1)) (o_g d_int))) (by rfl)))) (fun _ _ _ _ _ => (d_v (pv 6)))))) (o_g (d_fz (o_lst l_nil))) (nomark _))))))))))
end K65
end
section
set_option Elab.async false
set_option linter.all false
set_option maxRecDepth 100000
namespace K65
open PySem PySem.Spec L2 DL
set_option maxHeartbeats 4000000 in
theorem ok__law_turned {P : Program} {w : World} {K : PySem.W.Frag} {mg : Str → Option Value} {base : Heap} (T : Txt K mg) : FnOk P w K mg base (L2.CX P w) 2 T.a__law_turned T.fd__law_turned ["state", "signs", "paper"] (spF K (clM mg) 3 (F__law_turned)) := by
  have G__law_next := ok__law_next (P := P) (w := w) (base := base) T
  refine def_ok2 (g := g__law_turned) (n := 5) (m := 3) T.F__law_turned sc__law_turned rfl rfl rfl (by decide) (fun cdv A outer s H E hr => ?_)
  have hp := passes_of (X := bx P w K mg base ["state", "signs", "paper", "pick", "k"] "_law_turned" s__law_turned T.a__law_turned cdv A outer s H E) rfl
  have tk : Takes (bx P w K mg base ["state", "signs", "paper", "pick", "k"] "_law_turned" s__law_turned T.a__law_turned cdv A outer s H E) (WF E) := takes_of rfl rfl rfl rfl
  obtain ⟨hu1, hu64, hu65, hu200⟩ := room_un hr
  have sc := sc__law_turned
  unfold g__law_turned
  exact (ss_cons (s_set (i := 3) sc.nd rfl (by first | exact Or.inl rfl | exact Or.inr rfl) (d_call tk G__law_next (hr.mono (by omega)) (by rfl) T.g__law_next T.F__law_next.kp T.b__law_next (as_cons (a_s (pv 0)) (as_cons (a_g d_int) as_nil))))
      (ss_cons (s_if (PW.pt (w_or (t_cmp (op_eqD hu64) sd_eq (o_b (pv 2)) (o_g (d_tup l_nil)) (nomark _)) (w_or1 (t_cmp (op_eqD hu64) sd_eq (o_b (pv 3)) (o_g d_int) (nomark _)))))
      (ss_one (s_ret (d_bin op_addD sd_add (o_b (pv 2)) (o_g (d_tup (l_cons (d_ix (o_g (d_fz (o_lst (l_cons (d_tup (l_cons d_int l_nil)) (l_cons d_str (l_cons (d_v (pv 1)) (l_cons d_int l_nil))))))) (o_g (d_call tk G__law_next (hr.mono (by omega)) (by rfl) T.g__law_next T.F__law_next.kp T.b__law_next (as_cons (a_s (pv 0)) (as_cons (a_g d_int) as_nil))))) l_nil))))))
      ss_nil)
      (ss_cons (s_set (i := 4) sc.nd rfl (by first | exact Or.inl rfl | exact Or.inr rfl) (d_call tk G__law_next (hr.mono (by omega)) (by rfl) T.g__law_next T.F__law_next.kp T.b__law_next (as_cons (a_s (pv 0)) (as_cons (a_g (d_b1 call_len sb_len (by rfl) T.m_len PySem.boot_len (o_b (pv 2)))) as_nil))))
      (ss_cons (s_if (t_cmp (op_eqD hu64) sd_eq (o_b (pv 3)) (o_g d_int) (nomark _))
      (ss_one (s_ret (d_bin op_addD sd_add (o_g (d_sl (o_b (pv 2)) p_no (p_so (d_v (pv 4))))) (o_g (d_sl (o_b (pv 2)) (p_so (d_bin op_addD sd_add (o_b (pv 4)) (o_g d_int))) p_no)))))
      ss_nil)
      (ss_cons (s_if (t_cmp (op_eqD hu64) sd_eq (o_b (pv 3)) (o_g d_int) (nomark _))
      (ss_one (s_ret (d_rev (o_b (pv 2)))))
      ss_nil)
      (ss_cons (s_if (t_tru (o_g (d_isi kit_tuple (by rfl) T.m_isinstance (by rfl) T.m_tuple PyProof.Rows.boot_tuple (o_g (d_ix (o_b (pv 2)) (o_b (pv 4)))))))
      (ss_one (s_ret (d_bin op_addD sd_add (o_g (d_bin op_addD sd_add (o_g (d_sl (o_b (pv 2)) p_no (p_so (d_v (pv 4))))) (o_g (d_tup (l_cons (d_ix (o_g (d_fz (o_lst (l_cons d_non (l_cons (d_bin op_addD sd_add (o_g (d_ix (o_b (pv 2)) (o_b (pv 4)))) (o_g (d_tup (l_cons d_int l_nil)))) (l_cons (d_sl (o_g (d_ix (o_b (pv 2)) (o_b (pv 4)))) (p_so d_int) p_no) (l_cons (d_bin op_addD sd_add (o_g (d_ix (o_b (pv 2)) (o_b (pv 4)))) (o_g (d_tup (l_cons d_int l_nil)))) l_nil))))))) (o_g (d_bin op_sub sd_sub (o_b (pv 3)) (o_g d_int)))) l_nil))))) (o_g (d_sl (o_b (pv 2)) (p_so (d_bin op_addD sd_add (o_b (pv 4)) (o_g d_int))) p_no)))))
      ss_nil)
      (ss_one (s_ret (d_bin op_addD sd_add (o_g (d_bin op_addD sd_add (o_g (d_sl (o_b (pv 2)) p_no (p_so (d_v (pv 4))))) (o_g (d_tup (l_cons (d_ix (o_g (d_fz (o_lst (l_cons (d_bin op_addD sd_add (o_g (d_ix (o_b (pv 2)) (o_b (pv 4)))) (o_g (d_ix (o_b (pv 1)) (o_g d_int)))) (l_cons (d_sl (o_g (d_ix (o_b (pv 2)) (o_b (pv 4)))) (p_so d_int) p_no) (l_cons d_int (l_cons d_non l_nil))))))) (o_g (d_bin op_sub sd_sub (o_b (pv 3)) (o_g d_int)))) l_nil))))) (o_g (d_sl (o_b (pv 2)) (p_so (d_bin op_addD sd_add (o_b (pv 4)) (o_g d_int))) p_no)))))))))))
end K65
end
section
set_option Elab.async false
set_option linter.all false
set_option maxRecDepth 100000
namespace K65
open PySem PySem.Spec L2 DL
set_option maxHeartbeats 4000000 in
theorem ok_law {P : Program} {w : World} {K : PySem.W.Frag} {mg : Str → Option Value} {base : Heap} (T : Txt K mg) (hlaw : ∀ ns : List Int, ns.length ≤ 63 → ∃ r, g_law ns (List.replicate 16 .un) = .ok (.rt (.bool true)) r) : FnOk P w K mg base (L2.CX P w) 231 T.a_law T.fd_law ["script"] (spLaw K) := by
  have G__law_signs := ok__law_signs (P := P) (w := w) (base := base) T
  have G__law_rows := ok__law_rows (P := P) (w := w) (base := base) T
  have G__law_left_over := ok__law_left_over (P := P) (w := w) (base := base) T
  have G__law_least_double := ok__law_least_double (P := P) (w := w) (base := base) T
  have G__law_no_lesser := ok__law_no_lesser (P := P) (w := w) (base := base) T
  have G__law_ways := ok__law_ways (P := P) (w := w) (base := base) T
  have G_code := ok_code (P := P) (w := w) (base := base) T
  have G__law_same := ok__law_same (P := P) (w := w) (base := base) T
  have G_judge_code := ok_judge_code (P := P) (w := w) (base := base) T
  have G_remainders := ok_remainders (P := P) (w := w) (base := base) T
  have G__law_turned := ok__law_turned (P := P) (w := w) (base := base) T
  have G__law_accepts := ok__law_accepts (P := P) (w := w) (base := base) T
  refine law_ok (cl := clM mg) (g := g_law) (n := 16) T.F_law sc_law rfl (by decide) (fun cdv A outer s H E hr ns => ?_) hlaw
  have hp := passes_of (X := bx P w K mg base ["script", "state", "turn", "signs", "rows", "rests", "double", "due", "handed", "told", "asks", "ends", "row", "k", "asked", "end"] "law" s_law T.a_law cdv A outer s H E) rfl
  have tk : Takes (bx P w K mg base ["script", "state", "turn", "signs", "rows", "rests", "double", "due", "handed", "told", "asks", "ends", "row", "k", "asked", "end"] "law" s_law T.a_law cdv A outer s H E) (WF E) := takes_of rfl rfl rfl rfl
  obtain ⟨hu1, hu64, hu65, hu200⟩ := room_un hr
  have sc := sc_law
  unfold g_law
  exact (ss_start (s_start (ns := ns) (i := 1) sc.nd rfl (by first | exact Or.inl rfl | exact Or.inr rfl) (l_script (by rfl) T.m_list (pv 0) (l_cons d_int (l_cons d_int (l_cons d_int l_nil)))))
      (ss_cons (s_for hp rfl (i_range1 (by rfl) T.m_range (o_g d_int)) (g_name (i := 2) sc.nd rfl (by first | exact Or.inl rfl | exact Or.inr rfl))
      (ss_cons (s_set (i := 3) sc.nd rfl (by first | exact Or.inl rfl | exact Or.inr rfl) (d_call tk G__law_signs (hr.mono (by omega)) (by rfl) T.g__law_signs T.F__law_signs.kp T.b__law_signs (as_cons (a_s (pv 1)) as_nil)))
      (ss_cons (s_set (i := 4) sc.nd rfl (by first | exact Or.inl rfl | exact Or.inr rfl) (d_call tk G__law_rows (hr.mono (by omega)) (by rfl) T.g__law_rows T.F__law_rows.kp T.b__law_rows (as_cons (a_s (pv 1)) (as_cons (a_g (d_v (pv 3))) as_nil))))
      (ss_cons (s_set (i := 5) sc.nd rfl (by first | exact Or.inl rfl | exact Or.inr rfl) (d_call tk G__law_left_over (hr.mono (by omega)) (by rfl) T.g__law_left_over T.F__law_left_over.kp T.b__law_left_over (as_cons (a_g (d_v (pv 4))) as_nil)))
      (ss_cons (s_set (i := 6) sc.nd rfl (by first | exact Or.inl rfl | exact Or.inr rfl) (d_call tk G__law_least_double (hr.mono (by omega)) (by rfl) T.g__law_least_double T.F__law_least_double.kp T.b__law_least_double (as_cons (a_g (d_v (pv 4))) as_nil)))
      (ss_cons (s_if (PW.pt (w_or (t_cmp (op_neD hu64) sd_ne (o_g (d_cmp (op_inAll hu65) sd_in (o_g d_str) (o_b (pv 5)) (by rfl))) (o_g (d_cmp op_notN sd_notN (o_b (pv 6)) (o_g d_non) (nomark _))) (nomark _)) (w_or1 (PW.pt (w_and (t_cmp op_notN sd_notN (o_b (pv 6)) (o_g d_non) (nomark _)) (w_and1 (t_not (t_tru (o_g (d_call tk G__law_no_lesser (hr.mono (by omega)) (by rfl) T.g__law_no_lesser T.F__law_no_lesser.kp T.b__law_no_lesser (as_cons (a_g (d_v (pv 4))) (as_cons (a_g (d_v (pv 6))) (as_cons (a_g (d_v (pv 3))) as_nil)))))))))))))
      (ss_one (s_ret d_bl))
      ss_nil)
      (ss_cons (s_set (i := 7) sc.nd rfl (by first | exact Or.inl rfl | exact Or.inr rfl) (d_tup (l_cons d_str (l_cons (d_y1 call_tuple_of sb_tup (by rfl) T.m_tuple PyProof.Rows.boot_tuple (o_b (pv 5))) l_nil))))
      (ss_cons (s_if (t_cmp op_notN sd_notN (o_b (pv 6)) (o_g d_non) (nomark _))
      (ss_one (s_set (i := 7) sc.nd rfl (by first | exact Or.inl rfl | exact Or.inr rfl) (d_tup (l_cons d_str (l_cons (d_y1 call_tuple_of sb_tup (by rfl) T.m_tuple PyProof.Rows.boot_tuple (o_g (d_fz (o_sl (o_g (d_callO tk G__law_ways (hr.mono (by omega)) (by rfl) T.g__law_ways T.F__law_ways.kp T.b__law_ways (ao_cons (a_g (d_v (pv 4))) (ao_cons (a_g (d_v (pv 6))) (ao_cons (a_g d_int) (ao_last o_newK)))))) p_no (p_so d_int))))) l_nil)))))
      ss_nil)
      (ss_cons (s_setO (i := 8) sc.nd rfl (by first | exact Or.inl rfl | exact Or.inr rfl) (o_y1 call_list_of sc_lst (by rfl) T.m_list PyProof.Rows.boot_list (o_b (pv 4))))
      (ss_cons (s_set (i := 9) sc.nd rfl (by first | exact Or.inl rfl | exact Or.inr rfl) (d_call tk G_code (hr.mono (by omega)) (by rfl) T.g_code T.F_code.kp T.b_code (as_cons (a_g (d_v (pv 8))) as_nil)))
      (ss_cons (s_if (PW.pt (w_or (t_not (t_tru (o_g (d_call tk G__law_same (hr.mono (by omega)) (by rfl) T.g__law_same T.F__law_same.kp T.b__law_same (as_cons (a_g (d_v (pv 9))) (as_cons (a_g (d_v (pv 7))) as_nil)))))) (w_or (t_cmp (op_neD hu64) sd_ne (o_b (pv 8)) (o_b (pv 4)) (nomark _)) (w_or1 (t_cmp op_notBl sd_notB (o_g (d_call tk G_judge_code (hr.mono (by omega)) (by rfl) T.g_judge_code T.F_judge_code.kp T.b_judge_code (as_cons (a_g (d_v (pv 8))) (as_cons (a_g (d_v (pv 9))) as_nil)))) (o_g d_bl) (nomark _))))))
      (ss_one (s_ret d_bl))
      ss_nil)
      (ss_cons (s_if (PW.pt (w_or (t_not (t_tru (o_g (d_call tk G__law_same (hr.mono (by omega)) (by rfl) T.g__law_same T.F__law_same.kp T.b__law_same (as_cons (a_g (d_call tk G_remainders (hr.mono (by omega)) (by rfl) T.g_remainders T.F_remainders.kp T.b_remainders (as_cons (a_g (d_v (pv 8))) as_nil))) (as_cons (a_g (d_v (pv 5))) as_nil)))))) (w_or1 (t_cmp (op_neD hu64) sd_ne (o_b (pv 8)) (o_b (pv 4)) (nomark _)))))
      (ss_one (s_ret d_bl))
      ss_nil)
      (ss_cons (s_setO (i := 10) sc.nd rfl (by first | exact Or.inl rfl | exact Or.inr rfl) (o_lst (l_cons d_non (l_cons (d_sl (o_b (pv 7)) p_no (p_so d_int)) (l_cons (d_fz (o_y1 call_list_of sc_lst (by rfl) T.m_list PyProof.Rows.boot_list (o_b (pv 7)))) (l_cons (d_tup (l_cons d_str (l_cons (d_ix (o_b (pv 7)) (o_g d_int)) l_nil))) (l_cons (d_tup (l_cons d_str (l_cons (d_tup l_nil) l_nil))) (l_cons (d_tup (l_cons d_str (l_cons (d_tup (l_cons (d_tup l_nil) (l_cons (d_tup l_nil) l_nil))) l_nil))) (l_cons (d_tup (l_cons d_str (l_cons (d_ix (o_b (pv 7)) (o_g d_int)) l_nil))) (l_cons (d_tup (l_cons d_str (l_cons (d_ix (o_b (pv 7)) (o_g d_int)) l_nil))) (l_cons (d_tup (l_cons d_str (l_cons (d_y1 call_tuple_of sb_tup (by rfl) T.m_tuple PyProof.Rows.boot_tuple (o_b (pv 5))) l_nil))) l_nil)))))))))))
      (ss_cons (s_setO (i := 10) sc.nd rfl (by first | exact Or.inl rfl | exact Or.inr rfl) (o_bin op_cat so_cat (o_b (pv 10)) (o_g (d_fz (o_lst (l_cons (d_tup (l_cons d_str (l_cons (d_tup (l_cons (d_tup (l_cons d_int l_nil)) (l_cons (d_tup (l_cons d_int l_nil)) l_nil))) l_nil))) (l_cons (d_tup (l_cons d_str (l_cons (d_tup (l_cons (d_tup (l_cons d_int (l_cons d_int l_nil))) (l_cons (d_tup (l_cons d_int l_nil)) l_nil))) l_nil))) (l_cons (d_tup (l_cons d_str (l_cons (d_fz (o_y1 call_list_of sc_lst (by rfl) T.m_list PyProof.Rows.boot_list (o_g (d_ix (o_b (pv 7)) (o_g d_int))))) l_nil))) (l_cons (d_tup (l_cons d_str (l_cons (d_tup (l_cons (d_tup (l_cons d_int l_nil)) (l_cons (d_tup (l_cons (d_bin op_sub sd_sub (o_g d_int) (o_g (d_b1 call_len sb_len (by rfl) T.m_len PySem.boot_len (o_b (pv 4))))) l_nil)) l_nil))) l_nil))) (l_cons (d_tup (l_cons d_str (l_cons (d_tup (l_cons (d_fz (o_lst (l_cons d_str l_nil))) l_nil)) l_nil))) (l_cons (d_tup (l_cons d_str (l_cons (d_tup (l_cons (d_fz (o_lst (l_cons d_int l_nil))) (l_cons (d_tup (l_cons d_int l_nil)) l_nil))) l_nil))) l_nil)))))))))))
      (ss_cons (s_setO (i := 11) sc.nd rfl (by first | exact Or.inl rfl | exact Or.inr rfl) (o_lst l_nil))
      (ss_cons (s_for hp rfl (i_seq (d_v (pv 4))) (g_name (i := 12) sc.nd rfl (by first | exact Or.inl rfl | exact Or.inr rfl))
      (ss_one (s_setO (i := 11) sc.nd rfl (by first | exact Or.inl rfl | exact Or.inr rfl) (o_bin op_cat so_cat (o_b (pv 11)) (o_g (d_fz (o_lc rfl sc.nd (i_range1 (by rfl) T.m_range (o_g (d_bin op_addD sd_add (o_g (d_b1 call_len sb_len (by rfl) T.m_len PySem.boot_len (o_b (pv 12)))) (o_g d_int)))) (blkOk_by (own := [("k", 13)]) (N := ["script", "state", "turn", "signs", "rows", "rests", "double", "due", "handed", "told", "asks", "ends", "row", "k", "asked", "end"]) (sc := defScope s_law) (by decide +kernel)) (fun _ _ _ _ _ => (g_name (i := 13) sc.nd rfl (by first | exact Or.inl rfl | exact Or.inr rfl))) (fun _ _ _ _ _ => c_nil) (fun _ _ _ _ _ => (d_sl (o_b (pv 12)) (p_so (d_v (pv 13))) p_no)))))))))
      (ss_cons (s_setO (i := 10) sc.nd rfl (by first | exact Or.inl rfl | exact Or.inr rfl) (o_bin op_cat so_cat (o_b (pv 10)) (o_g (d_fz (o_lst (l_cons (d_tup (l_cons d_str (l_cons (d_y1 call_tuple_of sb_tup (by rfl) T.m_tuple PyProof.Rows.boot_tuple (o_g (d_fz (o_sortsetT rfl hu200 (by rfl) T.m_sorted (by rfl) T.m_set (o_b (pv 11)))))) l_nil))) (l_cons (d_tup (l_cons d_str (l_cons (d_y1 call_tuple_of sb_tup (by rfl) T.m_tuple PyProof.Rows.boot_tuple (o_g (d_fz (o_lc rfl sc.nd (i_seq (d_fz (o_sortsetT rfl hu200 (by rfl) T.m_sorted (by rfl) T.m_set (o_b (pv 11))))) (blkOk_by (own := [("end", 15)]) (N := ["script", "state", "turn", "signs", "rows", "rests", "double", "due", "handed", "told", "asks", "ends", "row", "k", "asked", "end"]) (sc := defScope s_law) (by decide +kernel)) (fun _ _ _ _ _ => (g_name (i := 15) sc.nd rfl (by first | exact Or.inl rfl | exact Or.inr rfl))) (fun _ _ _ _ _ => (c_one (t_cmp (op_neD hu64) sd_ne (o_b (pv 15)) (o_g d_str) (nomark _)))) (fun _ _ _ _ _ => (d_v (pv 15))))))) l_nil))) l_nil)))))))
      (ss_cons (s_for hp rfl (i_range1 (by rfl) T.m_range (o_g d_int)) (g_name (i := 13) sc.nd rfl (by first | exact Or.inl rfl | exact Or.inr rfl))
      (ss_one (s_mut PySem.F.slot_list_append PySem.F.type_list_append mt_append mu_app (pv 10) (d_tup (l_cons (d_ix (o_b (pv 7)) (o_g d_int)) (l_cons (d_call tk G__law_turned (hr.mono (by omega)) (by rfl) T.g__law_turned T.F__law_turned.kp T.b__law_turned (as_cons (a_s (pv 1)) (as_cons (a_g (d_v (pv 3))) (as_cons (a_g (d_ix (o_b (pv 7)) (o_g d_int))) as_nil)))) l_nil))))))
      (ss_one (s_for hp rfl (i_seq (d_v (pv 10))) (g_name (i := 14) sc.nd rfl (by first | exact Or.inl rfl | exact Or.inr rfl))
      (ss_one (s_if (t_not (t_tru (o_g (d_call tk G__law_same (hr.mono (by omega)) (by rfl) T.g__law_same T.F__law_same.kp T.b__law_same (as_cons (a_g (d_call tk G_judge_code (hr.mono (by omega)) (by rfl) T.g_judge_code T.F_judge_code.kp T.b_judge_code (as_cons (a_g (d_v (pv 8))) (as_cons (a_g (d_v (pv 14))) as_nil)))) (as_cons (a_g (d_call tk G__law_accepts (hr.mono (by omega)) (by rfl) T.g__law_accepts T.F__law_accepts.kp T.b__law_accepts (as_cons (a_g (d_v (pv 4))) (as_cons (a_g (d_v (pv 14))) as_nil)))) as_nil))))))
      (ss_one (s_ret d_bl))
      ss_nil))))))))))))))))))))))
      (ss_one (s_ret d_bl))))
end K65
end
section
set_option autoImplicit false
set_option maxRecDepth 100000
set_option Elab.async false
set_option linter.all false
namespace K65
open PySem DL
/-! ### the draws -/
structure S4 where
  i : Nat
  z : Int
  y : Int
  hz : 0 ≤ z
def obS (ns : List Int) (s : S4) : Ob := .ls [.list (ns.map .int), .int s.i, .int s.z, .int s.y]
def nextA : Ev Fl := (ifS (eAnd (eT (e2 eqD (.g (e2 ixD (.b 0) (.g (eC (.int 2))))) (.g (eC (.int 0))))) (eT (e2 (cmpI ltI) (.g (e2 ixD (.b 0) (.g (eC (.int 1))))) (.g (e1 lenD (.g (e2 ixD (.b 0) (.g (eC (.int 0))))))))))
    (seqS (setS 2 (e2 ixD (.g (e2 ixD (.b 0) (.g (eC (.int 0))))) (.g (e2 ixD (.b 0) (.g (eC (.int 1)))))))
    (seqS (ixAug 0 (eC (.int 1)) (eC (.int 1)))
    (ifS (eT (e2 (cmpI geI) (.b 2) (.g (e2 powD (.g (eC (.int 10))) (.g (eC (.int 18)))))))
    (ixS 0 (eC (.int 2)) (eV 2))
    (ixS 0 (eC (.int 3)) (e2 modD (.g (e1 intD (.g (e2 addD (.g (e2 addD (.g (e2 mulD (.g (e2 ixD (.b 0) (.g (eC (.int 3))))) (.g (eC (.int 48271))))) (.g (e2 modD (.g (e1 intD (.b 2))) (.g (eC (.int 2147483647))))))) (.g (eC (.int 7))))))) (.g (eC (.int 2147483647))))))))
    nxS)
def nextB : Ev Fl := (seqS (ifS (eT (e2 (cmpI gtI) (.g (e2 ixD (.b 0) (.g (eC (.int 2))))) (.g (eC (.int 0)))))
    (seqS (setS 3 (e2 modD (.g (e1 intD (.g (e2 ixD (.b 0) (.g (eC (.int 2))))))) (.b 1)))
    (seqS (ixS 0 (eC (.int 2)) (e2 fdivD (.g (e2 ixD (.b 0) (.g (eC (.int 2))))) (.b 1)))
    (rtS (eV 3))))
    nxS)
    (seqS (ixS 0 (eC (.int 3)) (e2 modD (.g (e1 intD (.g (e2 addD (.g (e2 mulD (.g (e2 ixD (.b 0) (.g (eC (.int 3))))) (.g (eC (.int 69621))))) (.g (eC (.int 12345))))))) (.g (eC (.int 2147483647)))))
    (rtS (e2 modD (.g (e1 intD (.g (e2 fdivD (.g (e2 ixD (.b 0) (.g (eC (.int 3))))) (.g (eC (.int 7))))))) (.b 1)))))
theorem nextB_run (ns : List Int) (s : S4) (l : Int) (h1 : 1 ≤ l) (h2 : l < 1073741824) (c : Sl) : ∃ v s', 0 ≤ v ∧ v < l ∧ ∃ r, nextB [.ow true (obS ns s), .fz (.int l), c, .un] = .ok (.rt (.int v)) (.ow true (obS ns s') :: .fz (.int l) :: r) := by
  obtain ⟨i, z, y, hz⟩ := s
  have l0 : l ≠ 0 := by omega
  have l1 : l.natAbs < 1073741824 := by omega
  by_cases q : 0 < z
  · refine ⟨z.fmod l, ⟨i, z.fdiv l, y, Int.fdiv_nonneg (by omega) (by omega)⟩, Int.fmod_nonneg_of_pos _ (by omega), Int.fmod_lt_of_pos _ (by omega), [c, .fz (.int (z.fmod l))], ?_⟩
    simp [nextB, obS, ixS, modD, fdivD, q, l0, l1]
  · refine ⟨((((y * 69621 + 12345).fmod 2147483647).fdiv 7).fmod l), ⟨i, z, (y * 69621 + 12345).fmod 2147483647, hz⟩, Int.fmod_nonneg_of_pos _ (by omega), Int.fmod_lt_of_pos _ (by omega), [c, .un], ?_⟩
    simp [nextB, obS, ixS, modD, fdivD, mulD, q, l0, l1]
theorem nextA_run (ns : List Int) (s : S4) (l : Sl) : ∃ s' c, nextA [.ow true (obS ns s), l, .un, .un] = .ok .nx [.ow true (obS ns s'), l, c, .un] := by
  obtain ⟨i, z, y, hz⟩ := s
  by_cases q1 : z = 0
  · subst q1
    by_cases q2 : i < ns.length
    · by_cases q3 : 1000000000000000000 ≤ ns[i]
      · refine ⟨⟨i + 1, ns[i], y, by omega⟩, .fz (.int ns[i]), ?_⟩
        simp [nextA, obS, ixAug, ixS, powD, q2, q3]
      · refine ⟨⟨i + 1, 0, (y * 48271 + ns[i].fmod 2147483647 + 7).fmod 2147483647, by omega⟩, .fz (.int ns[i]), ?_⟩
        simp [nextA, obS, ixAug, ixS, powD, mulD, modD, q2, q3]
    · refine ⟨⟨i, 0, y, hz⟩, .un, ?_⟩
      simp [nextA, obS, q2]
  · refine ⟨⟨i, z, y, hz⟩, .un, ?_⟩
    simp [nextA, obS, q1]
theorem next_run (ns : List Int) (s : S4) (l : Int) (h1 : 1 ≤ l) (h2 : l < 1073741824) : ∃ v s', 0 ≤ v ∧ v < l ∧ F__law_next [.ow true (obS ns s), .fz (.int l)] = .ok (.int v) [.ow true (obS ns s'), .un] := by
  obtain ⟨s1, c, e1⟩ := nextA_run ns s (.fz (.int l))
  obtain ⟨v, s2, v1, v2, r, e2⟩ := nextB_run ns s1 l h1 h2 c
  refine ⟨v, s2, v1, v2, ?_⟩
  show bodyF 4 (seqS nextA nextB) _ = _
  simp [bodyF, e1, e2]
end K65
end
section
set_option autoImplicit false
set_option maxRecDepth 100000
set_option Elab.async false
set_option linter.all false
namespace K65
open PySem DL L2 SX
/-! ### the signs -/
def abc : List Nat := (List.range 26).map fun k => 97 + k
theorem abc_eq : Str.ofString "abcdefghijklmnopqrstuvwxyz" = S abc := by decide +kernel
theorem abc_at {k : Nat} (h : k < 26) : abc[k]? = some (97 + k) := by
  unfold abc
  rw [List.getElem?_map, List.getElem?_range h]
  rfl
theorem abc_len : abc.length = 26 := by decide
def stA (ns : List Int) (s : S4) (cs : List Nat) (x y : Sl) : Rho := [.ow true (obS ns s), .fz (.str (S abc)), .ow false (.ls (cs.map chr)), x, y]
theorem ltr {k : Nat} (h : k < 26) : ixD (.str (S abc)) (.int (k : Int)) = some (chr (97 + k)) := ix_str abc k _ (by rw [abc_len]; omega) (abc_at h)
theorem in_cs {cs : List Nat} (hc : ∀ c ∈ cs, c < 123) {k : Nat} (h : k < 26) : inD (chr (97 + k)) (.list (cs.map chr)) = some (.bool (decide (97 + k ∈ cs))) := by
  rw [inL_ok ((ok_chr (by omega)).mono (by omega)) fun x hx => ?_, inAny_map enc_chr]
  obtain ⟨c, h1, rfl⟩ := List.mem_map.mp hx
  have := hc c h1
  exact (ok_chr (by omega)).mono (by omega)
theorem while_signs (ns : List Int) (s : S4) (cs : List Nat) (x : Sl) (hc : ∀ c ∈ cs, c < 123) : ∀ (n p : Nat), p < 26 → (∃ j, j < n ∧ 97 + (p + j) % 26 ∉ cs) → ∀ fu, n ≤ fu →
    ∃ q, q < 26 ∧ 97 + q ∉ cs ∧ whileS C__law_signs_1 B__law_signs_1 (fu + 1) (stA ns s cs x (.fz (I p))) = .ok .nx (stA ns s cs x (.fz (I q))) := by
  intro n
  induction n with
  | zero => intro p _ h; obtain ⟨j, h, _⟩ := h; omega
  | succ n ih =>
    intro p hp hj fu hf
    have lt := ltr hp
    have ic := in_cs hc hp
    have test : C__law_signs_1 (stA ns s cs x (.fz (I p))) = .ok (decide (97 + p ∈ cs)) (stA ns s cs x (.fz (I p))) := by
      unfold I
      simp [-Option.bind_some, -Option.bind_none, C__law_signs_1, stA, lt, ic]
    unfold whileS
    rw [test]
    by_cases hm : 97 + p ∈ cs
    · have body : B__law_signs_1 (stA ns s cs x (.fz (I p))) = .ok .nx (stA ns s cs x (.fz (I ((p + 1) % 26)))) := by
        unfold I
        simp [-Option.bind_some, -Option.bind_none, B__law_signs_1, stA, modD]
        rw [Int.fmod_eq_emod_of_nonneg _ (by omega)]
      simp only [Res.bind_ok, hm, decide_true, if_true, body]
      obtain ⟨fu', rfl⟩ : ∃ k, fu = k + 1 := ⟨fu - 1, by omega⟩
      refine ih ((p + 1) % 26) (by omega) ?_ fu' (by omega)
      obtain ⟨j, j1, j2⟩ := hj
      cases j with
      | zero =>
        rw [Nat.add_zero, Nat.mod_eq_of_lt hp] at j2
        exact absurd hm j2
      | succ j =>
        refine ⟨j, by omega, ?_⟩
        have e : ((p + 1) % 26 + j) % 26 = (p + (j + 1)) % 26 := by omega
        rw [e]; exact j2
    · refine ⟨p, hp, hm, ?_⟩
      simp [-Option.bind_some, -Option.bind_none, hm]
theorem free_sign (cs : List Nat) (h : cs.length ≤ 3) (p : Nat) : ∃ j, j < 4 ∧ 97 + (p + j) % 26 ∉ cs := by
  refine Classical.byContradiction fun hn => ?_
  have hall : ∀ j, j < 4 → 97 + (p + j) % 26 ∈ cs := fun j hj => Classical.byContradiction fun z => hn ⟨j, hj, z⟩
  have nd : ([97 + (p + 0) % 26, 97 + (p + 1) % 26, 97 + (p + 2) % 26, 97 + (p + 3) % 26] : List Nat).Nodup := by
    simp [-Option.bind_some, -Option.bind_none]
    omega
  have := nodup_sub_len (m := cs) nd fun x hx => by
    simp only [List.mem_cons, List.not_mem_nil, or_false] at hx
    rcases hx with e | e | e | e <;> (rw [e]; exact hall _ (by omega))
  simp [-Option.bind_some, -Option.bind_none] at this
  omega
theorem put_next (ns : List Int) (s s' : S4) (b : Bool) (r : Rho) : DL.put [.s 0, .d (.int 26)] [.ow true (obS ns s'), .un] (.ow b (obS ns s) :: r) = .ow b (obS ns s') :: r := rfl
theorem body_signs (ns : List Int) (s : S4) (cs : List Nat) (x y : Sl) (hx : ∀ b o, x ≠ .ow b o) (hy : y = .un ∨ ∃ d, y = .fz d) (hc : ∀ c ∈ cs, c < 123) (hl : cs.length ≤ 3) :
    ∃ c s' y', c < 123 ∧ c ∉ cs ∧ (∃ d, y' = .fz d) ∧ B__law_signs_3 (stA ns s cs x y) = .ok .nx (stA ns s' (cs ++ [c]) x y') := by
  obtain ⟨v, s', v1, v2, e⟩ := next_run ns s 26 (by omega) (by omega)
  obtain ⟨p, rfl⟩ := Int.eq_ofNat_of_zero_le v1
  have hp : p < 26 := by omega
  obtain ⟨q, q1, q2, ew⟩ := while_signs ns s' cs x hc 4 p hp (free_sign cs hl p) 99 (by omega)
  refine ⟨97 + q, s', .fz (I q), by omega, q2, ⟨_, rfl⟩, ?_⟩
  have first : setS 4 (callE F__law_next [.s 0, .g (eC (.int 26))]) (stA ns s cs x y) = .ok .nx (stA ns s' cs x (.fz (I p))) := by
    rcases hy with rfl | ⟨d, rfl⟩
    all_goals simp [-Option.bind_some, -Option.bind_none, stA, argE, callR, slots, mk, e, put, back, I]
  have last : mutS appF 2 (e2 ixD (.b 1) (.b 4)) (stA ns s' cs x (.fz (I q))) = .ok .nx (stA ns s' (cs ++ [97 + q]) x (.fz (I q))) := by
    have lt := ltr q1
    have hln : cs.length < 16777216 := by omega
    unfold I
    simp [-Option.bind_some, -Option.bind_none, mutS, stA, lt, hln]
  unfold B__law_signs_3
  simp only [seqS_ap, first, Res.bind_ok, ew, last]

theorem loop_signs (ns : List Int) : ∀ (ds : List D) (s : S4) (cs : List Nat) (x y : Sl), (x = .un ∨ ∃ d, x = .fz d) → (y = .un ∨ ∃ d, y = .fz d) → (∀ c ∈ cs, c < 123) → cs.Nodup → cs.length + ds.length ≤ 4 →
    ∃ s' cs' x' y', (∀ c ∈ cs', c < 123) ∧ cs'.Nodup ∧ cs'.length = cs.length + ds.length ∧ loopS (tgN 3) B__law_signs_3 ds (stA ns s cs x y) = .ok .nx (stA ns s' cs' x' y')
  | [], s, cs, x, y, _, _, hc, hn, _ => ⟨s, cs, x, y, hc, hn, rfl, rfl⟩
  | d :: ds, s, cs, x, y, hx, hy, hc, hn, hl => by
    simp only [List.length_cons] at hl
    obtain ⟨c, s1, y1, c1, c2, ⟨d1, hy1⟩, e⟩ := body_signs ns s cs (.fz d) y (fun _ _ z => by cases z) hy hc (by omega)
    obtain ⟨s2, cs2, x2, y2, h1, h2, h3, e2⟩ := loop_signs ns ds s1 (cs ++ [c]) (.fz d) y1 (.inr ⟨_, rfl⟩) (.inr ⟨d1, hy1⟩) (fun z hz => by
      rcases List.mem_append.mp hz with q | q
      · exact hc z q
      · rw [List.mem_singleton.mp q]; exact c1) (by
      rw [List.nodup_append]
      refine ⟨hn, by simp [-Option.bind_some, -Option.bind_none], fun a ha b hb q => ?_⟩
      rw [List.mem_singleton.mp hb] at q
      exact c2 (q ▸ ha)) (by rw [List.length_append]; simp [-Option.bind_some, -Option.bind_none]; omega)
    refine ⟨s2, cs2, x2, y2, h1, h2, by rw [h3, List.length_append]; simp [-Option.bind_some, -Option.bind_none]; omega, ?_⟩
    have t : (tgN 3).f d (stA ns s cs x y) = some (stA ns s cs (.fz d) y) := by
      rcases hx with rfl | ⟨q, rfl⟩ <;> rfl
    unfold loopS
    rw [t]
    simp only [e, Res.bind_ok, e2]
theorem sort_chr (cs : List Nat) : ∃ cs' : List Nat, cs'.Perm cs ∧ sortO (.list (cs.map chr)) = some (.ls (cs'.map chr)) := by
  refine ⟨cs.mergeSort fun a b => PySem.W.dataLe false id (chr a) (chr b), List.mergeSort_perm _ _, ?_⟩
  have e : sortL (cs.map chr) = (cs.mergeSort fun a b => PySem.W.dataLe false id (chr a) (chr b)).map chr := (PySem.W.sort_maps chr fun _ _ _ _ => rfl).symm
  have ok : sortOk (cs.map chr) = true := by
    unfold sortOk
    simp only [Bool.and_eq_true, Bool.or_eq_true, List.all_eq_true, decide_eq_true_eq, List.mem_map]
    refine ⟨⟨?_, ?_⟩, .inr ?_⟩
    · rintro _ ⟨a, _, rfl⟩ _ ⟨b, _, rfl⟩; rfl
    · rintro _ ⟨a, _, rfl⟩; exact Nat.zero_le _
    · rintro _ ⟨a, _, rfl⟩; rfl
  show (if sortOk (cs.map chr) = true then some (Ob.ls (sortL (cs.map chr))) else none) = _
  rw [if_pos ok, e]
theorem strsOf_chr : ∀ cs : List Nat, strsOf (cs.map chr) = some (cs.map fun c => S [c])
  | [] => rfl
  | c :: cs => by
    show (strsOf (cs.map chr)).map (S [c] :: ·) = _
    rw [strsOf_chr cs]
    rfl
theorem joinL_ones (cs : List Nat) : TL.joinL [] (cs.map fun c => [c]) = cs := by
  have e := join_S [] (cs.map fun c => [c])
  have : ∀ l : List Nat, Txt.join (S []) ((l.map fun c => [c]).map S) = S l := fun l => by
    show Builtin.Str.glued (S []) _ = _
    rw [StrLaws.glued_eq_join]
    induction l with
    | nil => rfl
    | cons c l ih =>
      cases l with
      | nil => rfl
      | cons d l =>
        show S [c] ++ S [] ++ Str.join (S []) (((d :: l).map fun c => [c]).map S) = _
        rw [ih, S_cat, S_cat]
        rfl
  rw [this] at e
  exact (S_inj e).symm
theorem join_chr (cs : List Nat) (h : cs.length ≤ 16777216) : joinD (S []) (.list (cs.map chr)) = some (.str (S cs)) := by
  show ((strsOf (cs.map chr)).bind fun ys => if (ys.map (·.length)).sum + ys.length * (S []).length ≤ 16777216 then some (PyData.str (Txt.join (S []) ys)) else none) = _
  rw [strsOf_chr]
  have e1 : ((cs.map fun c => S [c]).map (·.length)).sum + (cs.map fun c => S [c]).length * (S []).length = cs.length := by
    rw [List.map_map]
    have : ∀ l : List Nat, (l.map ((fun x : Str => x.length) ∘ fun c => S [c])).sum = l.length := fun l => by
      induction l with
      | nil => rfl
      | cons c l ih =>
        rw [List.map_cons, List.sum_cons, ih]
        show 1 + _ = _
        simp [-Option.bind_some, -Option.bind_none]; omega
    rw [this]
    show cs.length + _ * 0 = _
    omega
  have e2 : (cs.map fun c => S [c]) = (cs.map fun c => [c]).map S := by rw [List.map_map]; rfl
  show (if ((cs.map fun c => S [c]).map (·.length)).sum + (cs.map fun c => S [c]).length * (S []).length ≤ 16777216 then some (PyData.str (Txt.join (S []) (cs.map fun c => S [c]))) else none) = _
  rw [e1, if_pos h, e2, join_S, joinL_ones]
theorem signs_run (ns : List Int) (s : S4) : ∃ (cs : List Nat) (s' : S4), cs.Nodup ∧ 2 ≤ cs.length ∧ cs.length ≤ 4 ∧ (∀ c ∈ cs, c < 123) ∧ F__law_signs [.ow true (obS ns s)] = .ok (.str (S cs)) [.ow true (obS ns s')] := by
  obtain ⟨v, s1, v1, v2, e⟩ := next_run ns s 8 (by omega) (by omega)
  obtain ⟨p, rfl⟩ := Int.eq_ofNat_of_zero_le v1
  obtain ⟨n, n1, n2, en⟩ : ∃ n : Nat, 2 ≤ n ∧ n ≤ 4 ∧ ([2, 2, 3, 2, 3, 2, 3, 4] : List Nat)[p]? = some n := by
    have : p < 8 := by omega
    match p, this with
    | 0, _ => exact ⟨2, by omega, by omega, rfl⟩
    | 1, _ => exact ⟨2, by omega, by omega, rfl⟩
    | 2, _ => exact ⟨3, by omega, by omega, rfl⟩
    | 3, _ => exact ⟨2, by omega, by omega, rfl⟩
    | 4, _ => exact ⟨3, by omega, by omega, rfl⟩
    | 5, _ => exact ⟨2, by omega, by omega, rfl⟩
    | 6, _ => exact ⟨3, by omega, by omega, rfl⟩
    | 7, _ => exact ⟨4, by omega, by omega, rfl⟩
  obtain ⟨s2, cs, x2, y2, h1, h2, h3, el⟩ := loop_signs ns ((List.range n).map I) s1 [] .un .un (.inl rfl) (.inl rfl) (fun _ h => by simp [-Option.bind_some, -Option.bind_none] at h) .nil (by simp [-Option.bind_some, -Option.bind_none]; omega)
  obtain ⟨cs', pm, es⟩ := sort_chr cs
  simp only [List.length_nil, List.length_map, List.length_range, Nat.zero_add] at h3
  have hl := pm.length_eq
  refine ⟨cs', s2, pm.nodup_iff.mpr h2, by omega, by omega, fun c hc => h1 c (pm.mem_iff.mp hc), ?_⟩
  have ix : ixD (.list [.int 2, .int 2, .int 3, .int 2, .int 3, .int 2, .int 3, .int 4]) (.int (p : Int)) = some (.int (n : Int)) := by
    show atI _ (p : Int) = _
    rw [atI_n]
    have z : ([.int 2, .int 2, .int 3, .int 2, .int 3, .int 2, .int 3, .int 4] : List D) = ([2, 2, 3, 2, 3, 2, 3, 4] : List Nat).map I := rfl
    rw [z, List.getElem?_map, en]
    rfl
  have hd : forS (e1 rg1D (.g (e2 ixD (.g (eFz (eLst [(eC (.int 2)), (eC (.int 2)), (eC (.int 3)), (eC (.int 2)), (eC (.int 3)), (eC (.int 2)), (eC (.int 3)), (eC (.int 4))]))) (.g (callE (F__law_next) [.s 0, .g (eC (.int 8))]))))) (tgN 3) B__law_signs_3 (stA ns s [] .un .un) = .ok .nx (stA ns s2 cs x2 y2) := by
    have r := rg1_n n (by omega)
    have c1 : callE F__law_next [.s 0, .g (eC (.int 8))] (stA ns s [] .un .un) = .ok (.int (p : Int)) (stA ns s1 [] .un .un) := by
      simp [-Option.bind_some, -Option.bind_none, stA, argE, callR, slots, mk, e, put, back]
    have c2 : ∀ ρ : Rho, eFz (eLst [(eC (.int 2)), (eC (.int 2)), (eC (.int 3)), (eC (.int 2)), (eC (.int 3)), (eC (.int 2)), (eC (.int 3)), (eC (.int 4))]) ρ = .ok (.list [.int 2, .int 2, .int 3, .int 2, .int 3, .int 2, .int 3, .int 4]) ρ := fun ρ => by simp [-Option.bind_some, -Option.bind_none]
    rw [forS_ap, e1_ap, opd_g, e2_ap, opd_g, c2]
    simp only [Res.bind_ok, opd_g, c1, fin_d, obind, ix, ofO_some, r]
    exact el
  have ju := join_chr cs' (by omega)
  have em : Str.ofString "" = S [] := rfl
  have st : bodyF 5 g__law_signs [.ow true (obS ns s)] = match (seqS (forS (e1 rg1D (.g (e2 ixD (.g (eFz (eLst [(eC (.int 2)), (eC (.int 2)), (eC (.int 3)), (eC (.int 2)), (eC (.int 3)), (eC (.int 2)), (eC (.int 3)), (eC (.int 4))]))) (.g (callE (F__law_next) [.s 0, .g (eC (.int 8))]))))) (tgN 3) B__law_signs_3)
    (rtS (eM1 joinD (eC (.str (Str.ofString ""))) (.g (eFz (e1 sortO (.b 2))))))) (stA ns s [] .un .un) with
      | .ok (.rt d) r => .ok d (outOf [.ow true (obS ns s)] r)
      | .ok .nx r => .ok .none (outOf [.ow true (obS ns s)] r)
      | .er c r => .er c (outOf [.ow true (obS ns s)] r)
      | _ => .no := by
    unfold bodyF g__law_signs
    rw [abc_eq]
    have u1 : ∀ h : Ev Fl, seqS (setS 1 (eC (.str (S abc)))) (seqS (setO 2 (eLst [])) h) [.ow true (obS ns s), .un, .un, .un, .un] = h (stA ns s [] .un .un) := fun h => by simp [-Option.bind_some, -Option.bind_none, stA]
    show (match seqS (setS 1 (eC (.str (S abc)))) (seqS (setO 2 (eLst [])) _) [.ow true (obS ns s), .un, .un, .un, .un] with
      | .ok (.rt d) r => Res.ok d (outOf [.ow true (obS ns s)] r)
      | .ok .nx r => .ok .none (outOf [.ow true (obS ns s)] r)
      | .er c r => .er c (outOf [.ow true (obS ns s)] r)
      | _ => .no) = _
    rw [u1]
  show bodyF 5 g__law_signs _ = _
  rw [st]
  simp only [seqS_ap, hd, Res.bind_ok]
  simp [-Option.bind_some, -Option.bind_none, stA, es, em, ju]
end K65
end
section
set_option autoImplicit false
set_option maxRecDepth 100000
set_option Elab.async false
set_option linter.all false
namespace K65
open PySem DL L2 SX
/-! ### rows of words -/
structure OkR (rows : List Wd) : Prop where
  nd : rows.Nodup
  ne : ∀ w ∈ rows, w ≠ []
  ln : ∀ w ∈ rows, w.length ≤ 12
  cp : ∀ w ∈ rows, ∀ c ∈ w, c < 123
  few : rows.length ≤ 5
  sm : (rows.map fun w => w.length * (w.length + 1)).sum ≤ 400
theorem OkR.ok {rows : List Wd} (h : OkR rows) {w : Wd} (hw : w ∈ rows) : okw w := ⟨by have := h.ln w hw; omega, h.cp w hw⟩
/-- what is left over behind two of the rows -/
def ini (rows : List Wd) : List Wd := (rows.map fun a => (rows.filter fun b => !decide (b = a) && decide (a <+: b)).map fun b => b.drop a.length).flatten
/-- what is left over of a rest and a row -/
def rst (rows : List Wd) (r : Wd) : List Wd := (rows.filter fun w => decide (r <+: w)).map (fun w => w.drop r.length) ++ (rows.filter fun w => decide (w <+: r)).map fun w => r.drop w.length
theorem rests_run {rows : List Wd} (h : OkR rows) {r : Wd} (hr : okw r) : F_rests_of [.fz (.list (rows.map wd)), .fz (wd r)] = .ok (.list ((rst rows r).map wd)) [.un, .un] := by
  refine frun (ds := [.list (rows.map wd), wd r]) ⟨[.fz (.list (rows.map wd)), .fz (wd r), .ow false (.ls (((rows.filter fun w => decide (r <+: w)).map fun w => w.drop r.length).map wd)), .un], ?_⟩
  have n5 := h.few
  have f1 : lcE (eIt (eV 0)) (tgN 3) (e1 truD (.g (eM1 swD (eV 3) (.b 1)))) (eSl slD (.b 3) (some (e1 lenD (.b 1))) none) [3] [.fz (.list (rows.map wd)), .fz (wd r), .un, .un] = .ok (.ls ((rows.filter fun w => decide (r <+: w)).map fun w => wd (w.drop r.length))) [.fz (.list (rows.map wd)), .fz (wd r), .un, .un] := by
    refine lcE_pure wd (fun w => decide (r <+: w)) (fun w => wd (w.drop r.length)) rows (ρ1 := [.fz (.list (rows.map wd)), .fz (wd r), .un, .un]) (by simp) rfl (by omega) fun w hw => ?_
    have s1 := sw_S w r
    have s2 := sl_from w r.length (by have := (h.ok hw).1; omega)
    have s3 := len_wd r (by have := hr.1; omega)
    refine ⟨[.fz (.list (rows.map wd)), .fz (wd r), .un, .fz (wd w)], rfl, rfl, ?_, fun q => ?_⟩
    · have ew : (wd w) = .str (S w) := rfl
      simp [-Option.bind_some, -Option.bind_none, ew, s1, truD]
    · simp [-Option.bind_some, -Option.bind_none, s2, s3, eSl, optE]
  have f2 : ∀ x, lcE (eIt (eV 0)) (tgN 3) (e1 truD (.g (eM1 swD (eV 1) (.b 3)))) (eSl slD (.b 1) (some (e1 lenD (.b 3))) none) [3] [.fz (.list (rows.map wd)), .fz (wd r), x, .un] = .ok (.ls ((rows.filter fun w => decide (w <+: r)).map fun w => wd (r.drop w.length))) [.fz (.list (rows.map wd)), .fz (wd r), x, .un] := fun x => by
    refine lcE_pure wd (fun w => decide (w <+: r)) (fun w => wd (r.drop w.length)) rows (ρ1 := [.fz (.list (rows.map wd)), .fz (wd r), x, .un]) (by simp) rfl (by omega) fun w hw => ?_
    have s1 := sw_S r w
    have s2 := sl_from r w.length (by have := hr.1; omega)
    have s3 := len_wd w (by have := (h.ok hw).1; omega)
    refine ⟨[.fz (.list (rows.map wd)), .fz (wd r), x, .fz (wd w)], rfl, rfl, ?_, fun q => ?_⟩
    · have ew : (wd r) = .str (S r) := rfl
      simp [-Option.bind_some, -Option.bind_none, ew, s1, truD]
    · simp [-Option.bind_some, -Option.bind_none, s2, s3, eSl, optE]
  have l1 : ((rows.filter fun w => decide (r <+: w)).length) ≤ rows.length := List.length_filter_le _ _
  have l2 : ((rows.filter fun w => decide (w <+: r)).length) ≤ rows.length := List.length_filter_le _ _
  show g_rests_of [.fz (.list (rows.map wd)), .fz (wd r), .un, .un] = _
  unfold g_rests_of
  have ll : (rows.filter fun w => decide (r <+: w)).length + (rows.filter fun w => decide (w <+: r)).length ≤ 16777216 := by omega
  have e1 : (rst rows r).map wd = ((rows.filter fun w => decide (r <+: w)).map fun w => wd (w.drop r.length)) ++ ((rows.filter fun w => decide (w <+: r)).map fun w => wd (r.drop w.length)) := by
    unfold rst
    simp [Function.comp_def]
  have e2 : ((rows.filter fun w => decide (r <+: w)).map fun w => w.drop r.length).map wd = (rows.filter fun w => decide (r <+: w)).map fun w => wd (w.drop r.length) := by simp
  rw [e1, e2]
  generalize (rows.filter fun w => decide (r <+: w)) = F1 at *
  generalize (rows.filter fun w => decide (w <+: r)) = F2 at *
  simp only [seqS_ap, setO_ap, f1, Res.bind_ok]
  simp [-lcE_ap, -Option.bind_some, -Option.bind_none, f2, catO, ll]
end K65
end
section
set_option autoImplicit false
set_option maxRecDepth 100000
set_option Elab.async false
set_option linter.all false
namespace K65
open PySem DL L2 SX
/-- what is left over of a rest and a row, as the law has it -/
def rlOne (r w : Wd) : List Wd := (if r <+: w then [w.drop r.length] else []) ++ if w <+: r then [r.drop w.length] else []
def rstL (rows : List Wd) (r : Wd) : List Wd := (rows.map (rlOne r)).flatten
theorem pre_take (a b : Wd) : decide (a.take b.length = b) = decide (b <+: a) := by
  refine decide_eq_decide.mpr ⟨fun e => ?_, fun h => (List.prefix_iff_eq_take.mp h).symm⟩
  exact List.prefix_iff_eq_take.mpr e.symm
theorem rlOne_len (r w : Wd) : (rlOne r w).length ≤ 2 := by
  unfold rlOne
  split <;> split <;> simp
theorem flat_len {α β : Type} (f : α → List β) (k : Nat) (h : ∀ x, (f x).length ≤ k) : ∀ l : List α, ((l.map f).flatten).length ≤ k * l.length
  | [] => by simp
  | x :: l => by
    have := h x
    have := flat_len f k h l
    simp only [List.map_cons, List.flatten_cons, List.length_append, List.length_cons, Nat.mul_succ]
    omega
theorem law_rests_run {rows : List Wd} (h : OkR rows) {r : Wd} (hr : okw r) : F__law_rests [.fz (.list (rows.map wd)), .fz (wd r)] = .ok (.list ((rstL rows r).map wd)) [.un, .un] := by
  have n5 := h.few
  obtain ⟨ρ', e, x, lx, rfl⟩ := loop_pre (t := tgN 3) (b := B__law_rests_1) wd (fun d ρ => ∃ x, Loose x ∧ ρ = [.fz (.list (rows.map wd)), .fz (wd r), .ow false (.ls ((rstL d r).map wd)), x]) rows [] [.fz (.list (rows.map wd)), .fz (wd r), .ow false (.ls []), .un] ⟨.un, .un, rfl⟩ fun d w rr ρ q i => by
    obtain ⟨x, lx, rfl⟩ := i
    have q : rows = d ++ w :: rr := q
    have hw : w ∈ rows := by rw [q]; simp
    have ow := h.ok hw
    have ld : d.length ≤ 5 := by rw [q] at n5; simp at n5; omega
    have lf := flat_len (rlOne r) 2 (rlOne_len r) d
    have lf : ((rstL d r).map wd).length < 16777000 := by rw [List.length_map]; unfold rstL; omega
    have o1 := ow.1
    have o2 := hr.1
    refine ⟨[.fz (.list (rows.map wd)), .fz (wd r), .ow false (.ls ((rstL d r).map wd)), .fz (wd w)], [.fz (.list (rows.map wd)), .fz (wd r), .ow false (.ls ((rstL (d ++ [w]) r).map wd)), .fz (wd w)], ?_, ?_, .fz (wd w), .fz _, rfl⟩
    · show sto _ 3 _ = _
      rw [sto_loose (x := x) (Eq.trans rfl rfl) lx]
      rfl
    · have t1 := sl_to w r.length (by omega)
      have t2 := sl_to r w.length (by omega)
      have t3 := sl_from w r.length (by omega)
      have t4 := sl_from r w.length (by omega)
      have t5 := len_wd w (by omega)
      have t6 := len_wd r (by omega)
      have t7 := eq_wd (ow.take r.length) hr
      have t8 := eq_wd (hr.take w.length) ow
      rw [pre_take] at t7 t8
      have em : (rstL (d ++ [w]) r).map wd = (rstL d r).map wd ++ (rlOne r w).map wd := by unfold rstL; simp
      rw [em]
      generalize (rstL d r).map wd = F at lf
      have lf1 : F.length < 16777216 := by omega
      have lf2 : F.length + 1 < 16777216 := by omega
      unfold B__law_rests_1 rlOne
      by_cases c1 : r <+: w
      · by_cases c2 : w <+: r
        · simp [-Option.bind_some, -Option.bind_none, eSl, optE, mutS, t1, t2, t3, t4, t5, t6, t7, t8, c1, c2, lf1, lf2]
        · simp [-Option.bind_some, -Option.bind_none, eSl, optE, mutS, t1, t2, t3, t4, t5, t6, t7, t8, c1, c2, lf1]
      · by_cases c2 : w <+: r
        · simp [-Option.bind_some, -Option.bind_none, eSl, optE, mutS, t1, t2, t3, t4, t5, t6, t7, t8, c1, c2, lf1]
        · simp [-Option.bind_some, -Option.bind_none, eSl, optE, mutS, t1, t2, t3, t4, t5, t6, t7, t8, c1, c2]
  refine frun (ds := [.list (rows.map wd), wd r]) ⟨[.fz (.list (rows.map wd)), .fz (wd r), .fz (.list ((rstL rows r).map wd)), x], ?_⟩
  · show g__law_rests [.fz (.list (rows.map wd)), .fz (wd r), .un, .un] = _
    unfold g__law_rests
    have i1 : eIt (eV 0) [.fz (.list (rows.map wd)), .fz (wd r), .ow false (.ls []), .un] = .ok (rows.map wd) [.fz (.list (rows.map wd)), .fz (wd r), .ow false (.ls []), .un] := by simp
    have f1 : forS (eIt (eV 0)) (tgN 3) B__law_rests_1 [.fz (.list (rows.map wd)), .fz (wd r), .ow false (.ls []), .un] = .ok .nx [.fz (.list (rows.map wd)), .fz (wd r), .ow false (.ls ((rstL rows r).map wd)), x] := by
      rw [forS_ap, i1, Res.bind_ok]; exact e
    simp [-forS_ap, -Option.bind_some, -Option.bind_none, f1]
/-- what is left over, in the end -/
inductive Cl (rows : List Wd) : Wd → Prop
  | ini {r : Wd} : r ∈ ini rows → Cl rows r
  | step {r s : Wd} : Cl rows r → r ≠ [] → s ∈ rst rows r → Cl rows s
theorem mem_rstL {rows : List Wd} {r s : Wd} : s ∈ rstL rows r ↔ s ∈ rst rows r := by
  unfold rstL rst rlOne
  simp only [List.mem_flatten, List.mem_map, List.mem_append, List.mem_filter, decide_eq_true_eq]
  constructor
  · rintro ⟨l, ⟨w, hw, rfl⟩, hs⟩
    rcases List.mem_append.mp hs with q | q
    · split at q
      · rename_i c
        exact .inl ⟨w, ⟨hw, c⟩, (List.mem_singleton.mp q).symm⟩
      · simp at q
    · split at q
      · rename_i c
        exact .inr ⟨w, ⟨hw, c⟩, (List.mem_singleton.mp q).symm⟩
      · simp at q
  · rintro (⟨w, ⟨hw, c⟩, rfl⟩ | ⟨w, ⟨hw, c⟩, rfl⟩)
    · exact ⟨_, ⟨w, hw, rfl⟩, by simp [c]⟩
    · exact ⟨_, ⟨w, hw, rfl⟩, by simp [c]⟩
/-- all ends of rows -/
def tails (w : Wd) : List Wd := (List.range (w.length + 1)).map fun k => w.drop k
theorem mem_tails {w s : Wd} : s ∈ tails w ↔ s <:+ w := by
  unfold tails
  rw [List.mem_map]
  constructor
  · rintro ⟨k, _, rfl⟩; exact List.drop_suffix _ _
  · intro h
    refine ⟨w.length - s.length, List.mem_range.mpr (by omega), ?_⟩
    exact (List.suffix_iff_eq_drop.mp h).symm
def ends (rows : List Wd) : List Wd := (rows.map tails).flatten
theorem mem_ends {rows : List Wd} {s : Wd} : s ∈ ends rows ↔ ∃ w ∈ rows, s <:+ w := by
  unfold ends
  simp only [List.mem_flatten, List.mem_map]
  constructor
  · rintro ⟨l, ⟨w, hw, rfl⟩, hs⟩; exact ⟨w, hw, mem_tails.mp hs⟩
  · rintro ⟨w, hw, hs⟩; exact ⟨_, ⟨w, hw, rfl⟩, mem_tails.mpr hs⟩
theorem ends_len {rows : List Wd} (h : OkR rows) : (ends rows).length ≤ 65 := by
  have : ∀ l : List Wd, (∀ w ∈ l, w.length ≤ 12) → ((l.map tails).flatten).length ≤ 13 * l.length := fun l => by
    induction l with
    | nil => intro _; simp
    | cons w l ih =>
      intro q
      have := ih fun x hx => q x (by simp [hx])
      have := q w (by simp)
      have : (tails w).length = w.length + 1 := by unfold tails; simp
      simp only [List.map_cons, List.flatten_cons, List.length_append, List.length_cons]
      omega
  have := this rows h.ln
  have := h.few
  unfold ends
  omega
theorem mem_ini {rows : List Wd} {r : Wd} : r ∈ ini rows ↔ ∃ a ∈ rows, ∃ b ∈ rows, b ≠ a ∧ a <+: b ∧ r = b.drop a.length := by
  unfold ini
  simp only [List.mem_flatten, List.mem_map, List.mem_filter, Bool.and_eq_true, Bool.not_eq_true', decide_eq_false_iff_not, decide_eq_true_eq]
  constructor
  · rintro ⟨l, ⟨a, ha, rfl⟩, hr⟩
    obtain ⟨b, hb', rfl⟩ := List.mem_map.mp hr
    obtain ⟨hb, q⟩ := List.mem_filter.mp hb'
    simp only [Bool.and_eq_true, Bool.not_eq_true', decide_eq_false_iff_not, decide_eq_true_eq] at q
    exact ⟨a, ha, b, hb, q.1, q.2, rfl⟩
  · rintro ⟨a, ha, b, hb, q1, q2, rfl⟩
    exact ⟨_, ⟨a, ha, rfl⟩, List.mem_map.mpr ⟨b, List.mem_filter.mpr ⟨hb, by simp [q1, q2]⟩, rfl⟩⟩
theorem mem_rst {rows : List Wd} {r s : Wd} : s ∈ rst rows r ↔ ∃ w ∈ rows, (r <+: w ∧ s = w.drop r.length) ∨ (w <+: r ∧ s = r.drop w.length) := by
  unfold rst
  simp only [List.mem_append, List.mem_map, List.mem_filter, decide_eq_true_eq]
  constructor
  · rintro (⟨w, ⟨hw, c⟩, rfl⟩ | ⟨w, ⟨hw, c⟩, rfl⟩)
    · exact ⟨w, hw, .inl ⟨c, rfl⟩⟩
    · exact ⟨w, hw, .inr ⟨c, rfl⟩⟩
  · rintro ⟨w, hw, ⟨c, rfl⟩ | ⟨c, rfl⟩⟩
    · exact .inl ⟨w, ⟨hw, c⟩, rfl⟩
    · exact .inr ⟨w, ⟨hw, c⟩, rfl⟩
theorem cl_ends {rows : List Wd} {r : Wd} (h : Cl rows r) : r ∈ ends rows := by
  induction h with
  | ini q =>
    obtain ⟨a, ha, b, hb, _, _, rfl⟩ := mem_ini.mp q
    exact mem_ends.mpr ⟨b, hb, List.drop_suffix _ _⟩
  | @step r s _ _ q ih =>
    obtain ⟨w, hw, ⟨_, rfl⟩ | ⟨_, rfl⟩⟩ := mem_rst.mp q
    · exact mem_ends.mpr ⟨w, hw, List.drop_suffix _ _⟩
    · obtain ⟨v, hv, sv⟩ := mem_ends.mp ih
      exact mem_ends.mpr ⟨v, hv, (List.drop_suffix _ _).trans sv⟩
theorem ends_ok {rows : List Wd} (h : OkR rows) {s : Wd} (hs : s ∈ ends rows) : okw s ∧ s.length ≤ 12 := by
  obtain ⟨w, hw, q⟩ := mem_ends.mp hs
  have o := h.ok hw
  have l := q.length_le
  have := h.ln w hw
  exact ⟨⟨by omega, fun c hc => o.2 c (q.subset hc)⟩, by omega⟩
end K65
end
section
set_option autoImplicit false
set_option maxRecDepth 100000
set_option Elab.async false
set_option linter.all false
namespace K65
open PySem DL L2 SX
theorem em_wd : PyData.str (Str.ofString "") = wd [] := rfl
/-- sorted, of words -/
def srt (l : List Wd) : List D := (ssort (l.map S)).map PyData.str
theorem S_nodup {l : List Wd} (h : l.Nodup) : (l.map S).Nodup := by
  unfold List.Nodup at *
  rw [List.pairwise_map]
  exact h.imp fun q z => q (S_inj z)
theorem mem_S {l : List Wd} {x : Wd} : S x ∈ l.map S ↔ x ∈ l := by
  rw [List.mem_map]
  exact ⟨fun ⟨y, h, e⟩ => S_inj e ▸ h, fun h => ⟨x, h, rfl⟩⟩
theorem srt_ext {l m : List Wd} (h : ∀ x, x ∈ l ↔ x ∈ m) : srt l = srt m := by
  unfold srt
  have e : ssort (l.map S) = ssort (m.map S) := by
    refine ssort_of (nodup_dedup _) fun x => ?_
    rw [mem_dedup, List.mem_map, List.mem_map]
    constructor
    · rintro ⟨y, a, b⟩; exact ⟨y, (h y).mp a, b⟩
    · rintro ⟨y, a, b⟩; exact ⟨y, (h y).mpr a, b⟩
  rw [e]
theorem sortO_wd {l : List Wd} (h : l.Nodup) : sortO (.list (l.map wd)) = some (.ls (srt l)) := by
  have ok : sortOk (l.map wd) = true := by
    unfold sortOk
    simp only [Bool.and_eq_true, Bool.or_eq_true, List.all_eq_true, decide_eq_true_eq, List.mem_map]
    refine ⟨⟨?_, ?_⟩, .inr ?_⟩
    · rintro _ ⟨a, _, rfl⟩ _ ⟨b, _, rfl⟩; rfl
    · rintro _ ⟨a, _, rfl⟩; exact Nat.zero_le _
    · rintro _ ⟨a, _, rfl⟩; rfl
  have e1 : l.map wd = (l.map S).map PyData.str := by rw [List.map_map]; rfl
  have e : sortL (l.map wd) = ((l.map S).mergeSort sLe).map PyData.str := by
    unfold sortL
    rw [e1]
    have q1 : PySem.W.dataLe false PyData.str = sLe := PySem.W.dataLe_str (fun y : Str => y)
    have z := PySem.W.sort_maps (r := sLe) (s := PySem.W.dataLe false id) PyData.str (l := l.map S) fun a _ b _ => by rw [← q1]; rfl
    exact z.symm
  show (if sortOk (l.map wd) = true then some (Ob.ls (sortL (l.map wd))) else none) = _
  rw [if_pos ok, e, ssort_of (S_nodup h) fun _ => Iff.rfl]
  rfl
theorem sortset_wd {l : List Wd} (h : l.length ≤ 4000) : sortsetT (.list (l.map wd)) = some (.ls (srt l)) := by
  show ((strsOf (l.map wd)).bind fun ys => if ys.length ≤ 4000 then some (Ob.ls ((ssort ys).map .str)) else none) = _
  rw [strsOf_wd, obind, if_pos (by rw [List.length_map]; exact h)]
  rfl
/-- the words of a sorted list -/
theorem srt_wd (l : List Wd) : ∃ m : List Wd, srt l = m.map wd ∧ m.Nodup ∧ ∀ x, x ∈ m ↔ x ∈ l := by
  refine ⟨(ssort (l.map S)).map fun y => y.cps.toList, ?_, ?_, fun x => ?_⟩
  · rw [List.map_map]
    exact List.map_congr_left fun y _ => congrArg PyData.str (S_tl y).symm
  · have n : (ssort (l.map S)).Nodup := (List.mergeSort_perm _ _).nodup_iff.mpr (nodup_dedup _)
    unfold List.Nodup at *
    rw [List.pairwise_map]
    exact n.imp fun q z => q (str_ext z)
  · rw [List.mem_map]
    constructor
    · rintro ⟨y, h, rfl⟩
      have := mem_dedup.mp ((List.mergeSort_perm _ _).mem_iff.mp h)
      rw [← S_tl y] at this
      exact mem_S.mp this
    · intro h
      exact ⟨S x, (List.mergeSort_perm _ _).mem_iff.mpr (mem_dedup.mpr (mem_S.mpr h)), rfl⟩
/-! ### the program's remainders -/
def iniP (rows d : List Wd) : List Wd := (d.map fun a => (rows.filter fun b => !decide (b = a) && decide (a <+: b)).map fun b => b.drop a.length).flatten
theorem iniP_len {rows : List Wd} (h : OkR rows) (d : List Wd) (hd : d.length ≤ 5) : (iniP rows d).length ≤ 25 := by
  have := flat_len (fun a => (rows.filter fun b => !decide (b = a) && decide (a <+: b)).map fun b => b.drop a.length) 5 (fun a => by
    rw [List.length_map]
    have := h.few
    have := List.length_filter_le (fun b => !decide (b = a) && decide (a <+: b)) rows
    omega) d
  unfold iniP
  omega
theorem rst_len {rows : List Wd} (h : OkR rows) (r : Wd) : (rst rows r).length ≤ 10 := by
  unfold rst
  rw [List.length_append, List.length_map, List.length_map]
  have := h.few
  have := List.length_filter_le (fun w => decide (r <+: w)) rows
  have := List.length_filter_le (fun w => decide (w <+: r)) rows
  omega
theorem rem_loop {rows : List Wd} (h : OkR rows) : ∃ x, Loose x ∧ forS (eIt (eV 0)) (tgN 3) B_remainders_1 [.fz (.list (rows.map wd)), .ow false (.ls []), .ow false (.ls []), .un, .un, .un] = .ok .nx [.fz (.list (rows.map wd)), .ow false (.ls []), .ow false (.ls ((ini rows).map wd)), x, .un, .un] := by
  have n5 := h.few
  obtain ⟨ρ', e, x, lx, rfl⟩ := loop_pre (t := tgN 3) (b := B_remainders_1) wd (fun d ρ => ∃ x, Loose x ∧ ρ = [.fz (.list (rows.map wd)), .ow false (.ls []), .ow false (.ls ((iniP rows d).map wd)), x, .un, .un]) rows [] [.fz (.list (rows.map wd)), .ow false (.ls []), .ow false (.ls []), .un, .un, .un] ⟨.un, .un, rfl⟩ fun d a rr ρ q i => by
    obtain ⟨x, lx, rfl⟩ := i
    have q : rows = d ++ a :: rr := q
    have ha : a ∈ rows := by rw [q]; simp
    have oa := h.ok ha
    have ld : d.length ≤ 5 := by rw [q] at n5; simp at n5; omega
    have lf := iniP_len h d ld
    have o1 := oa.1
    refine ⟨[.fz (.list (rows.map wd)), .ow false (.ls []), .ow false (.ls ((iniP rows d).map wd)), .fz (wd a), .un, .un], [.fz (.list (rows.map wd)), .ow false (.ls []), .ow false (.ls ((iniP rows (d ++ [a])).map wd)), .fz (wd a), .un, .un], ?_, ?_, .fz (wd a), .fz _, rfl⟩
    · show sto _ 3 _ = _
      rw [sto_loose (x := x) (Eq.trans rfl rfl) lx]
      rfl
    · have c1 : ∀ y, lcE (eIt (eV 0)) (tgN 5) (eAnd (eT (e2 neD (.b 5) (.b 3))) (e1 truD (.g (eM1 swD (eV 5) (.b 3))))) (eSl slD (.b 5) (some (e1 lenD (.b 3))) none) [5] [.fz (.list (rows.map wd)), .ow false (.ls []), y, .fz (wd a), .un, .un] = .ok (.ls ((rows.filter fun b => !decide (b = a) && decide (a <+: b)).map fun b => wd (b.drop a.length))) [.fz (.list (rows.map wd)), .ow false (.ls []), y, .fz (wd a), .un, .un] := fun y => by
        refine lcE_pure wd (fun b => !decide (b = a) && decide (a <+: b)) (fun b => wd (b.drop a.length)) rows (ρ1 := [.fz (.list (rows.map wd)), .ow false (.ls []), y, .fz (wd a), .un, .un]) (by simp) rfl (by omega) fun b hb => ?_
        have ob := h.ok hb
        have o2 := ob.1
        have t1 := ne_wd ob oa
        have t2 := sw_S b a
        have t3 := sl_from b a.length (by omega)
        have t4 := len_wd a (by omega)
        refine ⟨[.fz (.list (rows.map wd)), .ow false (.ls []), y, .fz (wd a), .un, .fz (wd b)], rfl, rfl, ?_, fun q => ?_⟩
        · have ew : (wd b) = .str (S b) := rfl
          by_cases c : b = a
          · simp [-Option.bind_some, -Option.bind_none, t1, c]
            rw [c] at t1
            simp [t1]
          · simp [-Option.bind_some, -Option.bind_none, t1, c]
            simp [-Option.bind_some, -Option.bind_none, ew, t2, truD]
        · simp [-Option.bind_some, -Option.bind_none, t3, t4, eSl, optE]
      have em : (iniP rows (d ++ [a])).map wd = (iniP rows d).map wd ++ (rows.filter fun b => !decide (b = a) && decide (a <+: b)).map fun b => wd (b.drop a.length) := by
        unfold iniP; simp [Function.comp_def]
      have l2 : (rows.filter fun b => !decide (b = a) && decide (a <+: b)).length ≤ rows.length := List.length_filter_le _ _
      have lz : (iniP rows d).length + (rows.filter fun b => !decide (b = a) && decide (a <+: b)).length ≤ 16777216 := by omega
      rw [em]
      unfold B_remainders_1
      generalize (rows.filter fun b => !decide (b = a) && decide (a <+: b)) = F at *
      simp [-lcE_ap, -Option.bind_some, -Option.bind_none, mutS, c1, extF, lz]
  refine ⟨x, lx, ?_⟩
  have i1 : eIt (eV 0) [.fz (.list (rows.map wd)), .ow false (.ls []), .ow false (.ls []), .un, .un, .un] = .ok (rows.map wd) [.fz (.list (rows.map wd)), .ow false (.ls []), .ow false (.ls []), .un, .un, .un] := by simp
  rw [forS_ap, i1, Res.bind_ok]
  exact e
end K65
end
section
set_option autoImplicit false
set_option maxRecDepth 100000
set_option Elab.async false
set_option linter.all false
namespace K65
open PySem DL L2 SX
/-- found and left: what is left over so far -/
structure RI (rows : List Wd) (f l : List Wd) : Prop where
  nd : f.Nodup
  cf : ∀ x ∈ f, Cl rows x
  cl : ∀ x ∈ l, Cl rows x
  hi : ∀ x ∈ ini rows, x ∈ f ∨ x ∈ l
  hs : ∀ x ∈ f, x ≠ [] → ∀ s ∈ rst rows x, s ∈ f ∨ s ∈ l
  ln : l.length ≤ 25 + 10 * f.length
theorem RI.few {rows f l : List Wd} (h : OkR rows) (i : RI rows f l) : f.length ≤ 65 := by
  have := nodup_sub_len i.nd fun x hx => cl_ends (i.cf x hx)
  have := ends_len h
  omega
theorem RI.all {rows f : List Wd} (i : RI rows f []) : ∀ x, x ∈ f ↔ Cl rows x := fun x => by
  refine ⟨i.cf x, fun c => ?_⟩
  induction c with
  | ini q => exact (i.hi _ q).resolve_right (by simp)
  | step _ ne q ih => exact (i.hs _ ih ne _ q).resolve_right (by simp)
theorem RI.okf {rows f l : List Wd} (h : OkR rows) (i : RI rows f l) : ∀ x ∈ f, okw x := fun x hx => (ends_ok h (cl_ends (i.cf x hx))).1
def stR (rows f l : List Wd) (x3 x4 x5 : Sl) : Rho := [.fz (.list (rows.map wd)), .ow false (.ls (f.map wd)), .ow false (.ls (l.map wd)), x3, x4, x5]
theorem rem_turn {rows : List Wd} (h : OkR rows) (f l : List Wd) (r : Wd) (x3 x4 x5 : Sl) (l4 : Loose x4) (i : RI rows f (l ++ [r])) :
    ∃ f' l' x4', Loose x4' ∧ B_remainders_2 (stR rows f (l ++ [r]) x3 x4 x5) = .ok .nx (stR rows f' l' x3 x4' x5) ∧ RI rows f' l' ∧ l'.length + 11 * (66 - f'.length) < (l ++ [r]).length + 11 * (66 - f.length) := by
  have cr := i.cl r (by simp)
  have okr := (ends_ok h (cl_ends cr)).1
  have t1 := nin_wd okr (i.okf h)
  have t2 := ne_wd okr (⟨by simp, fun c hc => by simp at hc⟩ : okw [])
  have lf := i.few h
  have ll := i.ln
  have p0 : setS 4 (pop0E 2) (stR rows f (l ++ [r]) x3 x4 x5) = .ok .nx (stR rows f l x3 (.fz (wd r)) x5) := by
    have e1 : ((l.map wd) ++ [wd r])[l.length]? = some (wd r) := by
      rw [List.getElem?_append_right (by simp)]
      simp
    have e2 : pop0E 2 (stR rows f (l ++ [r]) x3 x4 x5) = .ok (wd r) (stR rows f l x3 x4 x5) := by
      show (match ((l ++ [r]).map wd)[((l ++ [r]).map wd).length - 1]? with
        | some x => Res.ok x _
        | none => .no) = _
      have e3 : ((l ++ [r]).map wd)[((l ++ [r]).map wd).length - 1]? = some (wd r) := by
        simp only [List.map_append, List.map_cons, List.map_nil, List.length_append, List.length_map, List.length_cons, List.length_nil]
        exact e1
      rw [e3]
      show Res.ok _ _ = _
      unfold stR
      simp
    rw [setS_ap, e2]
    simp only [Res.bind_ok, stR]
    rw [sto_loose (x := x4) (Eq.trans rfl rfl) l4]
    rfl
  unfold B_remainders_2
  by_cases c : r ∈ f
  · refine ⟨f, l, .fz (wd r), .fz _, ?_, ⟨i.nd, i.cf, fun x hx => i.cl x (by simp [hx]), fun x hx => ?_, fun x hx ne s hs => ?_, by rw [List.length_append] at ll; simp at ll; omega⟩, by simp⟩
    · simp only [seqS_ap, p0, Res.bind_ok]
      have e : eT (e2 notInD (.b 4) (.b 1)) (stR rows f l x3 (.fz (wd r)) x5) = .ok false (stR rows f l x3 (.fz (wd r)) x5) := by
        simp [-Option.bind_some, -Option.bind_none, stR, t1, c]
      simp only [ifS_ap, e, Res.bind_ok]
      rfl
    · rcases i.hi x hx with q | q
      · exact .inl q
      · rcases List.mem_append.mp q with q | q
        · exact .inr q
        · rw [List.mem_singleton.mp q]; exact .inl c
    · rcases i.hs x hx ne s hs with q | q
      · exact .inl q
      · rcases List.mem_append.mp q with q | q
        · exact .inr q
        · rw [List.mem_singleton.mp q]; exact .inl c
  · have e0 : eT (e2 notInD (.b 4) (.b 1)) (stR rows f l x3 (.fz (wd r)) x5) = .ok true (stR rows f l x3 (.fz (wd r)) x5) := by
      simp [-Option.bind_some, -Option.bind_none, stR, t1, c]
    have la : f.length < 16777216 := by omega
    have e1 : mutS appF 1 (eV 4) (stR rows f l x3 (.fz (wd r)) x5) = .ok .nx (stR rows (f ++ [r]) l x3 (.fz (wd r)) x5) := by
      simp [-Option.bind_some, -Option.bind_none, stR, mutS, la]
    have n1 : (f ++ [r]).Nodup := by
      rw [List.nodup_append]
      refine ⟨i.nd, by simp, fun a ha b hb q => ?_⟩
      rw [List.mem_singleton.mp hb] at q
      exact c (q ▸ ha)
    have m1 : ∀ x ∈ f ++ [r], Cl rows x := fun x hx => by
      rcases List.mem_append.mp hx with q | q
      · exact i.cf x q
      · rw [List.mem_singleton.mp q]; exact cr
    by_cases z : r = []
    · refine ⟨f ++ [r], l, .fz (wd r), .fz _, ?_, ⟨n1, m1, fun x hx => i.cl x (by simp [hx]), fun x hx => ?_, fun x hx ne s hs => ?_, by simp at ll ⊢; omega⟩, by simp; omega⟩
      · simp only [seqS_ap, p0, Res.bind_ok, ifS_ap, e0, if_true, e1]
        simp [-Option.bind_some, -Option.bind_none, stR, em_wd, t2, z]
        rw [z] at t2
        simp [t2]
      · rcases i.hi x hx with q | q
        · exact .inl (by simp [q])
        · rcases List.mem_append.mp q with q | q
          · exact .inr q
          · exact .inl (by simp [List.mem_singleton.mp q])
      · rcases List.mem_append.mp hx with q | q
        · rcases i.hs x q ne s hs with q | q
          · exact .inl (by simp [q])
          · rcases List.mem_append.mp q with q | q
            · exact .inr q
            · exact .inl (by simp [List.mem_singleton.mp q])
        · exact absurd ((List.mem_singleton.mp q).trans z) ne
    · have rr := rests_run h okr
      have l2 := rst_len h r
      have lz : l.length + (rst rows r).length ≤ 16777216 := by simp at ll; omega
      have ecall : callE F_rests_of [.g (eV 0), .g (eV 4)] (stR rows (f ++ [r]) l x3 (.fz (wd r)) x5) = .ok (.list ((rst rows r).map wd)) (stR rows (f ++ [r]) l x3 (.fz (wd r)) x5) :=
        call2 (by simp [stR]) (by simp [stR]) rr
      refine ⟨f ++ [r], l ++ rst rows r, .fz (wd r), .fz _, ?_, ⟨n1, m1, fun x hx => ?_, fun x hx => ?_, fun x hx ne s hs => ?_, by simp at ll ⊢; omega⟩, by simp; omega⟩
      · have e3 : eT (e2 neD (.b 4) (.g (eC (.str (Str.ofString ""))))) (stR rows (f ++ [r]) l x3 (.fz (wd r)) x5) = .ok true (stR rows (f ++ [r]) l x3 (.fz (wd r)) x5) := by
          simp [-Option.bind_some, -Option.bind_none, stR, em_wd, t2, z]
        have e4 : mutS extF 2 (callE F_rests_of [.g (eV 0), .g (eV 4)]) (stR rows (f ++ [r]) l x3 (.fz (wd r)) x5) = .ok .nx (stR rows (f ++ [r]) (l ++ rst rows r) x3 (.fz (wd r)) x5) := by
          have := mutS_run (f := extF) (i := 2) (ρ := stR rows (f ++ [r]) l x3 (.fz (wd r)) x5) (b := false) (xs := l.map wd) (ys := l.map wd ++ (rst rows r).map wd) rfl ecall (b' := false) (xs' := l.map wd) rfl (by simp [extF, lz])
          rw [this]
          simp [stR]
        simp only [seqS_ap, p0, Res.bind_ok, ifS_ap, e0, if_true, e1, e3, e4]
      · rcases List.mem_append.mp hx with q | q
        · exact i.cl x (by simp [q])
        · exact .step cr z q
      · rcases i.hi x hx with q | q
        · exact .inl (by simp [q])
        · rcases List.mem_append.mp q with q | q
          · exact .inr (by simp [q])
          · exact .inl (by simp [List.mem_singleton.mp q])
      · rcases List.mem_append.mp hx with q | q
        · rcases i.hs x q ne s hs with q | q
          · exact .inl (by simp [q])
          · rcases List.mem_append.mp q with q | q
            · exact .inr (by simp [q])
            · exact .inl (by simp [List.mem_singleton.mp q])
        · rw [List.mem_singleton.mp q] at hs
          exact .inr (by simp [hs])
theorem iniP_rows (rows : List Wd) : iniP rows rows = ini rows := rfl
theorem remainders_run {rows : List Wd} (h : OkR rows) : ∃ l : List Wd, l.Nodup ∧ (∀ x, x ∈ l ↔ Cl rows x) ∧ F_remainders [.fz (.list (rows.map wd))] = .ok (.list (srt l)) [.un] := by
  obtain ⟨x, lx, el⟩ := rem_loop h
  have i0 : RI rows [] (ini rows) := ⟨.nil, fun _ q => by simp at q, fun x q => .ini q, fun x q => .inr q, fun _ q => by simp at q, by have := iniP_len h rows h.few; rw [iniP_rows] at this; simp; omega⟩
  have w := while_st (c := C_remainders_2) (b := B_remainders_2) (fun (s : List Wd × List Wd) ρ => ∃ x3 x4 x5, Loose x3 ∧ Loose x4 ∧ Loose x5 ∧ ρ = stR rows s.1 s.2 x3 x4 x5 ∧ RI rows s.1 s.2) (fun s => s.2.length + 11 * (66 - s.1.length))
    (fun ρ => ∃ f x3 x4 x5, ρ = stR rows f [] x3 x4 x5 ∧ RI rows f []) (fun _ => False) (fun s ρ hi => by
      obtain ⟨f, l⟩ := s
      obtain ⟨x3, x4, x5, h3, h4, h5, rfl, i⟩ := hi
      rcases List.eq_nil_or_concat l with rfl | ⟨l', r, rfl⟩
      · refine .inl ⟨_, ?_, f, x3, x4, x5, rfl, i⟩
        unfold C_remainders_2
        simp [-Option.bind_some, -Option.bind_none, stR, truD]
      · rw [List.concat_eq_append] at i ⊢
        obtain ⟨f', l2, x4', h4', e, i', m⟩ := rem_turn h f l' r x3 x4 x5 h4 i
        refine .inr ⟨_, ?_, .inl ⟨(f', l2), _, e, ⟨x3, x4', x5, h3, h4', h5, rfl, i'⟩, m⟩⟩
        unfold C_remainders_2
        simp [-Option.bind_some, -Option.bind_none, stR, truD]) 100000 ([], ini rows) (stR rows [] (ini rows) x .un .un) ⟨x, .un, .un, lx, .un, .un, rfl, i0⟩ (by have := iniP_len h rows h.few; rw [iniP_rows] at this; simp; omega)
  rcases w with ⟨ρ', ew, f, x3, x4, x5, rfl, i⟩ | ⟨_, _, _, q⟩
  · refine ⟨f, i.nd, i.all, frun (ds := [.list (rows.map wd)]) ⟨stR rows f [] x3 x4 x5, ?_⟩⟩
    show g_remainders [.fz (.list (rows.map wd)), .un, .un, .un, .un, .un] = _
    unfold g_remainders
    have so := sortO_wd i.nd
    have e1 : setO 1 (eLst []) [.fz (.list (rows.map wd)), .un, .un, .un, .un, .un] = .ok .nx [.fz (.list (rows.map wd)), .ow false (.ls []), .un, .un, .un, .un] := by simp
    have e2 : setO 2 (eLst []) [.fz (.list (rows.map wd)), .ow false (.ls []), .un, .un, .un, .un] = .ok .nx [.fz (.list (rows.map wd)), .ow false (.ls []), .ow false (.ls []), .un, .un, .un] := by simp
    simp only [seqS_ap, e1, e2, Res.bind_ok, el]
    have ew' : whileS C_remainders_2 B_remainders_2 100000 [.fz (.list (rows.map wd)), .ow false (.ls []), .ow false (.ls ((ini rows).map wd)), x, .un, .un] = .ok .nx (stR rows f [] x3 x4 x5) := ew
    simp only [ew', Res.bind_ok]
    simp [-Option.bind_some, -Option.bind_none, stR, so]
  · exact q.elim
end K65
end
section
set_option autoImplicit false
set_option maxRecDepth 100000
set_option Elab.async false
set_option linter.all false
namespace K65
open PySem DL L2 SX
/-! ### the law's look at what is left over -/
structure LI (rows : List Wd) (f l : List Wd) : Prop where
  cf : ∀ x ∈ f, Cl rows x
  cl : ∀ x ∈ l, Cl rows x
  hi : ∀ x ∈ ini rows, x ∈ f ∨ x ∈ l
  hs : ∀ x ∈ f, x ≠ [] → ∀ s ∈ rst rows x, s ∈ f ∨ s ∈ l
  lf : f.length ≤ (dedup f).length + 25
  ll : l.length ≤ 65
  ln : l.Nodup ∨ (f = [] ∧ l.length ≤ 25)
def fresh (f l : List Wd) : List Wd := l.filter fun x => !decide (x ∈ f)
theorem dedup_le {rows f : List Wd} (h : OkR rows) (cf : ∀ x ∈ f, Cl rows x) : (dedup f).length ≤ 65 := by
  have := nodup_sub_len (nodup_dedup f) fun x hx => cl_ends (cf x (mem_dedup.mp hx))
  have := ends_len h
  omega
def madeP (rows l : List Wd) : List Wd := (l.map fun r => if r = [] then [] else rstL rows r).flatten
theorem rstL_len {rows : List Wd} (h : OkR rows) (r : Wd) : (rstL rows r).length ≤ 10 := by
  have := flat_len (rlOne r) 2 (rlOne_len r) rows
  have := h.few
  unfold rstL
  omega
theorem madeP_len {rows : List Wd} (h : OkR rows) (l : List Wd) : (madeP rows l).length ≤ 10 * l.length :=
  flat_len _ 10 (fun r => by split <;> first | exact Nat.zero_le _ | exact rstL_len h r) l
theorem LI.next {rows f l : List Wd} (h : OkR rows) (i : LI rows f l) (ne : fresh f l ≠ []) (l2 : List Wd) (n2 : l2.Nodup) (m2 : ∀ x, x ∈ l2 ↔ x ∈ madeP rows l) :
    LI rows (f ++ fresh f l) l2 ∧ (dedup f).length < (dedup (f ++ fresh f l)).length := by
  have mf : ∀ x, x ∈ fresh f l ↔ x ∈ l ∧ x ∉ f := fun x => by
    unfold fresh
    rw [List.mem_filter]
    simp
  have cf : ∀ x ∈ f ++ fresh f l, Cl rows x := fun x hx => (List.mem_append.mp hx).elim (i.cf x) fun q => i.cl x ((mf x).mp q).1
  have into : ∀ x, x ∈ f ∨ x ∈ l → x ∈ f ++ fresh f l := fun x q => by
    by_cases c : x ∈ f
    · simp [c]
    · exact List.mem_append.mpr (.inr ((mf x).mpr ⟨q.resolve_left c, c⟩))
  have cm : ∀ x ∈ l2, Cl rows x := fun x hx => by
    have q := (m2 x).mp hx
    unfold madeP at q
    simp only [List.mem_flatten, List.mem_map] at q
    obtain ⟨t, ⟨r, hr, rfl⟩, hx⟩ := q
    split at hx
    · simp at hx
    · rename_i c
      exact .step (i.cl r hr) c (mem_rstL.mp hx)
  have grow : (dedup f).length + 1 ≤ (dedup (f ++ fresh f l)).length := by
    obtain ⟨y, hy⟩ := List.exists_mem_of_ne_nil _ ne
    have q := (mf y).mp hy
    have := nodup_sub_len (l := y :: dedup f) (m := dedup (f ++ fresh f l)) (List.nodup_cons.mpr ⟨fun z => q.2 (mem_dedup.mp z), nodup_dedup f⟩) fun x hx => by
      rw [mem_dedup]
      rcases List.mem_cons.mp hx with e | e
      · rw [e]; exact List.mem_append.mpr (.inr hy)
      · exact List.mem_append.mpr (.inl (mem_dedup.mp e))
    simpa using this
  refine ⟨⟨cf, cm, fun x hx => .inl (into x (i.hi x hx)), fun x hx nx s hs => ?_, ?_, ?_, .inl n2⟩, grow⟩
  · rcases List.mem_append.mp hx with q | q
    · exact .inl (into s (i.hs x q nx s hs))
    · refine .inr ((m2 s).mpr ?_)
      unfold madeP
      simp only [List.mem_flatten, List.mem_map]
      exact ⟨_, ⟨x, ((mf x).mp q).1, rfl⟩, by rw [if_neg nx]; exact mem_rstL.mpr hs⟩
  · rw [List.length_append]
    rcases i.ln with n | ⟨n, nl⟩
    · have nf : (fresh f l).Nodup := n.filter _
      have := nodup_sub_len (l := dedup f ++ fresh f l) (m := dedup (f ++ fresh f l)) (by
        rw [List.nodup_append]
        refine ⟨nodup_dedup f, nf, fun a ha b hb e => ?_⟩
        exact ((mf b).mp hb).2 (e ▸ mem_dedup.mp ha)) fun x hx => by
        rw [mem_dedup]
        rcases List.mem_append.mp hx with e | e
        · exact List.mem_append.mpr (.inl (mem_dedup.mp e))
        · exact List.mem_append.mpr (.inr e)
      rw [List.length_append] at this
      have := i.lf
      omega
    · have : (fresh f l).length ≤ l.length := List.length_filter_le _ _
      rw [n]
      simp only [List.length_nil]
      have e : fresh f l = fresh [] l := by rw [n]
      rw [n] at this
      omega
  · have := nodup_sub_len n2 fun x hx => cl_ends (cm x hx)
    have := ends_len h
    omega
def stL (rows f l : List Wd) (x3 x4 x5 x6 : Sl) : Rho := [.fz (.list (rows.map wd)), .ow false (.ls (f.map wd)), .ow false (.ls (l.map wd)), x3, x4, x5, x6]
theorem freshE {rows f l : List Wd} (cf : ∀ x ∈ f, okw x) (cl : ∀ x ∈ l, okw x) (hl : l.length ≤ 1000) (b : Sl) (hb : b = .ow false (.ls (l.map wd)) ∨ b = .fz (.list (l.map wd))) (x3 x4 x5 x6 : Sl) :
    lcE (eIt (eV 2)) (tgN 5) (eT (e2 notInD (.b 5) (.b 1))) (eV 5) [5] [.fz (.list (rows.map wd)), .ow false (.ls (f.map wd)), b, x3, x4, x5, x6] = .ok (.ls ((fresh f l).map wd)) [.fz (.list (rows.map wd)), .ow false (.ls (f.map wd)), .fz (.list (l.map wd)), x3, x4, .un, x6] := by
  refine lcE_pure wd (fun x => !decide (x ∈ f)) wd l (ρ1 := [.fz (.list (rows.map wd)), .ow false (.ls (f.map wd)), .fz (.list (l.map wd)), x3, x4, x5, x6]) (by rcases hb with rfl | rfl <;> simp) rfl (by omega) fun r hr => ?_
  have t1 := nin_wd (cl r hr) cf
  exact ⟨[.fz (.list (rows.map wd)), .ow false (.ls (f.map wd)), .fz (.list (l.map wd)), x3, x4, .fz (wd r), x6], rfl, rfl, by simp [-Option.bind_some, -Option.bind_none, t1], fun _ => by simp⟩
theorem lo_loop {rows : List Wd} (h : OkR rows) : ∃ x, Loose x ∧ forS (eIt (eV 0)) (tgN 3) B__law_left_over_1 [.fz (.list (rows.map wd)), .ow false (.ls []), .ow false (.ls []), .un, .un, .un, .un] = .ok .nx [.fz (.list (rows.map wd)), .ow false (.ls []), .ow false (.ls ((ini rows).map wd)), x, .un, .un, .un] := by
  have n5 := h.few
  obtain ⟨ρ', e, x, lx, rfl⟩ := loop_pre (t := tgN 3) (b := B__law_left_over_1) wd (fun d ρ => ∃ x, Loose x ∧ ρ = [.fz (.list (rows.map wd)), .ow false (.ls []), .ow false (.ls ((iniP rows d).map wd)), x, .un, .un, .un]) rows [] [.fz (.list (rows.map wd)), .ow false (.ls []), .ow false (.ls []), .un, .un, .un, .un] ⟨.un, .un, rfl⟩ fun d a rr ρ q i => by
    obtain ⟨x, lx, rfl⟩ := i
    have q : rows = d ++ a :: rr := q
    have ha : a ∈ rows := by rw [q]; simp
    have oa := h.ok ha
    have ld : d.length ≤ 5 := by rw [q] at n5; simp at n5; omega
    have lf := iniP_len h d ld
    have o1 := oa.1
    refine ⟨[.fz (.list (rows.map wd)), .ow false (.ls []), .ow false (.ls ((iniP rows d).map wd)), .fz (wd a), .un, .un, .un], [.fz (.list (rows.map wd)), .ow false (.ls []), .ow false (.ls ((iniP rows (d ++ [a])).map wd)), .fz (wd a), .un, .un, .un], ?_, ?_, .fz (wd a), .fz _, rfl⟩
    · show sto _ 3 _ = _
      rw [sto_loose (x := x) (Eq.trans rfl rfl) lx]
      rfl
    · have c1 : ∀ y, lcE (eIt (eV 0)) (tgN 6) (eAnd (eT (e2 neD (.b 6) (.b 3))) (eT (e2 eqD (.g (eSl slD (.b 6) none (some (e1 lenD (.b 3))))) (.b 3)))) (eSl slD (.b 6) (some (e1 lenD (.b 3))) none) [6] [.fz (.list (rows.map wd)), .ow false (.ls []), y, .fz (wd a), .un, .un, .un] = .ok (.ls ((rows.filter fun b => !decide (b = a) && decide (a <+: b)).map fun b => wd (b.drop a.length))) [.fz (.list (rows.map wd)), .ow false (.ls []), y, .fz (wd a), .un, .un, .un] := fun y => by
        refine lcE_pure wd (fun b => !decide (b = a) && decide (a <+: b)) (fun b => wd (b.drop a.length)) rows (ρ1 := [.fz (.list (rows.map wd)), .ow false (.ls []), y, .fz (wd a), .un, .un, .un]) (by simp) rfl (by omega) fun b hb => ?_
        have ob := h.ok hb
        have o2 := ob.1
        have t1 := ne_wd ob oa
        have t2 := sl_to b a.length (by omega)
        have t3 := sl_from b a.length (by omega)
        have t4 := len_wd a (by omega)
        have t5 := eq_wd (ob.take a.length) oa
        rw [pre_take] at t5
        refine ⟨[.fz (.list (rows.map wd)), .ow false (.ls []), y, .fz (wd a), .un, .un, .fz (wd b)], rfl, rfl, ?_, fun q => ?_⟩
        · by_cases c : b = a
          · simp [-Option.bind_some, -Option.bind_none, t1, c]
            rw [c] at t1
            simp [t1]
          · simp [-Option.bind_some, -Option.bind_none, t1, c, eSl, optE, t2, t4, t5]
        · simp [-Option.bind_some, -Option.bind_none, t3, t4, eSl, optE]
      have em : (iniP rows (d ++ [a])).map wd = (iniP rows d).map wd ++ (rows.filter fun b => !decide (b = a) && decide (a <+: b)).map fun b => wd (b.drop a.length) := by
        unfold iniP; simp [Function.comp_def]
      have l2 : (rows.filter fun b => !decide (b = a) && decide (a <+: b)).length ≤ rows.length := List.length_filter_le _ _
      have lz : (iniP rows d).length + (rows.filter fun b => !decide (b = a) && decide (a <+: b)).length ≤ 16777216 := by omega
      rw [em]
      unfold B__law_left_over_1
      generalize (rows.filter fun b => !decide (b = a) && decide (a <+: b)) = F at *
      simp [-lcE_ap, -Option.bind_some, -Option.bind_none, c1, catO, lz]
  refine ⟨x, lx, ?_⟩
  have i1 : eIt (eV 0) [.fz (.list (rows.map wd)), .ow false (.ls []), .ow false (.ls []), .un, .un, .un, .un] = .ok (rows.map wd) [.fz (.list (rows.map wd)), .ow false (.ls []), .ow false (.ls []), .un, .un, .un, .un] := by simp
  rw [forS_ap, i1, Res.bind_ok]
  exact e
theorem made_loop {rows f l : List Wd} (h : OkR rows) (cl : ∀ x ∈ l, okw x) (hl : l.length ≤ 1000) (x3 x6 : Sl) : ∃ x5, Loose x5 ∧ forS (eIt (eV 2)) (tgN 5) B__law_left_over_2 [.fz (.list (rows.map wd)), .ow false (.ls (f.map wd)), .fz (.list (l.map wd)), x3, .ow false (.ls []), .un, x6] = .ok .nx [.fz (.list (rows.map wd)), .ow false (.ls (f.map wd)), .fz (.list (l.map wd)), x3, .ow false (.ls ((madeP rows l).map wd)), x5, x6] := by
  obtain ⟨ρ', e, x, lx, rfl⟩ := loop_pre (t := tgN 5) (b := B__law_left_over_2) wd (fun d ρ => ∃ x5, Loose x5 ∧ ρ = [.fz (.list (rows.map wd)), .ow false (.ls (f.map wd)), .fz (.list (l.map wd)), x3, .ow false (.ls ((madeP rows d).map wd)), x5, x6]) l [] [.fz (.list (rows.map wd)), .ow false (.ls (f.map wd)), .fz (.list (l.map wd)), x3, .ow false (.ls []), .un, x6] ⟨.un, .un, rfl⟩ fun d r rr ρ q i => by
    obtain ⟨x, lx, rfl⟩ := i
    have q : l = d ++ r :: rr := q
    have hr : r ∈ l := by rw [q]; simp
    have okr := cl r hr
    have ld : d.length ≤ 1000 := by rw [q] at hl; simp at hl; omega
    have lf := madeP_len h d
    have lr := rstL_len h r
    have t1 := ne_wd okr (⟨by simp, fun c hc => by simp at hc⟩ : okw [])
    refine ⟨[.fz (.list (rows.map wd)), .ow false (.ls (f.map wd)), .fz (.list (l.map wd)), x3, .ow false (.ls ((madeP rows d).map wd)), .fz (wd r), x6], [.fz (.list (rows.map wd)), .ow false (.ls (f.map wd)), .fz (.list (l.map wd)), x3, .ow false (.ls ((madeP rows (d ++ [r])).map wd)), .fz (wd r), x6], ?_, ?_, .fz (wd r), .fz _, rfl⟩
    · show sto _ 5 _ = _
      rw [sto_loose (x := x) (Eq.trans rfl rfl) lx]
      rfl
    · have em : (madeP rows (d ++ [r])).map wd = (madeP rows d).map wd ++ (if r = [] then [] else rstL rows r).map wd := by unfold madeP; simp
      rw [em]
      unfold B__law_left_over_2
      by_cases c : r = []
      · have t2 : neD (wd r) (wd []) = some (.bool false) := by rw [t1, c]; rfl
        have lz : (madeP rows d).length ≤ 16777216 := by omega
        simp [-Option.bind_some, -Option.bind_none, em_wd, t2, c, catO]
        rw [c] at t2
        simp [-Option.bind_some, -Option.bind_none, t2, lz]
      · have t2 : neD (wd r) (wd []) = some (.bool true) := by rw [t1]; simp [c]
        have lz : (madeP rows d).length + (rstL rows r).length ≤ 16777216 := by omega
        have ecall : callE F__law_rests [.g (eV 0), .g (eV 5)] [.fz (.list (rows.map wd)), .ow false (.ls (f.map wd)), .fz (.list (l.map wd)), x3, .ow false (.ls ((madeP rows d).map wd)), .fz (wd r), x6] = .ok (.list ((rstL rows r).map wd)) [.fz (.list (rows.map wd)), .ow false (.ls (f.map wd)), .fz (.list (l.map wd)), x3, .ow false (.ls ((madeP rows d).map wd)), .fz (wd r), x6] :=
          call2 (by simp) (by simp) (law_rests_run h okr)
        simp [-callE_ap, -Option.bind_some, -Option.bind_none, em_wd, t2, c, catO, ecall, lz]
  refine ⟨x, lx, ?_⟩
  have i1 : eIt (eV 2) [.fz (.list (rows.map wd)), .ow false (.ls (f.map wd)), .fz (.list (l.map wd)), x3, .ow false (.ls []), .un, x6] = .ok (l.map wd) [.fz (.list (rows.map wd)), .ow false (.ls (f.map wd)), .fz (.list (l.map wd)), x3, .ow false (.ls []), .un, x6] := by simp
  rw [forS_ap, i1, Res.bind_ok]
  exact e
theorem ne_nilL (l : List Wd) (h : ∀ x ∈ l, okw x) : neD (.list (l.map wd)) (.list []) = some (.bool (!l.isEmpty)) := by
  have a : okN 64 (.list (l.map wd)) := (ok_list (n := 0) fun d hd => by
    obtain ⟨x, hx, rfl⟩ := List.mem_map.mp hd
    exact ok_wd (h x hx)).mono (by omega)
  have b : okN 64 (.list ([] : List D)) := (ok_list (n := 0) fun d hd => by simp at hd).mono (by omega)
  rw [neD_ok a b]
  cases l <;> rfl
theorem left_over_run {rows : List Wd} (h : OkR rows) : ∃ l : List Wd, (∀ x, x ∈ l ↔ Cl rows x) ∧ F__law_left_over [.fz (.list (rows.map wd))] = .ok (.list (srt l)) [.un] := by
  obtain ⟨x, lx, el⟩ := lo_loop h
  have li := iniP_len h rows h.few
  rw [iniP_rows] at li
  have i0 : LI rows [] (ini rows) := ⟨fun _ q => by simp at q, fun x q => .ini q, fun x q => .inr q, fun _ q => by simp at q, by simp, by omega, .inr ⟨rfl, li⟩⟩
  have w := while_st (c := C__law_left_over_3) (b := B__law_left_over_3) (fun (s : List Wd × List Wd) ρ => ∃ b x3 x4 x5, Loose x3 ∧ Loose x4 ∧ (b = .ow false (.ls (s.2.map wd)) ∨ b = .fz (.list (s.2.map wd))) ∧ ρ = [.fz (.list (rows.map wd)), .ow false (.ls (s.1.map wd)), b, x3, x4, x5, .un] ∧ LI rows s.1 s.2) (fun s => 66 - (dedup s.1).length)
    (fun ρ => ∃ f l x3 x4, ρ = [.fz (.list (rows.map wd)), .ow false (.ls (f.map wd)), .fz (.list (l.map wd)), x3, x4, .un, .un] ∧ LI rows f l ∧ fresh f l = []) (fun _ => False) (fun s ρ hi => by
      obtain ⟨f, l⟩ := s
      obtain ⟨b, x3, x4, x5, h3, h4, hb, rfl, i⟩ := hi
      have i : LI rows f l := i
      have hb : b = .ow false (.ls (l.map wd)) ∨ b = .fz (.list (l.map wd)) := hb
      have of : ∀ x ∈ f, okw x := fun x hx => (ends_ok h (cl_ends (i.cf x hx))).1
      have ol : ∀ x ∈ l, okw x := fun x hx => (ends_ok h (cl_ends (i.cl x hx))).1
      have l6 := i.ll
      have fe := freshE (rows := rows) of ol (by omega) b hb x3 x4 x5 .un
      have ofr : ∀ x ∈ fresh f l, okw x := fun x hx => ol x (List.mem_filter.mp hx).1
      have nn := ne_nilL (fresh f l) ofr
      have test : C__law_left_over_3 [.fz (.list (rows.map wd)), .ow false (.ls (f.map wd)), b, x3, x4, x5, .un] = .ok (!(fresh f l).isEmpty) [.fz (.list (rows.map wd)), .ow false (.ls (f.map wd)), .fz (.list (l.map wd)), x3, x4, .un, .un] := by
        unfold C__law_left_over_3
        simp [-lcE_ap, -Option.bind_some, -Option.bind_none, fe, nn]
      by_cases c : fresh f l = []
      · rw [c] at test
        exact .inl ⟨_, test, f, l, x3, x4, rfl, i, c⟩
      · have c2 : (!(fresh f l).isEmpty) = true := by simp [c]
        rw [c2] at test
        refine .inr ⟨_, test, .inl ?_⟩
        have fe2 := freshE (rows := rows) of ol (by omega) (.fz (.list (l.map wd))) (.inr rfl) x3 x4 .un .un
        have lf := i.lf
        have dl := dedup_le h i.cf
        have lfr : (fresh f l).length ≤ l.length := List.length_filter_le _ _
        have lz : f.length + (fresh f l).length ≤ 16777216 := by omega
        have s1 : setO 1 (e2 catO (.b 1) (.g (eFz (lcE (eIt (eV 2)) (tgN 5) (eT (e2 notInD (.b 5) (.b 1))) (eV 5) [5])))) [.fz (.list (rows.map wd)), .ow false (.ls (f.map wd)), .fz (.list (l.map wd)), x3, x4, .un, .un] = .ok .nx [.fz (.list (rows.map wd)), .ow false (.ls ((f ++ fresh f l).map wd)), .fz (.list (l.map wd)), x3, x4, .un, .un] := by
          simp [-lcE_ap, -Option.bind_some, -Option.bind_none, fe2, catO, lz]
        have s2 : setO 4 (eLst []) [.fz (.list (rows.map wd)), .ow false (.ls ((f ++ fresh f l).map wd)), .fz (.list (l.map wd)), x3, x4, .un, .un] = .ok .nx [.fz (.list (rows.map wd)), .ow false (.ls ((f ++ fresh f l).map wd)), .fz (.list (l.map wd)), x3, .ow false (.ls []), .un, .un] := by
          rw [setO_ap]
          simp only [eLst_ap, eL_nil, Res.bind_ok, List.length_nil, Nat.zero_le, if_true]
          rw [sto_loose (x := x4) (Eq.trans rfl rfl) h4]
          rfl
        obtain ⟨x5', h5', s3⟩ := made_loop (f := f ++ fresh f l) h ol (by omega) x3 .un
        have lm := madeP_len h l
        have s4 := sortset_wd (l := madeP rows l) (by omega)
        obtain ⟨l2, e2', n2, m2⟩ := srt_wd (madeP rows l)
        rw [e2'] at s4
        obtain ⟨i2, g2⟩ := i.next h c l2 n2 m2
        refine ⟨(f ++ fresh f l, l2), [.fz (.list (rows.map wd)), .ow false (.ls ((f ++ fresh f l).map wd)), .ow false (.ls (l2.map wd)), x3, .ow false (.ls ((madeP rows l).map wd)), x5', .un], ?_, ⟨_, x3, _, x5', h3, .ow _, .inl rfl, rfl, i2⟩, ?_⟩
        · unfold B__law_left_over_3
          simp only [seqS_ap, s1, s2, s3, Res.bind_ok]
          simp [-Option.bind_some, -Option.bind_none, s4]
        · have := dedup_le h i2.cf
          show 66 - (dedup (f ++ fresh f l)).length < 66 - (dedup f).length
          omega) 100000 ([], ini rows) [.fz (.list (rows.map wd)), .ow false (.ls []), .ow false (.ls ((ini rows).map wd)), x, .un, .un, .un] ⟨_, x, .un, .un, lx, .un, .inl rfl, rfl, i0⟩ (by show 66 - _ < _; omega)
  rcases w with ⟨ρ', ew, f, l, x3, x4, rfl, i, c⟩ | ⟨_, _, _, q⟩
  · have lb : ∀ x ∈ l, x ∈ f := fun x hx => Classical.byContradiction fun z => by
      have : x ∈ fresh f l := List.mem_filter.mpr ⟨hx, by simp [z]⟩
      rw [c] at this
      simp at this
    have all : ∀ x, x ∈ f ↔ Cl rows x := fun x => by
      refine ⟨i.cf x, fun q => ?_⟩
      induction q with
      | ini q => exact (i.hi _ q).elim id (lb _)
      | step _ ne q ih => exact (i.hs _ ih ne _ q).elim id (lb _)
    refine ⟨f, all, frun (ds := [.list (rows.map wd)]) ⟨[.fz (.list (rows.map wd)), .ow false (.ls (f.map wd)), .fz (.list (l.map wd)), x3, x4, .un, .un], ?_⟩⟩
    show g__law_left_over [.fz (.list (rows.map wd)), .un, .un, .un, .un, .un, .un] = _
    unfold g__law_left_over
    have lf := i.lf
    have dl := dedup_le h i.cf
    have so := sortset_wd (l := f) (by omega)
    have a1 : setO 1 (eLst []) [.fz (.list (rows.map wd)), .un, .un, .un, .un, .un, .un] = .ok .nx [.fz (.list (rows.map wd)), .ow false (.ls []), .un, .un, .un, .un, .un] := by simp
    have a2 : setO 2 (eLst []) [.fz (.list (rows.map wd)), .ow false (.ls []), .un, .un, .un, .un, .un] = .ok .nx [.fz (.list (rows.map wd)), .ow false (.ls []), .ow false (.ls []), .un, .un, .un, .un] := by simp
    simp only [seqS_ap, a1, a2, Res.bind_ok, el, ew]
    simp [-Option.bind_some, -Option.bind_none, so]
  · exact q.elim
end K65
end
section
set_option autoImplicit false
set_option maxRecDepth 100000
set_option Elab.async false
set_option linter.all false
namespace K65
open PySem DL L2 SX
/-! ### the search for the least row that is put together in two ways, in plain words -/
/-- rows by length, then as texts -/
def kle (a b : Wd) : Prop := a.length < b.length ∨ (a.length = b.length ∧ a ≤ b)
theorem kle_refl (a : Wd) : kle a a := .inr ⟨rfl, List.le_refl _⟩
theorem kle_trans {a b c : Wd} (h : kle a b) (k : kle b c) : kle a c := by
  rcases h with h | ⟨h1, h2⟩
  · rcases k with k | ⟨k1, k2⟩
    · exact .inl (by omega)
    · exact .inl (by omega)
  · rcases k with k | ⟨k1, k2⟩
    · exact .inl (by omega)
    · exact .inr ⟨by omega, List.le_trans h2 k2⟩
theorem kle_anti {a b : Wd} (h : kle a b) (k : kle b a) : a = b := by
  rcases h with h | ⟨h1, h2⟩
  · rcases k with k | ⟨k1, k2⟩ <;> omega
  · rcases k with k | ⟨k1, k2⟩
    · omega
    · exact List.le_antisymm h2 k2
theorem lex_app : ∀ {a b : Wd} (o : Wd), a.length = b.length → a ≤ b → a ++ o ≤ b ++ o
  | [], [], o, _, _ => List.le_refl _
  | x :: a, y :: b, o, h, k => by
    simp only [List.length_cons, Nat.add_right_cancel_iff] at h
    rcases Nat.lt_trichotomy x y with c | c | c
    · rw [List.cons_append, List.cons_append, List.cons_le_cons_iff]; exact .inl c
    · subst c
      rw [List.cons_append, List.cons_append, List.cons_le_cons_iff]
      rw [List.cons_le_cons_iff] at k
      rcases k with k | ⟨_, k⟩
      · omega
      · exact .inr ⟨rfl, lex_app o h k⟩
    · rw [List.cons_le_cons_iff] at k
      rcases k with k | ⟨k, _⟩ <;> omega
theorem kle_app {a b : Wd} (o : Wd) (h : kle a b) : kle (a ++ o) (b ++ o) := by
  unfold kle
  rw [List.length_append, List.length_append]
  rcases h with h | ⟨h1, h2⟩
  · exact .inl (by omega)
  · exact .inr ⟨by omega, lex_app o h1 h2⟩
theorem kle_pre {a b : Wd} (h : a <+: b) : kle a b := by
  rcases Nat.lt_or_ge a.length b.length with c | c
  · exact .inl c
  · have e : a = b := h.eq_of_length_le c
    rw [e]; exact kle_refl b
/-- one turn -/
def chOne (t r w : Wd) : List (Wd × Wd) := if w <+: r then [(t, r.drop w.length)] else if r <+: w then [(t ++ w.drop r.length, w.drop r.length)] else []
def chi (rows : List Wd) (t r : Wd) : List (Wd × Wd) := (rows.map (chOne t r)).flatten
theorem mem_chi {rows : List Wd} {t r : Wd} {c : Wd × Wd} : c ∈ chi rows t r ↔ ∃ w ∈ rows, c ∈ chOne t r w := by
  unfold chi
  simp only [List.mem_flatten, List.mem_map]
  exact ⟨fun ⟨_, ⟨w, h, e⟩, q⟩ => ⟨w, h, e ▸ q⟩, fun ⟨w, h, q⟩ => ⟨_, ⟨w, h, rfl⟩, q⟩⟩
inductive Rc (rows : List Wd) : Wd → Wd → Prop
  | ini {a b : Wd} : a ∈ rows → b ∈ rows → b ≠ a → a <+: b → Rc rows b (b.drop a.length)
  | step {t r t' r' : Wd} : Rc rows t r → r ≠ [] → (t', r') ∈ chi rows t r → Rc rows t' r'
theorem ch_kle {t r w : Wd} {c : Wd × Wd} (h : c ∈ chOne t r w) : kle t c.1 := by
  unfold chOne at h
  split at h
  · rw [List.mem_singleton.mp h]; exact kle_refl t
  · split at h
    · rw [List.mem_singleton.mp h]; exact kle_pre (List.prefix_append _ _)
    · simp at h
/-- the same turn from a lesser row -/
theorem ch_less {t u r w : Wd} {c : Wd × Wd} (k : kle u t) (h : c ∈ chOne t r w) : ∃ d, d ∈ chOne u r w ∧ d.2 = c.2 ∧ kle d.1 c.1 := by
  unfold chOne at *
  split at h
  · rename_i q
    rw [List.mem_singleton.mp h]
    exact ⟨(u, r.drop w.length), by rw [if_pos q]; exact List.mem_singleton.mpr rfl, rfl, k⟩
  · rename_i q
    split at h
    · rename_i q2
      rw [List.mem_singleton.mp h]
      exact ⟨(u ++ w.drop r.length, w.drop r.length), by rw [if_neg q, if_pos q2]; exact List.mem_singleton.mpr rfl, rfl, kle_app _ k⟩
    · simp at h
/-! ### what it means -/
def Wds (rows : List Wd) (u : List Wd) : Prop := ∀ w ∈ u, w ∈ rows
def Dbl (rows : List Wd) (t : Wd) : Prop := ∃ u v, Wds rows u ∧ Wds rows v ∧ u ≠ v ∧ u.flatten = t ∧ v.flatten = t
theorem rc_sound {rows : List Wd} {t r : Wd} (h : Rc rows t r) : ∃ a b u v, a ≠ b ∧ Wds rows (a :: u) ∧ Wds rows (b :: v) ∧ (a :: u).flatten ++ r = t ∧ (b :: v).flatten = t := by
  induction h with
  | @ini a b ha hb ne p =>
    refine ⟨a, b, [], [], fun e => ne e.symm, fun w hw => by rw [List.mem_singleton.mp hw]; exact ha, fun w hw => by rw [List.mem_singleton.mp hw]; exact hb, ?_, by simp⟩
    obtain ⟨s, rfl⟩ := p
    simp
  | @step t r t' r' _ ne q ih =>
    obtain ⟨a, b, u, v, nab, hu, hv, e1, e2⟩ := ih
    obtain ⟨w, hw, q⟩ := mem_chi.mp q
    unfold chOne at q
    split at q
    · rename_i p
      obtain ⟨s, rfl⟩ := p
      have q := List.mem_singleton.mp q
      rw [List.drop_left] at q
      obtain ⟨rfl, rfl⟩ := Prod.mk.inj q
      refine ⟨a, b, u ++ [w], v, nab, fun x hx => ?_, hv, by rw [← e1]; simp, e2⟩
      rcases List.mem_append.mp (show x ∈ (a :: u) ++ [w] from hx) with z | z
      · exact hu x z
      · rw [List.mem_singleton.mp z]; exact hw
    · split at q
      · rename_i p
        obtain ⟨s, rfl⟩ := p
        have q := List.mem_singleton.mp q
        rw [List.drop_left] at q
        obtain ⟨rfl, rfl⟩ := Prod.mk.inj q
        refine ⟨b, a, v, u ++ [r ++ r'], fun e => nab e.symm, hv, fun x hx => ?_, by rw [e2], by rw [← e1]; simp⟩
        rcases List.mem_append.mp (show x ∈ (a :: u) ++ [r ++ r'] from hx) with z | z
        · exact hu x z
        · rw [List.mem_singleton.mp z]; exact hw
      · simp at q
theorem rc_dbl {rows : List Wd} {t : Wd} (h : Rc rows t []) : Dbl rows t := by
  obtain ⟨a, b, u, v, ne, hu, hv, e1, e2⟩ := rc_sound h
  exact ⟨a :: u, b :: v, hu, hv, fun e => ne (List.cons.inj e).1, by rw [← e1]; simp, e2⟩
theorem pre_cases {a b y z : Wd} (h : a ++ y = b ++ z) : a <+: b ∨ b <+: a := by
  have h1 : a <+: b ++ z := h ▸ List.prefix_append a y
  exact List.prefix_or_prefix_of_prefix h1 (List.prefix_append b z)
theorem rc_along {rows : List Wd} : ∀ (n : Nat) (t r y : Wd) (us vs : List Wd), us.length + vs.length ≤ n → Rc rows t r → Wds rows us → Wds rows vs → us.flatten = r ++ y → vs.flatten = y → ∃ t', Rc rows t' [] ∧ t' <+: t ++ y := by
  intro n
  induction n with
  | zero =>
    intro t r y us vs hn h hu hv e1 e2
    have hz : us = [] := List.length_eq_zero_iff.mp (by omega)
    subst hz
    have : r = [] := by
      cases r with
      | nil => rfl
      | cons x r => simp at e1
    subst this
    exact ⟨t, h, List.prefix_append _ _⟩
  | succ n ih =>
    intro t r y us vs hn h hu hv e1 e2
    by_cases hr : r = []
    · subst hr; exact ⟨t, h, List.prefix_append _ _⟩
    · cases us with
      | nil =>
        cases r with
        | nil => exact absurd rfl hr
        | cons x r => simp at e1
      | cons w us =>
        simp only [List.flatten_cons] at e1
        simp only [List.length_cons] at hn
        have hw := hu w (by simp)
        have hu' : Wds rows us := fun x hx => hu x (by simp [hx])
        by_cases p : w <+: r
        · obtain ⟨r', rfl⟩ := p
          have e3 : us.flatten = r' ++ y := by
            rw [List.append_assoc] at e1
            exact List.append_cancel_left e1
          have h' : Rc rows t r' := .step h hr (mem_chi.mpr ⟨w, hw, by unfold chOne; rw [if_pos (List.prefix_append _ _), List.drop_left]; simp⟩)
          exact ih t r' y us vs (by omega) h' hu' hv e3 e2
        · have p2 : r <+: w := (pre_cases e1).resolve_left p
          obtain ⟨o, rfl⟩ := p2
          have e3 : o ++ us.flatten = y := by
            rw [List.append_assoc] at e1
            exact List.append_cancel_left e1
          have h' : Rc rows (t ++ o) o := .step h hr (mem_chi.mpr ⟨r ++ o, hw, by unfold chOne; rw [if_neg p, if_pos (List.prefix_append _ _), List.drop_left]; simp⟩)
          obtain ⟨t', q1, q2⟩ := ih (t ++ o) o us.flatten vs us (by omega) h' hv hu' (by rw [e2, e3]) rfl
          exact ⟨t', q1, by rw [← e3, ← List.append_assoc]; exact q2⟩
theorem dbl_rc {rows : List Wd} (ne : ∀ w ∈ rows, w ≠ []) : ∀ (u v : List Wd), Wds rows u → Wds rows v → u ≠ v → u.flatten = v.flatten → ∃ t, Rc rows t [] ∧ kle t u.flatten
  | [], [], _, _, h, _ => absurd rfl h
  | [], b :: v, _, hv, _, e => by
    have := ne b (hv b (by simp))
    simp only [List.flatten_nil, List.flatten_cons] at e
    cases b with
    | nil => exact absurd rfl this
    | cons x b => simp at e
  | a :: u, [], hu, _, _, e => by
    have := ne a (hu a (by simp))
    simp only [List.flatten_nil, List.flatten_cons] at e
    cases a with
    | nil => exact absurd rfl this
    | cons x b => simp at e
  | a :: u, b :: v, hu, hv, h, e => by
    have ha := hu a (by simp)
    have hb := hv b (by simp)
    have hu' : Wds rows u := fun x hx => hu x (by simp [hx])
    have hv' : Wds rows v := fun x hx => hv x (by simp [hx])
    simp only [List.flatten_cons] at e ⊢
    by_cases c : a = b
    · subst c
      have e' := List.append_cancel_left e
      obtain ⟨t, q1, q2⟩ := dbl_rc ne u v hu' hv' (fun z => h (by rw [z])) e'
      refine ⟨t, q1, kle_trans q2 (.inl ?_)⟩
      have : a ≠ [] := ne a ha
      have : a.length ≠ 0 := fun z => this (List.length_eq_zero_iff.mp z)
      rw [List.length_append]; omega
    · rcases pre_cases e with p | p
      · obtain ⟨r, rfl⟩ := p
        have h0 : Rc rows (a ++ r) r := by
          have := Rc.ini (rows := rows) ha hb (fun z => c z.symm) (List.prefix_append a r)
          rwa [List.drop_left] at this
        have e' : u.flatten = r ++ v.flatten := by
          rw [List.append_assoc] at e
          exact List.append_cancel_left e
        obtain ⟨t, q1, q2⟩ := rc_along _ (a ++ r) r v.flatten u v (Nat.le_refl _) h0 hu' hv' e' rfl
        refine ⟨t, q1, kle_pre ?_⟩
        rw [e]; exact q2
      · obtain ⟨r, rfl⟩ := p
        have h0 : Rc rows (b ++ r) r := by
          have := Rc.ini (rows := rows) hb ha c (List.prefix_append b r)
          rwa [List.drop_left] at this
        have e' : v.flatten = r ++ u.flatten := by
          rw [List.append_assoc] at e
          exact (List.append_cancel_left e).symm
        obtain ⟨t, q1, q2⟩ := rc_along _ (b ++ r) r u.flatten v u (Nat.le_refl _) h0 hv' hu' e' rfl
        exact ⟨t, q1, kle_pre q2⟩
/-- what the search is to find -/
def Found (rows : List Wd) : Option Wd → Prop
  | some t => Rc rows t [] ∧ ∀ t', Rc rows t' [] → kle t t'
  | none => ∀ t', ¬ Rc rows t' []
theorem found_eq {rows : List Wd} : ∀ {a b : Option Wd}, Found rows a → Found rows b → a = b
  | none, none, _, _ => rfl
  | none, some t, h, k => absurd k.1 (h t)
  | some t, none, h, k => absurd h.1 (k t)
  | some t, some u, h, k => by rw [kle_anti (h.2 u k.1) (k.2 t h.1)]
/-! ### the search -/
structure SI (rows : List Wd) (Q E : List (Wd × Wd)) : Prop where
  cq : ∀ z ∈ Q, Rc rows z.1 z.2
  ce : ∀ z ∈ E, Rc rows z.1 z.2 ∧ z.2 ≠ []
  nd : (E.map Prod.snd).Nodup
  hi : ∀ a ∈ rows, ∀ b ∈ rows, b ≠ a → a <+: b → (∃ z ∈ Q, z.2 = b.drop a.length ∧ kle z.1 b) ∨ ∃ e ∈ E, e.2 = b.drop a.length ∧ kle e.1 b
  hs : ∀ x ∈ E, ∀ c ∈ chi rows x.1 x.2, (∃ z ∈ Q, z.2 = c.2 ∧ kle z.1 c.1) ∨ ∃ e ∈ E, e.2 = c.2 ∧ kle e.1 c.1
  mo : ∀ e ∈ E, ∀ z ∈ Q, kle e.1 z.1
theorem SI.best {rows : List Wd} {Q E : List (Wd × Wd)} (i : SI rows Q E) {t r : Wd} (h : Rc rows t r) : (∃ z ∈ Q, kle z.1 t) ∨ ∃ e ∈ E, e.2 = r ∧ kle e.1 t := by
  induction h with
  | @ini a b ha hb ne p =>
    rcases i.hi a ha b hb ne p with ⟨z, h1, _, h3⟩ | h
    · exact .inl ⟨z, h1, h3⟩
    · exact .inr h
  | @step t r t' r' _ ne q ih =>
    obtain ⟨w, hw, q⟩ := mem_chi.mp q
    rcases ih with ⟨z, h1, h2⟩ | ⟨e, h1, h2, h3⟩
    · exact .inl ⟨z, h1, kle_trans h2 (ch_kle q)⟩
    · obtain ⟨d, d1, d2, d3⟩ := ch_less h3 q
      have d2 : d.2 = r' := d2
      have d3 : kle d.1 t' := d3
      rcases i.hs e h1 d (mem_chi.mpr ⟨w, hw, by rw [h2]; exact d1⟩) with ⟨z, z1, z2, z3⟩ | ⟨f, f1, f2, f3⟩
      · exact .inl ⟨z, z1, kle_trans z3 d3⟩
      · exact .inr ⟨f, f1, f2.trans d2, kle_trans f3 d3⟩
theorem SI.done {rows : List Wd} {E : List (Wd × Wd)} (i : SI rows [] E) : Found rows none := fun t h => by
  rcases i.best h with ⟨z, h1, _⟩ | ⟨e, h1, h2, _⟩
  · simp at h1
  · exact (i.ce e h1).2 h2
theorem SI.hit {rows : List Wd} {Q E : List (Wd × Wd)} (i : SI rows Q E) {t : Wd} (h : (t, []) ∈ Q) (m : ∀ z ∈ Q, kle t z.1) : Found rows (some t) :=
  ⟨i.cq _ h, fun t' h' => by
    rcases i.best h' with ⟨z, h1, h2⟩ | ⟨e, h1, h2, _⟩
    · exact kle_trans (m z h1) h2
    · exact absurd h2 (i.ce e h1).2⟩
theorem SI.skip {rows : List Wd} {Q Q' E : List (Wd × Wd)} (i : SI rows Q E) {t r : Wd} (h : (t, r) ∈ Q) (s1 : ∀ z ∈ Q', z ∈ Q) (s2 : ∀ z ∈ Q, z = (t, r) ∨ z ∈ Q') (hm : r ∈ E.map Prod.snd) : SI rows Q' E := by
  obtain ⟨e0, e1, e2⟩ := List.mem_map.mp hm
  have e3 : kle e0.1 t := i.mo e0 e1 _ h
  have cov : ∀ (u s : Wd), ((∃ z ∈ Q, z.2 = s ∧ kle z.1 u) ∨ ∃ e ∈ E, e.2 = s ∧ kle e.1 u) → (∃ z ∈ Q', z.2 = s ∧ kle z.1 u) ∨ ∃ e ∈ E, e.2 = s ∧ kle e.1 u := fun u s q => by
    rcases q with ⟨z, h1, h2, h3⟩ | q
    · rcases s2 z h1 with rfl | z1
      · exact .inr ⟨e0, e1, e2.trans h2, kle_trans e3 h3⟩
      · exact .inl ⟨z, z1, h2, h3⟩
    · exact .inr q
  exact ⟨fun z hz => i.cq z (s1 z hz), i.ce, i.nd, fun a ha b hb n p => cov _ _ (i.hi a ha b hb n p), fun x hx c hc => cov _ _ (i.hs x hx c hc), fun e he z hz => i.mo e he z (s1 z hz)⟩
theorem SI.grow {rows : List Wd} {Q Q' E : List (Wd × Wd)} (i : SI rows Q E) {t r : Wd} (h : (t, r) ∈ Q) (s1 : ∀ z ∈ Q', z ∈ Q) (s2 : ∀ z ∈ Q, z = (t, r) ∨ z ∈ Q') (hm : r ∉ E.map Prod.snd) (ne : r ≠ []) (m : ∀ z ∈ Q, kle t z.1) : SI rows (Q' ++ chi rows t r) ((t, r) :: E) := by
  have rc := i.cq _ h
  have cov : ∀ (u s : Wd), ((∃ z ∈ Q, z.2 = s ∧ kle z.1 u) ∨ ∃ e ∈ E, e.2 = s ∧ kle e.1 u) → (∃ z ∈ Q' ++ chi rows t r, z.2 = s ∧ kle z.1 u) ∨ ∃ e ∈ (t, r) :: E, e.2 = s ∧ kle e.1 u := fun u s q => by
    rcases q with ⟨z, h1, h2, h3⟩ | ⟨e, h1, h2⟩
    · rcases s2 z h1 with rfl | z1
      · exact .inr ⟨_, List.mem_cons_self, h2, h3⟩
      · exact .inl ⟨z, List.mem_append.mpr (.inl z1), h2, h3⟩
    · exact .inr ⟨e, List.mem_cons_of_mem _ h1, h2⟩
  have kt : ∀ c ∈ chi rows t r, kle t c.1 := fun c hc => by
    obtain ⟨w, _, q⟩ := mem_chi.mp hc
    exact ch_kle q
  refine ⟨fun z hz => ?_, fun z hz => ?_, ?_, fun a ha b hb n p => cov _ _ (i.hi a ha b hb n p), fun x hx c hc => ?_, fun e he z hz => ?_⟩
  · rcases List.mem_append.mp hz with q | q
    · exact i.cq z (s1 z q)
    · exact .step rc ne q
  · rcases List.mem_cons.mp hz with rfl | q
    · exact ⟨rc, ne⟩
    · exact i.ce z q
  · rw [List.map_cons, List.nodup_cons]; exact ⟨hm, i.nd⟩
  · rcases List.mem_cons.mp hx with rfl | q
    · exact .inl ⟨c, List.mem_append.mpr (.inr hc), rfl, kle_refl _⟩
    · exact cov _ _ (i.hs x q c hc)
  · rcases List.mem_cons.mp he with rfl | q
    · rcases List.mem_append.mp hz with q | q
      · exact m z (s1 z q)
      · exact kt z q
    · rcases List.mem_append.mp hz with q' | q'
      · exact i.mo e q z (s1 z q')
      · exact kle_trans (i.mo e q _ h) (kt z q')
/-- what is left over is left over behind some row -/
theorem cl_rc {rows : List Wd} {r : Wd} : Cl rows r ↔ ∃ t, Rc rows t r := by
  constructor
  · intro h
    induction h with
    | ini q =>
      obtain ⟨a, ha, b, hb, ne, p, rfl⟩ := mem_ini.mp q
      exact ⟨b, .ini ha hb ne p⟩
    | @step r s _ ne q ih =>
      obtain ⟨t, ht⟩ := ih
      obtain ⟨w, hw, ⟨p, rfl⟩ | ⟨p, rfl⟩⟩ := mem_rst.mp q
      · by_cases c : w <+: r
        · have e : w = r := by
            have := p.length_le
            exact c.eq_of_length_le this
          subst e
          refine ⟨t, .step ht ne (mem_chi.mpr ⟨w, hw, ?_⟩)⟩
          unfold chOne
          rw [if_pos c]
          simp
        · exact ⟨_, .step ht ne (mem_chi.mpr ⟨w, hw, by unfold chOne; rw [if_neg c, if_pos p]; exact List.mem_singleton.mpr rfl⟩)⟩
      · exact ⟨t, .step ht ne (mem_chi.mpr ⟨w, hw, by unfold chOne; rw [if_pos p]; exact List.mem_singleton.mpr rfl⟩)⟩
  · rintro ⟨t, h⟩
    induction h with
    | @ini a b ha hb ne p => exact .ini (mem_ini.mpr ⟨a, ha, b, hb, ne, p, rfl⟩)
    | @step t r t' r' _ ne q ih =>
      obtain ⟨w, hw, q⟩ := mem_chi.mp q
      refine .step ih ne (mem_rst.mpr ⟨w, hw, ?_⟩)
      unfold chOne at q
      split at q
      · rename_i p
        obtain ⟨rfl, rfl⟩ := Prod.mk.inj (List.mem_singleton.mp q)
        exact .inr ⟨p, rfl⟩
      · split at q
        · rename_i p
          obtain ⟨rfl, rfl⟩ := Prod.mk.inj (List.mem_singleton.mp q)
          exact .inl ⟨p, rfl⟩
        · simp at q
end K65
end
section
set_option autoImplicit false
set_option maxRecDepth 100000
set_option Elab.async false
set_option linter.all false
namespace K65
open PySem PySem.W DL L2 SX
/-! ### triples -/
def tD (z : Wd × Wd) : D := .tuple [.int (z.1.length : Int), wd z.1, wd z.2]
def plt (a b : Wd × Wd) : Prop := a.1.length < b.1.length ∨ (a.1.length = b.1.length ∧ (a.1 < b.1 ∨ (a.1 = b.1 ∧ a.2 < b.2)))
def ple (a b : Wd × Wd) : Prop := a.1.length < b.1.length ∨ (a.1.length = b.1.length ∧ (a.1 < b.1 ∨ (a.1 = b.1 ∧ a.2 ≤ b.2)))
instance (a b : Wd × Wd) : Decidable (plt a b) := inferInstanceAs (Decidable (_ ∨ _))
instance (a b : Wd × Wd) : Decidable (ple a b) := inferInstanceAs (Decidable (_ ∨ _))
theorem lt_tD (a b : Wd × Wd) : dataLt (tD a) (tD b) = decide (plt a b) := by
  unfold tD
  rw [dataLt_tuple, dataLt_cons (by simp [alike]), dataLt_cons (by simp [alike, wd]), dataLt_cons (by simp [alike, wd])]
  have e : PyProof.Rows.lexLt PyProof.Rows.itemOrd (keyToksAll []) (keyToksAll []) = false := PyProof.Rows.lex_irrefl _
  rw [e, dataLt_int]
  have q1 : ∀ x y : Wd, PyData.eqv (wd x) (wd y) = decide (x = y) := enc_wd
  have q2 : ∀ x y : Wd, dataLt (wd x) (wd y) = decide (x < y) := fun x y => dataLt_str _ _
  rw [q1, q1, q2, q2]
  simp only [PyData.eqv, beq_iff_eq]
  unfold plt
  by_cases h1 : a.1.length = b.1.length
  · by_cases h2 : a.1 = b.1
    · by_cases h3 : a.2 = b.2
      · have n1 : ¬ b.1 < b.1 := List.lt_irrefl _
        have n2 : ¬ b.2 < b.2 := List.lt_irrefl _
        simp [h2, h3, n1, n2]
      · have n1 : ¬ b.1 < b.1 := List.lt_irrefl _
        simp [h2, h3, n1]
    · simp [h1, h2]
  · have h1' : ((a.1.length : Int) = (b.1.length : Int)) ↔ False := ⟨fun z => h1 (by omega), False.elim⟩
    simp [h1, h1']
theorem plt_kle {a b : Wd × Wd} (h : plt a b) : kle a.1 b.1 := by
  rcases h with h | ⟨h1, h2 | ⟨h2, _⟩⟩
  · exact .inl h
  · exact .inr ⟨h1, List.le_of_lt h2⟩
  · rw [h2]; exact kle_refl _
theorem ple_kle {a b : Wd × Wd} (h : ple a b) : kle a.1 b.1 := by
  rcases h with h | ⟨h1, h2 | ⟨h2, _⟩⟩
  · exact .inl h
  · exact .inr ⟨h1, List.le_of_lt h2⟩
  · rw [h2]; exact kle_refl _
theorem lt_tri (a b : Wd) : a < b ∨ a = b ∨ b < a := by
  by_cases h : a < b
  · exact .inl h
  · have h2 := List.not_lt.mp h
    by_cases k : b < a
    · exact .inr (.inr k)
    · exact .inr (.inl (List.le_antisymm (List.not_lt.mp k) h2))
theorem lt_asym {a b : Wd} (h : a < b) (k : b < a) : False := List.lt_irrefl a (List.lt_trans h k)
theorem not_plt {a b : Wd × Wd} : ¬ plt b a ↔ ple a b := by
  unfold plt ple
  constructor
  · intro h
    simp only [not_or, not_and] at h
    obtain ⟨h1, h2⟩ := h
    by_cases c : a.1.length < b.1.length
    · exact .inl c
    · have e : b.1.length = a.1.length := by omega
      obtain ⟨h3, h4⟩ := h2 e
      refine .inr ⟨e.symm, ?_⟩
      rcases lt_tri a.1 b.1 with q | q | q
      · exact .inl q
      · exact .inr ⟨q, List.not_lt.mp (h4 q.symm)⟩
      · exact absurd q h3
  · rintro h k
    rcases h with h | ⟨h1, h2⟩
    · rcases k with k | ⟨k1, _⟩ <;> omega
    · rcases k with k | ⟨k1, k2⟩
      · omega
      · rcases h2 with h2 | ⟨h2, h3⟩
        · rcases k2 with k2 | ⟨k2, _⟩
          · exact lt_asym h2 k2
          · rw [k2] at h2; exact List.lt_irrefl _ h2
        · rcases k2 with k2 | ⟨_, k3⟩
          · rw [h2] at k2; exact List.lt_irrefl _ k2
          · exact List.not_lt.mpr h3 k3
theorem ple_trans {a b c : Wd × Wd} (h : ple a b) (k : ple b c) : ple a c := by
  rcases h with h | ⟨h1, h2⟩
  · rcases k with k | ⟨k1, _⟩
    · exact .inl (by omega)
    · exact .inl (by omega)
  · rcases k with k | ⟨k1, k2⟩
    · exact .inl (by omega)
    · refine .inr ⟨by omega, ?_⟩
      rcases h2 with h2 | ⟨h2, h3⟩
      · rcases k2 with k2 | ⟨k2, _⟩
        · exact .inl (List.lt_trans h2 k2)
        · exact .inl (k2 ▸ h2)
      · rcases k2 with k2 | ⟨k2, k3⟩
        · exact .inl (h2 ▸ k2)
        · exact .inr ⟨h2.trans k2, List.le_trans h3 k3⟩
theorem ple_total (a b : Wd × Wd) : ple a b ∨ ple b a := by
  by_cases h : plt b a
  · exact .inr (by
      rcases h with h | ⟨h1, h2 | ⟨h2, h3⟩⟩
      · exact .inl h
      · exact .inr ⟨h1, .inl h2⟩
      · exact .inr ⟨h1, .inr ⟨h2, List.le_of_lt h3⟩⟩)
  · exact .inl (not_plt.mp h)
def leT (a b : Wd × Wd) : Bool := decide (ple a b)
theorem le_tD (a b : Wd × Wd) : dataLe false id (tD a) (tD b) = leT a b := by
  show (!dataLt (tD b) (tD a)) = _
  rw [lt_tD]
  unfold leT
  by_cases h : plt b a
  · have : ¬ ple a b := fun z => not_plt.mpr z h
    simp [h, this]
  · simp [h, not_plt.mp h]
theorem alike_tD (a b : Wd × Wd) : alike (tD a) (tD b) = true := by simp [tD, alike, alikeAll, wd]
theorem depth_tD (a : Wd × Wd) : (tD a).depth = 1 := rfl
theorem sort_tD (l : List (Wd × Wd)) : sortL (l.map tD) = (l.mergeSort leT).map tD :=
  (sort_maps (r := leT) (s := dataLe false id) tD fun a _ b _ => (le_tD a b).symm).symm
theorem sortOk_tD (l : List (Wd × Wd)) : sortOk (l.map tD) = true ∧ noLs (l.map tD) = true := by
  constructor
  · unfold sortOk
    simp only [Bool.and_eq_true, Bool.or_eq_true, List.all_eq_true, decide_eq_true_eq, List.mem_map]
    refine ⟨⟨?_, ?_⟩, .inl ?_⟩
    · rintro _ ⟨a, _, rfl⟩ _ ⟨b, _, rfl⟩; exact alike_tD a b
    · rintro _ ⟨a, _, rfl⟩; rw [depth_tD]; omega
    · rintro _ ⟨a, _, rfl⟩; rfl
  · induction l with
    | nil => rfl
    | cons a l ih =>
      show (noL (tD a) && noLs (l.map tD)) = true
      rw [ih]; rfl
theorem sorted_head {l : List (Wd × Wd)} {m : Wd × Wd} {l' : List (Wd × Wd)} (h : l.mergeSort leT = m :: l') : m ∈ l ∧ (∀ z ∈ l, kle m.1 z.1) ∧ (∀ z ∈ l', z ∈ l) ∧ (∀ z ∈ l, z = m ∨ z ∈ l') ∧ l'.length + 1 = l.length := by
  have p := List.mergeSort_perm l leT
  have s := List.pairwise_mergeSort (le := leT) (fun a b c x y => by unfold leT at *; simp only [decide_eq_true_eq] at *; exact ple_trans x y) (fun a b => by unfold leT; rcases ple_total a b with q | q <;> simp [q]) l
  rw [h] at p s
  obtain ⟨s1, _⟩ := List.pairwise_cons.mp s
  refine ⟨p.mem_iff.mp (by simp), fun z hz => ?_, fun z hz => p.mem_iff.mp (by simp [hz]), fun z hz => by simpa using p.mem_iff.mpr hz, by have := p.length_eq; simpa using this⟩
  rcases List.mem_cons.mp (p.mem_iff.mpr hz) with q | q
  · rw [q]; exact kle_refl _
  · have := s1 z q
    unfold leT at this
    exact ple_kle (of_decide_eq_true this)
/-- the least triple, as min finds it -/
def minT (x : Wd × Wd) (xs : List (Wd × Wd)) : Wd × Wd := xs.foldl (fun a y => if plt y a then y else a) x
theorem minD_tD : ∀ (xs : List (Wd × Wd)) (x : Wd × Wd), PySem.W.minD (tD x) (xs.map tD) = tD (minT x xs)
  | [], x => rfl
  | y :: xs, x => by
    show PySem.W.minD (if dataLt (tD y) (tD x) then tD y else tD x) (xs.map tD) = tD (minT (if plt y x then y else x) xs)
    rw [lt_tD]
    by_cases c : plt y x
    · simp only [c, decide_true, if_true]; exact minD_tD xs y
    · simp only [c, decide_false, Bool.false_eq_true, if_false]; exact minD_tD xs x
theorem minT_mem : ∀ (xs : List (Wd × Wd)) (x : Wd × Wd), minT x xs ∈ x :: xs ∧ ∀ z ∈ x :: xs, kle (minT x xs).1 z.1
  | [], x => ⟨by simp [minT], fun z hz => by rw [List.mem_singleton.mp hz]; exact kle_refl _⟩
  | y :: xs, x => by
    have e : minT x (y :: xs) = minT (if plt y x then y else x) xs := rfl
    rw [e]
    by_cases c : plt y x
    · rw [if_pos c]
      obtain ⟨h1, h2⟩ := minT_mem xs y
      refine ⟨List.mem_cons_of_mem _ h1, fun z hz => ?_⟩
      rcases List.mem_cons.mp hz with q | q
      · rw [q]; exact kle_trans (h2 y (by simp)) (plt_kle c)
      · exact h2 z q
    · rw [if_neg c]
      obtain ⟨h1, h2⟩ := minT_mem xs x
      refine ⟨by rcases List.mem_cons.mp h1 with q | q <;> simp [q], fun z hz => ?_⟩
      rcases List.mem_cons.mp hz with q | q
      · rw [q]; exact h2 x (by simp)
      · rcases List.mem_cons.mp q with q | q
        · rw [q]; exact kle_trans (h2 x (by simp)) (ple_kle (not_plt.mp c))
        · exact h2 z (by simp [q])
theorem min_tD (x : Wd × Wd) (xs : List (Wd × Wd)) : minLD (.list ((x :: xs).map tD)) = some (tD (minT x xs)) := by
  have ok : minOk ((x :: xs).map tD) = true := by
    unfold minOk
    simp only [Bool.and_eq_true, List.all_eq_true, decide_eq_true_eq, List.mem_map]
    refine ⟨⟨?_, ?_⟩, ?_⟩
    · rintro _ ⟨a, _, rfl⟩ _ ⟨b, _, rfl⟩; exact alike_tD a b
    · rintro _ ⟨a, _, rfl⟩; rfl
    · have : ∀ l : List (Wd × Wd), PyData.depthAll (l.map tD) ≤ 1 := fun l => by
        induction l with
        | nil => exact Nat.zero_le _
        | cons a l ih =>
          show max (tD a).depth _ ≤ 1
          rw [depth_tD]
          omega
      have := this (x :: xs)
      omega
  show (if minOk (tD x :: xs.map tD) = true then some (PySem.W.minD (tD x) (xs.map tD)) else none) = _
  rw [List.map_cons] at ok
  rw [if_pos ok, minD_tD]
/-! ### how long the texts grow -/
theorem sum_le_of_sub {α : Type} [DecidableEq α] (f : α → Nat) : ∀ {l m : List α}, l.Nodup → (∀ x ∈ l, x ∈ m) → (l.map f).sum ≤ (m.map f).sum
  | [], m, _, _ => Nat.zero_le _
  | a :: l, m, hn, hs => by
    obtain ⟨h1, h2⟩ := List.nodup_cons.mp hn
    have ha := hs a (by simp)
    have ih := sum_le_of_sub f (l := l) (m := m.erase a) h2 fun x hx => by
      have ne : x ≠ a := fun e => h1 (e ▸ hx)
      exact (List.mem_erase_of_ne ne).mpr (hs x (by simp [hx]))
    have p := (List.perm_cons_erase ha).map f
    have e := p.sum_nat
    simp only [List.map_cons, List.sum_cons] at e ⊢
    omega
theorem tails_sum (w : Wd) : 2 * ((tails w).map List.length).sum = w.length * (w.length + 1) := by
  unfold tails
  rw [List.map_map]
  have : ∀ n, n ≤ w.length → 2 * ((List.range (n + 1)).map ((List.length : Wd → Nat) ∘ fun k => w.drop k)).sum + (w.length - n) * (w.length - n + 1) = w.length * (w.length + 1) + 2 * (w.length - n) := by
    intro n
    induction n with
    | zero =>
      intro _
      simp [List.range_succ]
      have : w.length * (w.length + 1) = w.length * w.length + w.length := by rw [Nat.mul_add]; omega
      omega
    | succ n ih =>
      intro hn
      have ih := ih (by omega)
      rw [List.range_succ, List.map_append, List.sum_append]
      simp only [List.map_cons, List.map_nil, List.sum_cons, List.sum_nil, Function.comp_apply, List.length_drop]
      obtain ⟨k, hk⟩ : ∃ k, w.length - n = k + 1 := ⟨w.length - n - 1, by omega⟩
      have hk2 : w.length - (n + 1) = k := by omega
      rw [hk] at ih
      rw [hk2]
      have e1 : (k + 1) * (k + 1 + 1) = k * (k + 1) + 2 * (k + 1) := by
        rw [Nat.add_mul, Nat.mul_add k (k+1) 1]; omega
      omega
  have := this w.length (Nat.le_refl _)
  simp only [Nat.sub_self, Nat.zero_mul, Nat.mul_zero, Nat.add_zero, Nat.zero_add] at this
  exact this
theorem ends_sum {rows : List Wd} (h : OkR rows) : ((ends rows).map List.length).sum ≤ 200 := by
  have : ∀ l : List Wd, 2 * (((l.map tails).flatten).map List.length).sum = (l.map fun w => w.length * (w.length + 1)).sum := fun l => by
    induction l with
    | nil => rfl
    | cons w l ih =>
      simp only [List.map_cons, List.flatten_cons, List.map_append, List.sum_append, List.sum_cons]
      have := tails_sum w
      omega
  have := this rows
  have := h.sm
  unfold ends
  omega
def LB (Q E : List (Wd × Wd)) : Prop := ∀ z ∈ Q, z.1.length ≤ 12 + (E.map fun e => e.2.length).sum + z.2.length
theorem LB.grow {rows : List Wd} {Q Q' E : List (Wd × Wd)} (h : LB Q E) {t r : Wd} (hm : (t, r) ∈ Q) (s1 : ∀ z ∈ Q', z ∈ Q) : LB (Q' ++ chi rows t r) ((t, r) :: E) := fun z hz => by
  simp only [List.map_cons, List.sum_cons]
  rcases List.mem_append.mp hz with q | q
  · have := h z (s1 z q); omega
  · have ht := h _ hm
    simp only at ht
    obtain ⟨w, _, q⟩ := mem_chi.mp q
    unfold chOne at q
    split at q
    · rw [List.mem_singleton.mp q]
      simp only
      omega
    · split at q
      · rw [List.mem_singleton.mp q]
        simp only [List.length_append]
        omega
      · simp at q
theorem LB.small {rows : List Wd} {Q E : List (Wd × Wd)} (h : OkR rows) (i : SI rows Q E) (b : LB Q E) : E.length ≤ 65 ∧ ∀ z ∈ Q, z.1.length ≤ 212 + z.2.length := by
  have sub : ∀ x ∈ E.map Prod.snd, x ∈ ends rows := fun x hx => by
    obtain ⟨e, h1, rfl⟩ := List.mem_map.mp hx
    exact cl_ends (cl_rc.mpr ⟨_, (i.ce e h1).1⟩)
  constructor
  · have := nodup_sub_len i.nd sub
    rw [List.length_map] at this
    have := ends_len h
    omega
  · intro z hz
    have := b z hz
    have s := sum_le_of_sub List.length i.nd sub
    have := ends_sum h
    rw [List.map_map] at s
    have e : (E.map (List.length ∘ Prod.snd)).sum = (E.map fun e => e.2.length).sum := rfl
    omega
theorem rc_ok {rows : List Wd} (h : OkR rows) {t r : Wd} (c : Rc rows t r) : okw r ∧ r.length ≤ 12 ∧ ∀ x ∈ t, x < 123 := by
  have o := ends_ok h (cl_ends (cl_rc.mpr ⟨t, c⟩))
  refine ⟨o.1, o.2, ?_⟩
  obtain ⟨a, b, u, v, _, _, hv, _, e⟩ := rc_sound c
  intro x hx
  rw [← e] at hx
  obtain ⟨w, hw, q⟩ := List.mem_flatten.mp hx
  exact h.cp w (hv w hw) x q
end K65
end
section
set_option autoImplicit false
set_option maxRecDepth 100000
set_option Elab.async false
set_option linter.all false
namespace K65
open PySem DL L2 SX
/-- left at the start -/
def iniT (rows d : List Wd) : List (Wd × Wd) := (d.map fun a => (rows.filter fun b => !decide (b = a) && decide (a <+: b)).map fun b => (b, b.drop a.length)).flatten
theorem mem_iniT {rows d : List Wd} {z : Wd × Wd} : z ∈ iniT rows d ↔ ∃ a ∈ d, ∃ b ∈ rows, b ≠ a ∧ a <+: b ∧ z = (b, b.drop a.length) := by
  unfold iniT
  simp only [List.mem_flatten, List.mem_map, List.mem_filter, Bool.and_eq_true, Bool.not_eq_true', decide_eq_false_iff_not, decide_eq_true_eq]
  constructor
  · rintro ⟨_, ⟨a, ha, rfl⟩, q⟩
    simp only [List.mem_map, List.mem_filter, Bool.and_eq_true, Bool.not_eq_true', decide_eq_false_iff_not, decide_eq_true_eq] at q
    obtain ⟨b, ⟨hb, n, p⟩, rfl⟩ := q
    exact ⟨a, ha, b, hb, n, p, rfl⟩
  · rintro ⟨a, ha, b, hb, n, p, rfl⟩
    refine ⟨_, ⟨a, ha, rfl⟩, ?_⟩
    simp only [List.mem_map, List.mem_filter, Bool.and_eq_true, Bool.not_eq_true', decide_eq_false_iff_not, decide_eq_true_eq]
    exact ⟨b, ⟨hb, n, p⟩, rfl⟩
theorem iniT_len {rows : List Wd} (h : OkR rows) (d : List Wd) (hd : d.length ≤ 5) : (iniT rows d).length ≤ 25 := by
  have e : (iniT rows d).map Prod.snd = iniP rows d := by
    unfold iniT iniP
    rw [List.map_flatten, List.map_map]
    congr 1
    refine List.map_congr_left fun a _ => ?_
    simp [Function.comp_def]
  have := iniP_len h d hd
  rw [← e, List.length_map] at this
  exact this
theorem iniT_snoc (rows d : List Wd) (a : Wd) : iniT rows (d ++ [a]) = iniT rows d ++ (rows.filter fun b => !decide (b = a) && decide (a <+: b)).map fun b => (b, b.drop a.length) := by
  unfold iniT; simp
theorem SI.init (rows : List Wd) : SI rows (iniT rows rows) [] :=
  ⟨fun z hz => by
    obtain ⟨a, ha, b, hb, n, p, rfl⟩ := mem_iniT.mp hz
    exact .ini ha hb n p, fun _ h => by simp at h, .nil, fun a ha b hb n p => .inl ⟨_, mem_iniT.mpr ⟨a, ha, b, hb, n, p, rfl⟩, rfl, kle_refl _⟩, fun _ h => by simp at h, fun _ h => by simp at h⟩
theorem LB.init {rows : List Wd} (h : OkR rows) : LB (iniT rows rows) [] := fun z hz => by
  obtain ⟨a, _, b, hb, _, _, rfl⟩ := mem_iniT.mp hz
  have := h.ln b hb
  simp only
  omega
theorem ld_loop {rows : List Wd} (h : OkR rows) : ∃ x y, Loose x ∧ Loose y ∧ forS (eIt (eV 0)) (tgN 2) B_least_double_1 [.fz (.list (rows.map wd)), .ow false (.ls []), .un, .un, .un, .un, .un, .un, .un, .un, .un] = .ok .nx [.fz (.list (rows.map wd)), .ow false (.ls ((iniT rows rows).map tD)), x, y, .un, .un, .un, .un, .un, .un, .un] := by
  have n5 := h.few
  obtain ⟨ρ', e, x, y, lx, ly, rfl⟩ := loop_pre (t := tgN 2) (b := B_least_double_1) wd (fun d ρ => ∃ x y, Loose x ∧ Loose y ∧ ρ = [.fz (.list (rows.map wd)), .ow false (.ls ((iniT rows d).map tD)), x, y, .un, .un, .un, .un, .un, .un, .un]) rows [] [.fz (.list (rows.map wd)), .ow false (.ls []), .un, .un, .un, .un, .un, .un, .un, .un, .un] ⟨.un, .un, .un, .un, rfl⟩ fun d a rr ρ q i => by
    obtain ⟨x, y, lx, ly, rfl⟩ := i
    have q : rows = d ++ a :: rr := q
    have ha : a ∈ rows := by rw [q]; simp
    have oa := h.ok ha
    have ld : d.length ≤ 5 := by rw [q] at n5; simp at n5; omega
    have lf := iniT_len h d ld
    have o1 := oa.1
    have l2 : (rows.filter fun b => !decide (b = a) && decide (a <+: b)).length ≤ rows.length := List.length_filter_le _ _
    have mF : ∀ b ∈ (rows.filter fun b => !decide (b = a) && decide (a <+: b)), b ∈ rows := fun b hb => (List.mem_filter.mp hb).1
    refine ⟨[.fz (.list (rows.map wd)), .ow false (.ls ((iniT rows d).map tD)), .fz (wd a), y, .un, .un, .un, .un, .un, .un, .un], [.fz (.list (rows.map wd)), .ow false (.ls ((iniT rows (d ++ [a])).map tD)), .fz (wd a), .fz (.list ((rows.filter fun b => !decide (b = a) && decide (a <+: b)).map wd)), .un, .un, .un, .un, .un, .un, .un], ?_, ?_, .fz (wd a), .fz (.list ((rows.filter fun b => !decide (b = a) && decide (a <+: b)).map wd)), .fz _, .fz _, rfl⟩
    · show sto _ 2 _ = _
      rw [sto_loose (x := x) (Eq.trans rfl rfl) lx]
      rfl
    · have c1 : lcE (eIt (eV 0)) (tgN 10) (eAnd (eT (e2 neD (.b 10) (.b 2))) (e1 truD (.g (eM1 swD (eV 10) (.b 2))))) (eV 10) [10] [.fz (.list (rows.map wd)), .ow false (.ls ((iniT rows d).map tD)), .fz (wd a), y, .un, .un, .un, .un, .un, .un, .un] = .ok (.ls ((rows.filter fun b => !decide (b = a) && decide (a <+: b)).map wd)) [.fz (.list (rows.map wd)), .ow false (.ls ((iniT rows d).map tD)), .fz (wd a), y, .un, .un, .un, .un, .un, .un, .un] := by
        refine lcE_pure wd (fun b => !decide (b = a) && decide (a <+: b)) wd rows (ρ1 := [.fz (.list (rows.map wd)), .ow false (.ls ((iniT rows d).map tD)), .fz (wd a), y, .un, .un, .un, .un, .un, .un, .un]) (by simp) rfl (by omega) fun b hb => ?_
        have ob := h.ok hb
        have t1 := ne_wd ob oa
        have t2 := sw_S b a
        refine ⟨[.fz (.list (rows.map wd)), .ow false (.ls ((iniT rows d).map tD)), .fz (wd a), y, .un, .un, .un, .un, .un, .un, .fz (wd b)], rfl, rfl, ?_, fun q => by simp⟩
        have ew : (wd b) = .str (S b) := rfl
        by_cases c : b = a
        · simp [-Option.bind_some, -Option.bind_none, t1, c]
          rw [c] at t1
          simp [t1]
        · simp [-Option.bind_some, -Option.bind_none, t1, c]
          simp [-Option.bind_some, -Option.bind_none, ew, t2, truD]
      have em : (iniT rows (d ++ [a])).map tD = (iniT rows d).map tD ++ (rows.filter fun b => !decide (b = a) && decide (a <+: b)).map fun b => tD (b, b.drop a.length) := by
        rw [iniT_snoc, List.map_append, List.map_map]
        rfl
      rw [em]
      generalize (rows.filter fun b => !decide (b = a) && decide (a <+: b)) = F at *
      have c2 : lcE (eIt (eV 3)) (tgN 10) yesT (eTup [(e1 lenD (.b 10)), (eV 10), (eSl slD (.b 10) (some (e1 lenD (.b 2))) none)]) [10] [.fz (.list (rows.map wd)), .ow false (.ls ((iniT rows d).map tD)), .fz (wd a), .ow false (.ls (F.map wd)), .un, .un, .un, .un, .un, .un, .un] = .ok (.ls (F.map fun b => tD (b, b.drop a.length))) [.fz (.list (rows.map wd)), .ow false (.ls ((iniT rows d).map tD)), .fz (wd a), .fz (.list (F.map wd)), .un, .un, .un, .un, .un, .un, .un] := by
        refine lcE_map wd (fun b => tD (b, b.drop a.length)) F (ρ1 := [.fz (.list (rows.map wd)), .ow false (.ls ((iniT rows d).map tD)), .fz (wd a), .fz (.list (F.map wd)), .un, .un, .un, .un, .un, .un, .un]) (by simp) rfl (by omega) fun b hb => ?_
        have ob := h.ok (mF b hb)
        have o2 := ob.1
        have t3 := sl_from b a.length (by omega)
        have t4 := len_wd a (by omega)
        have t5 := len_wd b (by omega)
        refine ⟨[.fz (.list (rows.map wd)), .ow false (.ls ((iniT rows d).map tD)), .fz (wd a), .fz (.list (F.map wd)), .un, .un, .un, .un, .un, .un, .fz (wd b)], rfl, rfl, ?_⟩
        simp [-Option.bind_some, -Option.bind_none, t3, t4, t5, eSl, optE, tD]
      have lz : (iniT rows d).length + F.length ≤ 16777216 := by omega
      have sy : sto [.fz (.list (rows.map wd)), .ow false (.ls ((iniT rows d).map tD)), .fz (wd a), y, .un, .un, .un, .un, .un, .un, .un] 3 (.ow false (.ls (F.map wd))) = some [.fz (.list (rows.map wd)), .ow false (.ls ((iniT rows d).map tD)), .fz (wd a), .ow false (.ls (F.map wd)), .un, .un, .un, .un, .un, .un, .un] := by
        rw [sto_loose (x := y) (Eq.trans rfl rfl) ly]
        rfl
      unfold B_least_double_1
      simp only [seqS_ap, setO_ap, c1, Res.bind_ok, sy]
      have e3 := mutS_run (f := extF) (i := 1) (g := eFz (lcE (eIt (eV 3)) (tgN 10) yesT (eTup [(e1 lenD (.b 10)), (eV 10), (eSl slD (.b 10) (some (e1 lenD (.b 2))) none)]) [10])) (ρ := [.fz (.list (rows.map wd)), .ow false (.ls ((iniT rows d).map tD)), .fz (wd a), .ow false (.ls (F.map wd)), .un, .un, .un, .un, .un, .un, .un]) (r := [.fz (.list (rows.map wd)), .ow false (.ls ((iniT rows d).map tD)), .fz (wd a), .fz (.list (F.map wd)), .un, .un, .un, .un, .un, .un, .un]) (b := false) (xs := (iniT rows d).map tD) (ys := (iniT rows d).map tD ++ F.map fun b => tD (b, b.drop a.length)) (d := .list (F.map fun b => tD (b, b.drop a.length))) rfl (by rw [eFz_ap, c2]; rfl) (b' := false) (xs' := (iniT rows d).map tD) rfl (by simp [extF, lz])
      exact e3
  refine ⟨x, y, lx, ly, ?_⟩
  have i1 : eIt (eV 0) [.fz (.list (rows.map wd)), .ow false (.ls []), .un, .un, .un, .un, .un, .un, .un, .un, .un] = .ok (rows.map wd) [.fz (.list (rows.map wd)), .ow false (.ls []), .un, .un, .un, .un, .un, .un, .un, .un, .un] := by simp
  rw [forS_ap, i1, Res.bind_ok]
  exact e
def chiP (d : List Wd) (t r : Wd) : List (Wd × Wd) := (d.map (chOne t r)).flatten
theorem chiP_len (d : List Wd) (t r : Wd) : (chiP d t r).length ≤ d.length := by
  unfold chiP
  induction d with
  | nil => simp
  | cons w d ih =>
    have : (chOne t r w).length ≤ 1 := by
      unfold chOne
      split
      · simp
      · split <;> simp
    simp only [List.map_cons, List.flatten_cons, List.length_append, List.length_cons]
    omega
/-- the turn's inner loop -/
theorem ld_inner {rows : List Wd} (h : OkR rows) {Q E : List (Wd × Wd)} {t r : Wd} (hQ : Q.length ≤ 1000) (ht : t.length ≤ 224) (hr : okw r) (lr : r.length ≤ 12) (x2 x3 : Sl) (m : List D) (x8 x9 : Sl) (l8 : Loose x8) (l9 : Loose x9) :
    ∃ y8 y9, Loose y8 ∧ Loose y9 ∧ forS (eIt (eV 0)) (tgN 8) B_least_double_2 [.fz (.list (rows.map wd)), .ow false (.ls (Q.map tD)), x2, x3, .ow false (.ls m), .fz (.int t.length), .fz (wd t), .fz (wd r), x8, x9, .un] = .ok .nx [.fz (.list (rows.map wd)), .ow false (.ls ((Q ++ chi rows t r).map tD)), x2, x3, .ow false (.ls m), .fz (.int t.length), .fz (wd t), .fz (wd r), y8, y9, .un] := by
  have n5 := h.few
  have ew : (wd r) = .str (S r) := rfl
  obtain ⟨ρ', e, y8, y9, h8, h9, rfl⟩ := loop_pre (t := tgN 8) (b := B_least_double_2) wd (fun d ρ => ∃ x8 x9, Loose x8 ∧ Loose x9 ∧ ρ = [.fz (.list (rows.map wd)), .ow false (.ls ((Q ++ chiP d t r).map tD)), x2, x3, .ow false (.ls m), .fz (.int t.length), .fz (wd t), .fz (wd r), x8, x9, .un]) rows [] [.fz (.list (rows.map wd)), .ow false (.ls (Q.map tD)), x2, x3, .ow false (.ls m), .fz (.int t.length), .fz (wd t), .fz (wd r), x8, x9, .un] ⟨x8, x9, l8, l9, by simp [chiP]⟩ fun d w rr ρ q i => by
    obtain ⟨x8, x9, l8, l9, rfl⟩ := i
    have q : rows = d ++ w :: rr := q
    have hw : w ∈ rows := by rw [q]; simp
    have ow := h.ok hw
    have o1 := ow.1
    have lw := h.ln w hw
    have ld : d.length ≤ 5 := by rw [q] at n5; simp at n5; omega
    have lc := chiP_len d t r
    have la : (Q ++ chiP d t r).length < 16777216 := by rw [List.length_append]; omega
    have t1 := sw_S r w
    have t2 := sw_S w r
    have t3 := sl_from r w.length (by have := hr.1; omega)
    have t4 := sl_from w r.length (by omega)
    have t5 := len_wd w (by omega)
    have t6 := len_wd r (by omega)
    have t7 := len_wd (w.drop r.length) (by rw [List.length_drop]; omega)
    have t8 := add_wd t (w.drop r.length) (by rw [List.length_drop]; omega)
    have ew2 : (wd w) = .str (S w) := rfl
    have em : chiP (d ++ [w]) t r = chiP d t r ++ chOne t r w := by unfold chiP; simp
    have sy : sto [.fz (.list (rows.map wd)), .ow false (.ls ((Q ++ chiP d t r).map tD)), x2, x3, .ow false (.ls m), .fz (.int t.length), .fz (wd t), .fz (wd r), .fz (wd w), x9, .un] 9 (.fz (wd (w.drop r.length))) = some [.fz (.list (rows.map wd)), .ow false (.ls ((Q ++ chiP d t r).map tD)), x2, x3, .ow false (.ls m), .fz (.int t.length), .fz (wd t), .fz (wd r), .fz (wd w), .fz (wd (w.drop r.length)), .un] := by
      rw [sto_loose (x := x9) (Eq.trans rfl rfl) l9]
      rfl
    rw [em]
    have q1 : sto [.fz (.list (rows.map wd)), .ow false (.ls ((Q ++ chiP d t r).map tD)), x2, x3, .ow false (.ls m), .fz (.int t.length), .fz (wd t), .fz (wd r), x8, x9, .un] 8 (.fz (wd w)) = some [.fz (.list (rows.map wd)), .ow false (.ls ((Q ++ chiP d t r).map tD)), x2, x3, .ow false (.ls m), .fz (.int t.length), .fz (wd t), .fz (wd r), .fz (wd w), x9, .un] := by
      rw [sto_loose (x := x8) (Eq.trans rfl rfl) l8]
      rfl
    unfold chOne
    generalize chiP d t r = C at *
    have c1 : e1 truD (.g (eM1 swD (eV 7) (.b 8))) [.fz (.list (rows.map wd)), .ow false (.ls ((Q ++ C).map tD)), x2, x3, .ow false (.ls m), .fz (.int t.length), .fz (wd t), .fz (wd r), .fz (wd w), x9, .un] = .ok (decide (w <+: r)) [.fz (.list (rows.map wd)), .ow false (.ls ((Q ++ C).map tD)), x2, x3, .ow false (.ls m), .fz (.int t.length), .fz (wd t), .fz (wd r), .fz (wd w), x9, .un] := by
      simp [-Option.bind_some, -Option.bind_none, ew, t1, truD]
    have c2 : e1 truD (.g (eM1 swD (eV 8) (.b 7))) [.fz (.list (rows.map wd)), .ow false (.ls ((Q ++ C).map tD)), x2, x3, .ow false (.ls m), .fz (.int t.length), .fz (wd t), .fz (wd r), .fz (wd w), x9, .un] = .ok (decide (r <+: w)) [.fz (.list (rows.map wd)), .ow false (.ls ((Q ++ C).map tD)), x2, x3, .ow false (.ls m), .fz (.int t.length), .fz (wd t), .fz (wd r), .fz (wd w), x9, .un] := by
      simp [-Option.bind_some, -Option.bind_none, ew2, t2, truD]
    unfold B_least_double_2
    by_cases p : w <+: r
    · refine ⟨_, [.fz (.list (rows.map wd)), .ow false (.ls ((Q ++ (C ++ [(t, r.drop w.length)])).map tD)), x2, x3, .ow false (.ls m), .fz (.int t.length), .fz (wd t), .fz (wd r), .fz (wd w), x9, .un], q1, ?_, .fz (wd w), x9, .fz _, l9, by rw [if_pos p]⟩
      simp only [p, decide_true] at c1
      simp only [ifS_ap, c1, Res.bind_ok, if_true]
      have e3 := mutS_run (f := appF) (i := 1) (g := eTup [(eV 5), (eV 6), (eSl slD (.b 7) (some (e1 lenD (.b 8))) none)]) (ρ := [.fz (.list (rows.map wd)), .ow false (.ls ((Q ++ C).map tD)), x2, x3, .ow false (.ls m), .fz (.int t.length), .fz (wd t), .fz (wd r), .fz (wd w), x9, .un]) (r := [.fz (.list (rows.map wd)), .ow false (.ls ((Q ++ C).map tD)), x2, x3, .ow false (.ls m), .fz (.int t.length), .fz (wd t), .fz (wd r), .fz (wd w), x9, .un]) (b := false) (xs := (Q ++ C).map tD) (ys := (Q ++ C).map tD ++ [tD (t, r.drop w.length)]) (d := tD (t, r.drop w.length)) rfl (by simp [-Option.bind_some, -Option.bind_none, t3, t5, eSl, optE, tD]) (b' := false) (xs' := (Q ++ C).map tD) rfl (by rw [app_ap, List.length_map, if_pos la])
      rw [e3]
      simp
    · by_cases p2 : r <+: w
      · refine ⟨_, [.fz (.list (rows.map wd)), .ow false (.ls ((Q ++ (C ++ [(t ++ w.drop r.length, w.drop r.length)])).map tD)), x2, x3, .ow false (.ls m), .fz (.int t.length), .fz (wd t), .fz (wd r), .fz (wd w), .fz (wd (w.drop r.length)), .un], q1, ?_, .fz (wd w), .fz (wd (w.drop r.length)), .fz _, .fz _, by rw [if_neg p, if_pos p2]⟩
        simp only [p, decide_false] at c1
        simp only [p2, decide_true] at c2
        have s9 : setS 9 (eSl slD (.b 8) (some (e1 lenD (.b 7))) none) [.fz (.list (rows.map wd)), .ow false (.ls ((Q ++ C).map tD)), x2, x3, .ow false (.ls m), .fz (.int t.length), .fz (wd t), .fz (wd r), .fz (wd w), x9, .un] = .ok .nx [.fz (.list (rows.map wd)), .ow false (.ls ((Q ++ C).map tD)), x2, x3, .ow false (.ls m), .fz (.int t.length), .fz (wd t), .fz (wd r), .fz (wd w), .fz (wd (w.drop r.length)), .un] := by
          have e4 : eSl slD (.b 8) (some (e1 lenD (.b 7))) none [.fz (.list (rows.map wd)), .ow false (.ls ((Q ++ C).map tD)), x2, x3, .ow false (.ls m), .fz (.int t.length), .fz (wd t), .fz (wd r), .fz (wd w), x9, .un] = .ok (wd (w.drop r.length)) [.fz (.list (rows.map wd)), .ow false (.ls ((Q ++ C).map tD)), x2, x3, .ow false (.ls m), .fz (.int t.length), .fz (wd t), .fz (wd r), .fz (wd w), x9, .un] := by
            simp [-Option.bind_some, -Option.bind_none, t4, t6, eSl, optE]
          rw [setS_ap, e4, Res.bind_ok, sy]
          rfl
        simp only [ifS_ap, c1, Res.bind_ok, Bool.false_eq_true, if_false, c2, if_true, seqS_ap, s9]
        have le : ((t.length : Int) + ((w.drop r.length).length : Int)) = ((t ++ w.drop r.length).length : Int) := by rw [List.length_append]; omega
        have e3 := mutS_run (f := appF) (i := 1) (g := eTup [(e2 addD (.b 5) (.g (e1 lenD (.b 9)))), (e2 addD (.b 6) (.b 9)), (eV 9)]) (ρ := [.fz (.list (rows.map wd)), .ow false (.ls ((Q ++ C).map tD)), x2, x3, .ow false (.ls m), .fz (.int t.length), .fz (wd t), .fz (wd r), .fz (wd w), .fz (wd (w.drop r.length)), .un]) (r := [.fz (.list (rows.map wd)), .ow false (.ls ((Q ++ C).map tD)), x2, x3, .ow false (.ls m), .fz (.int t.length), .fz (wd t), .fz (wd r), .fz (wd w), .fz (wd (w.drop r.length)), .un]) (b := false) (xs := (Q ++ C).map tD) (ys := (Q ++ C).map tD ++ [tD (t ++ w.drop r.length, w.drop r.length)]) (d := tD (t ++ w.drop r.length, w.drop r.length)) rfl (by
          unfold tD
          rw [← le]
          simp [-Option.bind_some, -Option.bind_none, t7, t8]) (b' := false) (xs' := (Q ++ C).map tD) rfl (by rw [app_ap, List.length_map, if_pos la])
        rw [e3]
        simp
      · refine ⟨_, [.fz (.list (rows.map wd)), .ow false (.ls ((Q ++ (C ++ [])).map tD)), x2, x3, .ow false (.ls m), .fz (.int t.length), .fz (wd t), .fz (wd r), .fz (wd w), x9, .un], q1, ?_, .fz (wd w), x9, .fz _, l9, by rw [if_neg p, if_neg p2]⟩
        simp only [p, decide_false] at c1
        simp only [p2, decide_false] at c2
        simp only [ifS_ap, c1, Res.bind_ok, Bool.false_eq_true, if_false, c2, nxS_ap, List.append_nil]
  refine ⟨y8, y9, h8, h9, ?_⟩
  have i1 : eIt (eV 0) [.fz (.list (rows.map wd)), .ow false (.ls (Q.map tD)), x2, x3, .ow false (.ls m), .fz (.int t.length), .fz (wd t), .fz (wd r), x8, x9, .un] = .ok (rows.map wd) [.fz (.list (rows.map wd)), .ow false (.ls (Q.map tD)), x2, x3, .ow false (.ls m), .fz (.int t.length), .fz (wd t), .fz (wd r), x8, x9, .un] := by simp
  rw [forS_ap, i1, Res.bind_ok]
  exact e
theorem ld_turn {rows : List Wd} (h : OkR rows) {Q E : List (Wd × Wd)} (i : SI rows Q E) (b : LB Q E) (lq : Q.length ≤ 25 + 5 * E.length) (ne : Q ≠ []) (x2 x3 x5 x6 x7 x8 x9 : Sl) (l5 : Loose x5) (l6 : Loose x6) (l7 : Loose x7) (l8 : Loose x8) (l9 : Loose x9) :
    (∃ Q' E' y5 y6 y7 y8 y9, Loose y5 ∧ Loose y6 ∧ Loose y7 ∧ Loose y8 ∧ Loose y9 ∧ B_least_double_3 [.fz (.list (rows.map wd)), .ow false (.ls (Q.map tD)), x2, x3, .ow false (.ls ((E.reverse.map Prod.snd).map wd)), x5, x6, x7, x8, x9, .un] = .ok .nx [.fz (.list (rows.map wd)), .ow false (.ls (Q'.map tD)), x2, x3, .ow false (.ls ((E'.reverse.map Prod.snd).map wd)), y5, y6, y7, y8, y9, .un] ∧ SI rows Q' E' ∧ LB Q' E' ∧ Q'.length ≤ 25 + 5 * E'.length ∧ Q'.length + 6 * (66 - E'.length) < Q.length + 6 * (66 - E.length)) ∨
    ∃ t ρ, B_least_double_3 [.fz (.list (rows.map wd)), .ow false (.ls (Q.map tD)), x2, x3, .ow false (.ls ((E.reverse.map Prod.snd).map wd)), x5, x6, x7, x8, x9, .un] = .ok (.rt (wd t)) ρ ∧ Found rows (some t) ∧ t.length ≤ 212 := by
  obtain ⟨lE, lz⟩ := b.small h i
  cases es : Q.mergeSort leT with
  | nil =>
    have := congrArg List.length es
    rw [List.length_mergeSort] at this
    exact absurd (List.length_eq_zero_iff.mp this) ne
  | cons z Q' =>
    obtain ⟨t, r⟩ := z
    obtain ⟨hm, hk, s1, s2, sl⟩ := sorted_head es
    have hk : ∀ z ∈ Q, kle t z.1 := hk
    obtain ⟨okr, lr, _⟩ := rc_ok h (i.cq _ hm)
    have okr : okw r := okr
    have lr : r.length ≤ 12 := lr
    have lt : t.length ≤ 212 + r.length := lz _ hm
    have eS : sortS 1 [.fz (.list (rows.map wd)), .ow false (.ls (Q.map tD)), x2, x3, .ow false (.ls ((E.reverse.map Prod.snd).map wd)), x5, x6, x7, x8, x9, .un] = .ok .nx [.fz (.list (rows.map wd)), .ow false (.ls (tD (t, r) :: Q'.map tD)), x2, x3, .ow false (.ls ((E.reverse.map Prod.snd).map wd)), x5, x6, x7, x8, x9, .un] := by
      show (if sortOk (Q.map tD) = true ∧ noLs (Q.map tD) = true then Res.ok Fl.nx _ else .no) = _
      rw [if_pos (sortOk_tD Q), sort_tD, es]
      rfl
    have eP : asgS (tgT [(tgN 5), (tgN 6), (tgN 7)]) (popE 1 (eC (.int 0))) [.fz (.list (rows.map wd)), .ow false (.ls (tD (t, r) :: Q'.map tD)), x2, x3, .ow false (.ls ((E.reverse.map Prod.snd).map wd)), x5, x6, x7, x8, x9, .un] = .ok .nx [.fz (.list (rows.map wd)), .ow false (.ls (Q'.map tD)), x2, x3, .ow false (.ls ((E.reverse.map Prod.snd).map wd)), .fz (.int t.length), .fz (wd t), .fz (wd r), x8, x9, .un] := by
      have e1 : popE 1 (eC (.int 0)) [.fz (.list (rows.map wd)), .ow false (.ls (tD (t, r) :: Q'.map tD)), x2, x3, .ow false (.ls ((E.reverse.map Prod.snd).map wd)), x5, x6, x7, x8, x9, .un] = .ok (tD (t, r)) [.fz (.list (rows.map wd)), .ow false (.ls (Q'.map tD)), x2, x3, .ow false (.ls ((E.reverse.map Prod.snd).map wd)), x5, x6, x7, x8, x9, .un] := Eq.trans rfl rfl
      rw [asgS_ap, e1, Res.bind_ok]
      show DL.stR (tgs [tgN 5, tgN 6, tgN 7] [.int (t.length : Int), wd t, wd r] _) = _
      have q5 : sto [.fz (.list (rows.map wd)), .ow false (.ls (Q'.map tD)), x2, x3, .ow false (.ls ((E.reverse.map Prod.snd).map wd)), x5, x6, x7, x8, x9, .un] 5 (.fz (.int t.length)) = some [.fz (.list (rows.map wd)), .ow false (.ls (Q'.map tD)), x2, x3, .ow false (.ls ((E.reverse.map Prod.snd).map wd)), .fz (.int t.length), x6, x7, x8, x9, .un] := by
        rw [sto_loose (x := x5) (Eq.trans rfl rfl) l5]; rfl
      have q6 : sto [.fz (.list (rows.map wd)), .ow false (.ls (Q'.map tD)), x2, x3, .ow false (.ls ((E.reverse.map Prod.snd).map wd)), .fz (.int t.length), x6, x7, x8, x9, .un] 6 (.fz (wd t)) = some [.fz (.list (rows.map wd)), .ow false (.ls (Q'.map tD)), x2, x3, .ow false (.ls ((E.reverse.map Prod.snd).map wd)), .fz (.int t.length), .fz (wd t), x7, x8, x9, .un] := by
        rw [sto_loose (x := x6) (Eq.trans rfl rfl) l6]; rfl
      have q7 : sto [.fz (.list (rows.map wd)), .ow false (.ls (Q'.map tD)), x2, x3, .ow false (.ls ((E.reverse.map Prod.snd).map wd)), .fz (.int t.length), .fz (wd t), x7, x8, x9, .un] 7 (.fz (wd r)) = some [.fz (.list (rows.map wd)), .ow false (.ls (Q'.map tD)), x2, x3, .ow false (.ls ((E.reverse.map Prod.snd).map wd)), .fz (.int t.length), .fz (wd t), .fz (wd r), x8, x9, .un] := by
        rw [sto_loose (x := x7) (Eq.trans rfl rfl) l7]; rfl
      show DL.stR ((sto _ 5 _).bind fun r1 => (sto r1 6 _).bind fun r1 => (sto r1 7 _).bind fun r1 => some r1) = _
      rw [q5, obind, q6, obind, q7, obind]
      rfl
    have t1 := eq_wd okr (⟨by simp, fun c hc => by simp at hc⟩ : okw [])
    have c1 : eT (e2 eqD (.b 7) (.g (eC (.str (Str.ofString ""))))) [.fz (.list (rows.map wd)), .ow false (.ls (Q'.map tD)), x2, x3, .ow false (.ls ((E.reverse.map Prod.snd).map wd)), .fz (.int t.length), .fz (wd t), .fz (wd r), x8, x9, .un] = .ok (decide (r = [])) [.fz (.list (rows.map wd)), .ow false (.ls (Q'.map tD)), x2, x3, .ow false (.ls ((E.reverse.map Prod.snd).map wd)), .fz (.int t.length), .fz (wd t), .fz (wd r), x8, x9, .un] := by
      simp only [eT_ap, e2_ap, opd_b, opd_g, eC_ap, Res.bind_ok, pk_ap, List.getElem?_cons_succ, List.getElem?_cons_zero, obind, pkf, fin_v, fin_d, ofO_some, em_wd, t1]
    unfold B_least_double_3
    by_cases c : r = []
    · refine .inr ⟨t, [.fz (.list (rows.map wd)), .ow false (.ls (Q'.map tD)), x2, x3, .ow false (.ls ((E.reverse.map Prod.snd).map wd)), .fz (.int t.length), .fz (wd t), .fz (wd r), x8, x9, .un], ?_, i.hit (c ▸ hm) hk, by rw [c] at lt; simpa using lt⟩
      simp only [c, decide_true] at c1
      subst c
      simp only [seqS_ap, eS, eP, Res.bind_ok, ifS_ap, c1, if_true]
      rfl
    · simp only [c, decide_false] at c1
      have ok4 : ∀ x ∈ E.reverse.map Prod.snd, okw x := fun x hx => by
        obtain ⟨e, he, rfl⟩ := List.mem_map.mp hx
        exact (rc_ok h (i.ce e (List.mem_reverse.mp he)).1).1
      have t2 := nin_wd okr ok4
      have mr : ∀ x, x ∈ E.reverse.map Prod.snd ↔ x ∈ E.map Prod.snd := fun x => by simp
      have c2 : eT (e2 notInD (.b 7) (.b 4)) [.fz (.list (rows.map wd)), .ow false (.ls (Q'.map tD)), x2, x3, .ow false (.ls ((E.reverse.map Prod.snd).map wd)), .fz (.int t.length), .fz (wd t), .fz (wd r), x8, x9, .un] = .ok (!decide (r ∈ E.reverse.map Prod.snd)) [.fz (.list (rows.map wd)), .ow false (.ls (Q'.map tD)), x2, x3, .ow false (.ls ((E.reverse.map Prod.snd).map wd)), .fz (.int t.length), .fz (wd t), .fz (wd r), x8, x9, .un] := by
        simp only [eT_ap, e2_ap, opd_b, Res.bind_ok, pk_ap, List.getElem?_cons_succ, List.getElem?_cons_zero, obind, pkf, pko, fin_v, ofO_some, t2]
      by_cases k : r ∈ E.reverse.map Prod.snd
      · simp only [k, decide_true, Bool.not_true] at c2
        refine .inl ⟨Q', E, .fz (.int t.length), .fz (wd t), .fz (wd r), x8, x9, .fz _, .fz _, .fz _, l8, l9, ?_, i.skip hm s1 s2 ((mr r).mp k), fun z hz => b z (s1 z hz), by omega, by omega⟩
        simp only [seqS_ap, eS, eP, Res.bind_ok, ifS_ap, c1, Bool.false_eq_true, if_false, nxS_ap, c2]
      · simp only [k, decide_false, Bool.not_false] at c2
        have i2 := i.grow hm s1 s2 (fun z => k ((mr r).mpr z)) c hk
        have b2 := b.grow (rows := rows) hm s1
        obtain ⟨lE2, _⟩ := b2.small h i2
        have lc := chiP_len rows t r
        have n5 := h.few
        have e4 : mutS appF 4 (eV 7) [.fz (.list (rows.map wd)), .ow false (.ls (Q'.map tD)), x2, x3, .ow false (.ls ((E.reverse.map Prod.snd).map wd)), .fz (.int t.length), .fz (wd t), .fz (wd r), x8, x9, .un] = .ok .nx [.fz (.list (rows.map wd)), .ow false (.ls (Q'.map tD)), x2, x3, .ow false (.ls ((((t, r) :: E).reverse.map Prod.snd).map wd)), .fz (.int t.length), .fz (wd t), .fz (wd r), x8, x9, .un] := by
          have la : ((E.reverse.map Prod.snd).map wd).length < 16777216 := by simp; omega
          have := mutS_run (f := appF) (i := 4) (g := eV 7) (ρ := [.fz (.list (rows.map wd)), .ow false (.ls (Q'.map tD)), x2, x3, .ow false (.ls ((E.reverse.map Prod.snd).map wd)), .fz (.int t.length), .fz (wd t), .fz (wd r), x8, x9, .un]) (r := [.fz (.list (rows.map wd)), .ow false (.ls (Q'.map tD)), x2, x3, .ow false (.ls ((E.reverse.map Prod.snd).map wd)), .fz (.int t.length), .fz (wd t), .fz (wd r), x8, x9, .un]) (b := false) (xs := (E.reverse.map Prod.snd).map wd) (ys := (E.reverse.map Prod.snd).map wd ++ [wd r]) (d := wd r) rfl rfl (b' := false) (xs' := (E.reverse.map Prod.snd).map wd) rfl (by rw [app_ap, if_pos la])
          rw [this]
          simp
        obtain ⟨y8, y9, h8, h9, e5⟩ := ld_inner h (Q := Q') (E := E) (t := t) (r := r) (by omega) (by omega) okr lr x2 x3 (((((t, r) :: E).reverse.map Prod.snd).map wd)) x8 x9 l8 l9
        refine .inl ⟨Q' ++ chi rows t r, (t, r) :: E, .fz (.int t.length), .fz (wd t), .fz (wd r), y8, y9, .fz _, .fz _, .fz _, h8, h9, ?_, i2, b2, ?_, ?_⟩
        · simp only [seqS_ap, eS, eP, Res.bind_ok, ifS_ap, c1, Bool.false_eq_true, if_false, nxS_ap, c2, if_true, e4]
          exact e5
        · have : (chi rows t r).length ≤ rows.length := lc
          rw [List.length_append, List.length_cons]
          omega
        · have : (chi rows t r).length ≤ rows.length := lc
          rw [List.length_append]
          rw [List.length_cons] at lE2 ⊢
          omega
def oD : Option Wd → D
  | none => .none
  | some t => wd t
theorem least_double_run {rows : List Wd} (h : OkR rows) : ∃ o, Found rows o ∧ (∀ t, o = some t → t.length ≤ 212) ∧ F_least_double [.fz (.list (rows.map wd))] = .ok (oD o) [.un] := by
  obtain ⟨x, y, lx, ly, el⟩ := ld_loop h
  have w := while_st (c := C_least_double_3) (b := B_least_double_3) (fun (s : List (Wd × Wd) × List (Wd × Wd)) ρ => ∃ x2 x3 x5 x6 x7 x8 x9, Loose x5 ∧ Loose x6 ∧ Loose x7 ∧ Loose x8 ∧ Loose x9 ∧ ρ = [.fz (.list (rows.map wd)), .ow false (.ls (s.1.map tD)), x2, x3, .ow false (.ls ((s.2.reverse.map Prod.snd).map wd)), x5, x6, x7, x8, x9, .un] ∧ SI rows s.1 s.2 ∧ LB s.1 s.2 ∧ s.1.length ≤ 25 + 5 * s.2.length) (fun s => s.1.length + 6 * (66 - s.2.length))
    (fun ρ => Found rows none) (fun d => ∃ t, d = wd t ∧ Found rows (some t) ∧ t.length ≤ 212) (fun s ρ hi => by
      obtain ⟨Q, E⟩ := s
      obtain ⟨x2, x3, x5, x6, x7, x8, x9, l5, l6, l7, l8, l9, rfl, i, b, lq⟩ := hi
      have i : SI rows Q E := i
      have b : LB Q E := b
      have lq : Q.length ≤ 25 + 5 * E.length := lq
      have test : C_least_double_3 [.fz (.list (rows.map wd)), .ow false (.ls (Q.map tD)), x2, x3, .ow false (.ls ((E.reverse.map Prod.snd).map wd)), x5, x6, x7, x8, x9, .un] = .ok (!Q.isEmpty) [.fz (.list (rows.map wd)), .ow false (.ls (Q.map tD)), x2, x3, .ow false (.ls ((E.reverse.map Prod.snd).map wd)), x5, x6, x7, x8, x9, .un] := by
        unfold C_least_double_3
        cases Q <;> simp [-Option.bind_some, -Option.bind_none, truD]
      by_cases c : Q = []
      · subst c
        exact .inl ⟨_, test, i.done⟩
      · have c2 : (!Q.isEmpty) = true := by simp [c]
        rw [c2] at test
        refine .inr ⟨_, test, ?_⟩
        rcases ld_turn h i b lq c x2 x3 x5 x6 x7 x8 x9 l5 l6 l7 l8 l9 with ⟨Q', E', y5, y6, y7, y8, y9, h5, h6, h7, h8, h9, e, i', b', lq', m⟩ | ⟨t, ρ, e, f⟩
        · exact .inl ⟨(Q', E'), _, e, ⟨x2, x3, y5, y6, y7, y8, y9, h5, h6, h7, h8, h9, rfl, i', b', lq'⟩, m⟩
        · exact .inr ⟨_, ρ, e, t, rfl, f⟩) 100000 (iniT rows rows, []) [.fz (.list (rows.map wd)), .ow false (.ls ((iniT rows rows).map tD)), x, y, .ow false (.ls []), .un, .un, .un, .un, .un, .un] ⟨x, y, .un, .un, .un, .un, .un, .un, .un, .un, .un, .un, rfl, SI.init rows, LB.init h, by have := iniT_len h rows h.few; simp; omega⟩ (by have := iniT_len h rows h.few; show (iniT rows rows).length + 6 * (66 - 0) < 100000; omega)
  have start : g_least_double [.fz (.list (rows.map wd)), .un, .un, .un, .un, .un, .un, .un, .un, .un, .un] = (whileS C_least_double_3 B_least_double_3 100000 [.fz (.list (rows.map wd)), .ow false (.ls ((iniT rows rows).map tD)), x, y, .ow false (.ls []), .un, .un, .un, .un, .un, .un]).bind fun f r => match f with | .nx => rtS (eC .none) r | f => .ok f r := by
    unfold g_least_double
    have e1 : setO 1 (eLst []) [.fz (.list (rows.map wd)), .un, .un, .un, .un, .un, .un, .un, .un, .un, .un] = .ok .nx [.fz (.list (rows.map wd)), .ow false (.ls []), .un, .un, .un, .un, .un, .un, .un, .un, .un] := by simp
    have e2 : setO 4 (eLst []) [.fz (.list (rows.map wd)), .ow false (.ls ((iniT rows rows).map tD)), x, y, .un, .un, .un, .un, .un, .un, .un] = .ok .nx [.fz (.list (rows.map wd)), .ow false (.ls ((iniT rows rows).map tD)), x, y, .ow false (.ls []), .un, .un, .un, .un, .un, .un] := Eq.trans rfl rfl
    rw [seqS_ap, e1, Res.bind_ok]
    dsimp only
    rw [seqS_ap, el, Res.bind_ok]
    dsimp only
    rw [seqS_ap, e2, Res.bind_ok]
    dsimp only
    refine (seqS_ap _ _ _).trans ?_
    generalize whileS C_least_double_3 B_least_double_3 100000 _ = W
    cases W with
    | ok f r => cases f <;> rfl
    | er c r => rfl
    | no => rfl
  rcases w with ⟨ρ, ew, f⟩ | ⟨d, ρ, ew, t, rfl, f, lt⟩
  · refine ⟨none, f, (fun t z => nomatch z), frun (ds := [.list (rows.map wd)]) ⟨ρ, ?_⟩⟩
    show g_least_double [.fz (.list (rows.map wd)), .un, .un, .un, .un, .un, .un, .un, .un, .un, .un] = _
    rw [start, ew, Res.bind_ok]
    rfl
  · refine ⟨some t, f, (fun u z => by cases z; exact lt), frun (ds := [.list (rows.map wd)]) ⟨ρ, ?_⟩⟩
    show g_least_double [.fz (.list (rows.map wd)), .un, .un, .un, .un, .un, .un, .un, .un, .un, .un] = _
    rw [start, ew, Res.bind_ok]
    rfl
end K65
end
section
set_option autoImplicit false
set_option maxRecDepth 100000
set_option Elab.async false
set_option linter.all false
namespace K65
open PySem DL L2 SX
theorem lk_isSome {κ : Type} [DecidableEq κ] : ∀ (kvs : List (κ × D)) (k : κ), (lk kvs k).isSome = decide (k ∈ kvs.map Prod.fst)
  | [], k => by simp [lk]
  | (j, d) :: r, k => by
    unfold lk
    by_cases c : j = k
    · simp [c]
    · rw [if_neg c, lk_isSome r k]
      have c2 : ¬ k = j := fun z => c z.symm
      simp [c2]
theorem rc_okw {rows : List Wd} (h : OkR rows) {t r : Wd} (c : Rc rows t r) (l : t.length ≤ 1000) : okw t := ⟨by omega, (rc_ok h c).2.2⟩
theorem ok_tD {z : Wd × Wd} (h1 : okw z.1) (h2 : okw z.2) : okN 1 (tD z) := ok_tup fun d hd => by
  simp only [List.mem_cons, List.not_mem_nil, or_false] at hd
  rcases hd with e | e | e
  · rw [e]; exact ok_int _
  · rw [e]; exact ok_wd h1
  · rw [e]; exact ok_wd h2
theorem enc_tD : Enc tD := fun a b => by
  show ((PyData.eqv (.int (a.1.length : Int)) (.int (b.1.length : Int))) && (PyData.eqv (wd a.1) (wd b.1) && (PyData.eqv (wd a.2) (wd b.2) && true))) = _
  rw [enc_wd, enc_wd]
  obtain ⟨a1, a2⟩ := a
  obtain ⟨b1, b2⟩ := b
  by_cases e : a1 = b1
  · by_cases e2 : a2 = b2 <;> simp [e, e2, PyData.eqv]
  · simp [e]
theorem ne_nilT {Q : List (Wd × Wd)} (h : ∀ z ∈ Q, okw z.1 ∧ okw z.2) : neD (.list (Q.map tD)) (.list []) = some (.bool (!Q.isEmpty)) := by
  rw [neD_ok ((ok_list (n := 1) fun d hd => by
    obtain ⟨z, hz, rfl⟩ := List.mem_map.mp hd
    exact ok_tD (h z hz).1 (h z hz).2).mono (by omega)) ((ok_list (n := 1) fun d hd => by simp at hd).mono (by omega))]
  cases Q <;> rfl
/-- the law's best, as a dict -/
def bE (E : List (Wd × Wd)) : List (Key × D) := E.reverse.map fun e => ((Sum.inr (S e.2) : Key), wd e.1)
theorem bE_has (E : List (Wd × Wd)) (r : Wd) : (lk (bE E) (.inr (S r))).isSome = decide (r ∈ E.map Prod.snd) := by
  rw [lk_isSome]
  refine decide_eq_decide.mpr ?_
  unfold bE
  simp only [List.map_map, List.mem_map, List.mem_reverse, Function.comp_apply]
  constructor
  · rintro ⟨e, he, z⟩
    exact ⟨e, he, S_inj (Sum.inr.inj z)⟩
  · rintro ⟨e, he, rfl⟩
    exact ⟨e, he, rfl⟩
theorem bE_put {E : List (Wd × Wd)} {t r : Wd} (h : r ∉ E.map Prod.snd) : pt' (bE E) (.inr (S r)) (wd t) = bE ((t, r) :: E) := by
  unfold pt'
  have : (lk (bE E) (.inr (S r))).isSome = false := by rw [bE_has]; simp only [h, decide_false]
  rw [this]
  simp [bE]
theorem lld_loop {rows : List Wd} (h : OkR rows) : ∃ x, Loose x ∧ forS (eIt (eV 0)) (tgN 3) B__law_least_double_1 [.fz (.list (rows.map wd)), .ow false (.dk []), .ow false (.ls []), .un, .un, .un, .un, .un, .un, .un] = .ok .nx [.fz (.list (rows.map wd)), .ow false (.dk []), .ow false (.ls ((iniT rows rows).map tD)), x, .un, .un, .un, .un, .un, .un] := by
  have n5 := h.few
  obtain ⟨ρ', e, x, lx, rfl⟩ := loop_pre (t := tgN 3) (b := B__law_least_double_1) wd (fun d ρ => ∃ x, Loose x ∧ ρ = [.fz (.list (rows.map wd)), .ow false (.dk []), .ow false (.ls ((iniT rows d).map tD)), x, .un, .un, .un, .un, .un, .un]) rows [] [.fz (.list (rows.map wd)), .ow false (.dk []), .ow false (.ls []), .un, .un, .un, .un, .un, .un, .un] ⟨.un, .un, rfl⟩ fun d a rr ρ q i => by
    obtain ⟨x, lx, rfl⟩ := i
    have q : rows = d ++ a :: rr := q
    have ha : a ∈ rows := by rw [q]; simp
    have oa := h.ok ha
    have ld : d.length ≤ 5 := by rw [q] at n5; simp at n5; omega
    have lf := iniT_len h d ld
    have o1 := oa.1
    refine ⟨[.fz (.list (rows.map wd)), .ow false (.dk []), .ow false (.ls ((iniT rows d).map tD)), .fz (wd a), .un, .un, .un, .un, .un, .un], [.fz (.list (rows.map wd)), .ow false (.dk []), .ow false (.ls ((iniT rows (d ++ [a])).map tD)), .fz (wd a), .un, .un, .un, .un, .un, .un], ?_, ?_, .fz (wd a), .fz _, rfl⟩
    · show sto _ 3 _ = _
      rw [sto_loose (x := x) (Eq.trans rfl rfl) lx]
      rfl
    · have c1 : ∀ y, lcE (eIt (eV 0)) (tgN 8) (eAnd (eT (e2 neD (.b 8) (.b 3))) (eT (e2 eqD (.g (eSl slD (.b 8) none (some (e1 lenD (.b 3))))) (.b 3)))) (eTup [(e1 lenD (.b 8)), (eV 8), (eSl slD (.b 8) (some (e1 lenD (.b 3))) none)]) [8] [.fz (.list (rows.map wd)), .ow false (.dk []), y, .fz (wd a), .un, .un, .un, .un, .un, .un] = .ok (.ls ((rows.filter fun b => !decide (b = a) && decide (a <+: b)).map fun b => tD (b, b.drop a.length))) [.fz (.list (rows.map wd)), .ow false (.dk []), y, .fz (wd a), .un, .un, .un, .un, .un, .un] := fun y => by
        refine lcE_pure wd (fun b => !decide (b = a) && decide (a <+: b)) (fun b => tD (b, b.drop a.length)) rows (ρ1 := [.fz (.list (rows.map wd)), .ow false (.dk []), y, .fz (wd a), .un, .un, .un, .un, .un, .un]) (by simp) rfl (by omega) fun b hb => ?_
        have ob := h.ok hb
        have o2 := ob.1
        have t1 := ne_wd ob oa
        have t2 := sl_to b a.length (by omega)
        have t3 := sl_from b a.length (by omega)
        have t4 := len_wd a (by omega)
        have t6 := len_wd b (by omega)
        have t5 := eq_wd (ob.take a.length) oa
        rw [pre_take] at t5
        refine ⟨[.fz (.list (rows.map wd)), .ow false (.dk []), y, .fz (wd a), .un, .un, .un, .un, .fz (wd b), .un], rfl, rfl, ?_, fun q => ?_⟩
        · by_cases c : b = a
          · simp [-Option.bind_some, -Option.bind_none, t1, c]
            rw [c] at t1
            simp [t1]
          · simp [-Option.bind_some, -Option.bind_none, t1, c, eSl, optE, t2, t4, t5]
        · simp [-Option.bind_some, -Option.bind_none, t3, t4, t6, eSl, optE, tD]
      have em : (iniT rows (d ++ [a])).map tD = (iniT rows d).map tD ++ (rows.filter fun b => !decide (b = a) && decide (a <+: b)).map fun b => tD (b, b.drop a.length) := by
        rw [iniT_snoc, List.map_append, List.map_map]
        rfl
      have l2 : (rows.filter fun b => !decide (b = a) && decide (a <+: b)).length ≤ rows.length := List.length_filter_le _ _
      have lz : (iniT rows d).length + (rows.filter fun b => !decide (b = a) && decide (a <+: b)).length ≤ 16777216 := by omega
      rw [em]
      unfold B__law_least_double_1
      generalize (rows.filter fun b => !decide (b = a) && decide (a <+: b)) = F at *
      simp [-lcE_ap, -Option.bind_some, -Option.bind_none, c1, catO, lz]
  refine ⟨x, lx, ?_⟩
  have i1 : eIt (eV 0) [.fz (.list (rows.map wd)), .ow false (.dk []), .ow false (.ls []), .un, .un, .un, .un, .un, .un, .un] = .ok (rows.map wd) [.fz (.list (rows.map wd)), .ow false (.dk []), .ow false (.ls []), .un, .un, .un, .un, .un, .un, .un] := by simp
  rw [forS_ap, i1, Res.bind_ok]
  exact e
/-- the turn's inner loop -/
theorem lld_inner {rows : List Wd} (h : OkR rows) {Q E : List (Wd × Wd)} {t r : Wd} (hQ : Q.length ≤ 1000) (ht : t.length ≤ 224) (hr : okw r) (lr : r.length ≤ 12) (b : Ob) (x3 x7 x8 x9 : Sl) (l7 : Loose x7) :
    ∃ y7, Loose y7 ∧ forS (eIt (eV 0)) (tgN 7) B__law_least_double_2 [.fz (.list (rows.map wd)), .ow false b, .ow false (.ls (Q.map tD)), x3, .fz (.int t.length), .fz (wd t), .fz (wd r), x7, x8, x9] = .ok .nx [.fz (.list (rows.map wd)), .ow false b, .ow false (.ls ((Q ++ chi rows t r).map tD)), x3, .fz (.int t.length), .fz (wd t), .fz (wd r), y7, x8, x9] := by
  have n5 := h.few
  obtain ⟨ρ', e, y7, h7, rfl⟩ := loop_pre (t := tgN 7) (b := B__law_least_double_2) wd (fun d ρ => ∃ x7, Loose x7 ∧ ρ = [.fz (.list (rows.map wd)), .ow false b, .ow false (.ls ((Q ++ chiP d t r).map tD)), x3, .fz (.int t.length), .fz (wd t), .fz (wd r), x7, x8, x9]) rows [] [.fz (.list (rows.map wd)), .ow false b, .ow false (.ls (Q.map tD)), x3, .fz (.int t.length), .fz (wd t), .fz (wd r), x7, x8, x9] ⟨x7, l7, by simp [chiP]⟩ fun d w rr ρ q i => by
    obtain ⟨x7, l7, rfl⟩ := i
    have q : rows = d ++ w :: rr := q
    have hw : w ∈ rows := by rw [q]; simp
    have ow := h.ok hw
    have o1 := ow.1
    have o2 := hr.1
    have lw := h.ln w hw
    have ld : d.length ≤ 5 := by rw [q] at n5; simp at n5; omega
    have lc := chiP_len d t r
    have la : (Q ++ chiP d t r).length < 16777216 := by rw [List.length_append]; omega
    have t1 := sl_to r w.length (by omega)
    have t2 := sl_to w r.length (by omega)
    have t3 := sl_from r w.length (by omega)
    have t4 := sl_from w r.length (by omega)
    have t5 := len_wd w (by omega)
    have t6 := len_wd r (by omega)
    have t7 := eq_wd (hr.take w.length) ow
    have t8 := eq_wd (ow.take r.length) hr
    rw [pre_take] at t7 t8
    have t9 := add_wd t (w.drop r.length) (by rw [List.length_drop]; omega)
    have em : chiP (d ++ [w]) t r = chiP d t r ++ chOne t r w := by unfold chiP; simp
    rw [em]
    have q1 : sto [.fz (.list (rows.map wd)), .ow false b, .ow false (.ls ((Q ++ chiP d t r).map tD)), x3, .fz (.int t.length), .fz (wd t), .fz (wd r), x7, x8, x9] 7 (.fz (wd w)) = some [.fz (.list (rows.map wd)), .ow false b, .ow false (.ls ((Q ++ chiP d t r).map tD)), x3, .fz (.int t.length), .fz (wd t), .fz (wd r), .fz (wd w), x8, x9] := by
      rw [sto_loose (x := x7) (Eq.trans rfl rfl) l7]
      rfl
    unfold chOne
    generalize chiP d t r = C at *
    have c1 : eT (e2 eqD (.g (eSl slD (.b 6) none (some (e1 lenD (.b 7))))) (.b 7)) [.fz (.list (rows.map wd)), .ow false b, .ow false (.ls ((Q ++ C).map tD)), x3, .fz (.int t.length), .fz (wd t), .fz (wd r), .fz (wd w), x8, x9] = .ok (decide (w <+: r)) [.fz (.list (rows.map wd)), .ow false b, .ow false (.ls ((Q ++ C).map tD)), x3, .fz (.int t.length), .fz (wd t), .fz (wd r), .fz (wd w), x8, x9] := by
      simp [-Option.bind_some, -Option.bind_none, eSl, optE, t1, t5, t7]
    have c2 : eT (e2 eqD (.g (eSl slD (.b 7) none (some (e1 lenD (.b 6))))) (.b 6)) [.fz (.list (rows.map wd)), .ow false b, .ow false (.ls ((Q ++ C).map tD)), x3, .fz (.int t.length), .fz (wd t), .fz (wd r), .fz (wd w), x8, x9] = .ok (decide (r <+: w)) [.fz (.list (rows.map wd)), .ow false b, .ow false (.ls ((Q ++ C).map tD)), x3, .fz (.int t.length), .fz (wd t), .fz (wd r), .fz (wd w), x8, x9] := by
      simp [-Option.bind_some, -Option.bind_none, eSl, optE, t2, t6, t8]
    unfold B__law_least_double_2
    by_cases p : w <+: r
    · refine ⟨_, [.fz (.list (rows.map wd)), .ow false b, .ow false (.ls ((Q ++ (C ++ [(t, r.drop w.length)])).map tD)), x3, .fz (.int t.length), .fz (wd t), .fz (wd r), .fz (wd w), x8, x9], q1, ?_, .fz (wd w), .fz _, by rw [if_pos p]⟩
      simp only [p, decide_true] at c1
      simp only [ifS_ap, c1, Res.bind_ok, if_true]
      have e3 := mutS_run (f := appF) (i := 2) (g := eTup [(eV 4), (eV 5), (eSl slD (.b 6) (some (e1 lenD (.b 7))) none)]) (ρ := [.fz (.list (rows.map wd)), .ow false b, .ow false (.ls ((Q ++ C).map tD)), x3, .fz (.int t.length), .fz (wd t), .fz (wd r), .fz (wd w), x8, x9]) (r := [.fz (.list (rows.map wd)), .ow false b, .ow false (.ls ((Q ++ C).map tD)), x3, .fz (.int t.length), .fz (wd t), .fz (wd r), .fz (wd w), x8, x9]) (b := false) (xs := (Q ++ C).map tD) (ys := (Q ++ C).map tD ++ [tD (t, r.drop w.length)]) (d := tD (t, r.drop w.length)) rfl (by simp [-Option.bind_some, -Option.bind_none, t3, t5, eSl, optE, tD]) (b' := false) (xs' := (Q ++ C).map tD) rfl (by rw [app_ap, List.length_map, if_pos la])
      rw [e3]
      simp
    · by_cases p2 : r <+: w
      · refine ⟨_, [.fz (.list (rows.map wd)), .ow false b, .ow false (.ls ((Q ++ (C ++ [(t ++ w.drop r.length, w.drop r.length)])).map tD)), x3, .fz (.int t.length), .fz (wd t), .fz (wd r), .fz (wd w), x8, x9], q1, ?_, .fz (wd w), .fz _, by rw [if_neg p, if_pos p2]⟩
        simp only [p, decide_false] at c1
        simp only [p2, decide_true] at c2
        simp only [ifS_ap, c1, Res.bind_ok, Bool.false_eq_true, if_false, c2, if_true]
        have lp := p2.length_le
        have le : ((t.length : Int) + (w.length : Int) - (r.length : Int)) = ((t ++ w.drop r.length).length : Int) := by rw [List.length_append, List.length_drop]; omega
        have e3 := mutS_run (f := appF) (i := 2) (g := eTup [(e2 subD (.g (e2 addD (.b 4) (.g (e1 lenD (.b 7))))) (.g (e1 lenD (.b 6)))), (e2 addD (.b 5) (.g (eSl slD (.b 7) (some (e1 lenD (.b 6))) none))), (eSl slD (.b 7) (some (e1 lenD (.b 6))) none)]) (ρ := [.fz (.list (rows.map wd)), .ow false b, .ow false (.ls ((Q ++ C).map tD)), x3, .fz (.int t.length), .fz (wd t), .fz (wd r), .fz (wd w), x8, x9]) (r := [.fz (.list (rows.map wd)), .ow false b, .ow false (.ls ((Q ++ C).map tD)), x3, .fz (.int t.length), .fz (wd t), .fz (wd r), .fz (wd w), x8, x9]) (b := false) (xs := (Q ++ C).map tD) (ys := (Q ++ C).map tD ++ [tD (t ++ w.drop r.length, w.drop r.length)]) (d := tD (t ++ w.drop r.length, w.drop r.length)) rfl (by
          unfold tD
          rw [← le]
          simp [-Option.bind_some, -Option.bind_none, eSl, optE, t4, t5, t6, t9]) (b' := false) (xs' := (Q ++ C).map tD) rfl (by rw [app_ap, List.length_map, if_pos la])
        rw [e3]
        simp
      · refine ⟨_, [.fz (.list (rows.map wd)), .ow false b, .ow false (.ls ((Q ++ (C ++ [])).map tD)), x3, .fz (.int t.length), .fz (wd t), .fz (wd r), .fz (wd w), x8, x9], q1, ?_, .fz (wd w), .fz _, by rw [if_neg p, if_neg p2]⟩
        simp only [p, decide_false] at c1
        simp only [p2, decide_false] at c2
        simp only [ifS_ap, c1, Res.bind_ok, Bool.false_eq_true, if_false, c2, nxS_ap, List.append_nil]
  refine ⟨y7, h7, ?_⟩
  have i1 : eIt (eV 0) [.fz (.list (rows.map wd)), .ow false b, .ow false (.ls (Q.map tD)), x3, .fz (.int t.length), .fz (wd t), .fz (wd r), x7, x8, x9] = .ok (rows.map wd) [.fz (.list (rows.map wd)), .ow false b, .ow false (.ls (Q.map tD)), x3, .fz (.int t.length), .fz (wd t), .fz (wd r), x7, x8, x9] := by simp
  rw [forS_ap, i1, Res.bind_ok]
  exact e

theorem lld_turn {rows : List Wd} (h : OkR rows) {Q E : List (Wd × Wd)} (i : SI rows Q E) (b : LB Q E) (lq : Q.length ≤ 25 + 5 * E.length) (ne : Q ≠ []) (x3 x4 x5 x6 x7 x8 x9 : Sl) (l4 : Loose x4) (l5 : Loose x5) (l6 : Loose x6) (l7 : Loose x7) :
    (∃ Q' E' y4 y5 y6 y7, Loose y4 ∧ Loose y5 ∧ Loose y6 ∧ Loose y7 ∧ B__law_least_double_3 [.fz (.list (rows.map wd)), .ow false (.dk (bE E)), .ow false (.ls (Q.map tD)), x3, x4, x5, x6, x7, x8, x9] = .ok .nx [.fz (.list (rows.map wd)), .ow false (.dk (bE E')), .ow false (.ls (Q'.map tD)), x3, y4, y5, y6, y7, x8, .un] ∧ SI rows Q' E' ∧ LB Q' E' ∧ Q'.length ≤ 25 + 5 * E'.length ∧ Q'.length + 6 * (66 - E'.length) < Q.length + 6 * (66 - E.length)) ∨
    ∃ t ρ, B__law_least_double_3 [.fz (.list (rows.map wd)), .ow false (.dk (bE E)), .ow false (.ls (Q.map tD)), x3, x4, x5, x6, x7, x8, x9] = .ok (.rt (wd t)) ρ ∧ Found rows (some t) := by
  obtain ⟨lE, lz⟩ := b.small h i
  have okQ : ∀ z ∈ Q, okw z.1 ∧ okw z.2 := fun z hz => by
    have q := rc_ok h (i.cq z hz)
    have q2 := lz z hz
    exact ⟨rc_okw h (i.cq z hz) (by omega), q.1⟩
  cases Q with
  | nil => exact absurd rfl ne
  | cons z0 Q0 =>
    have em := min_tD z0 Q0
    obtain ⟨hm, hk⟩ := minT_mem Q0 z0
    generalize minT z0 Q0 = mz at em hm hk
    obtain ⟨t, r⟩ := mz
    have hk : ∀ z ∈ z0 :: Q0, kle t z.1 := hk
    generalize z0 :: Q0 = Q at *
    obtain ⟨okr, lr, _⟩ := rc_ok h (i.cq _ hm)
    have okr : okw r := okr
    have lr : r.length ≤ 12 := lr
    have lt : t.length ≤ 212 + r.length := lz _ hm
    have okt : okw t := (okQ _ hm).1
    have eP : asgS (tgT [(tgN 4), (tgN 5), (tgN 6)]) (e1 minLD (.b 2)) [.fz (.list (rows.map wd)), .ow false (.dk (bE E)), .ow false (.ls (Q.map tD)), x3, x4, x5, x6, x7, x8, x9] = .ok .nx [.fz (.list (rows.map wd)), .ow false (.dk (bE E)), .ow false (.ls (Q.map tD)), x3, .fz (.int t.length), .fz (wd t), .fz (wd r), x7, x8, x9] := by
      have e1 : e1 minLD (.b 2) [.fz (.list (rows.map wd)), .ow false (.dk (bE E)), .ow false (.ls (Q.map tD)), x3, x4, x5, x6, x7, x8, x9] = .ok (tD (t, r)) [.fz (.list (rows.map wd)), .ow false (.dk (bE E)), .ow false (.ls (Q.map tD)), x3, x4, x5, x6, x7, x8, x9] := by
        simp only [e1_ap, opd_b, Res.bind_ok, pk_ap, List.getElem?_cons_succ, List.getElem?_cons_zero, obind, pko, fin_v, ofO_some, em]
      rw [asgS_ap, e1, Res.bind_ok]
      show DL.stR (tgs [tgN 4, tgN 5, tgN 6] [.int (t.length : Int), wd t, wd r] _) = _
      have q5 : sto [.fz (.list (rows.map wd)), .ow false (.dk (bE E)), .ow false (.ls (Q.map tD)), x3, x4, x5, x6, x7, x8, x9] 4 (.fz (.int t.length)) = some [.fz (.list (rows.map wd)), .ow false (.dk (bE E)), .ow false (.ls (Q.map tD)), x3, .fz (.int t.length), x5, x6, x7, x8, x9] := by
        rw [sto_loose (x := x4) (Eq.trans rfl rfl) l4]; rfl
      have q6 : sto [.fz (.list (rows.map wd)), .ow false (.dk (bE E)), .ow false (.ls (Q.map tD)), x3, .fz (.int t.length), x5, x6, x7, x8, x9] 5 (.fz (wd t)) = some [.fz (.list (rows.map wd)), .ow false (.dk (bE E)), .ow false (.ls (Q.map tD)), x3, .fz (.int t.length), .fz (wd t), x6, x7, x8, x9] := by
        rw [sto_loose (x := x5) (Eq.trans rfl rfl) l5]; rfl
      have q7 : sto [.fz (.list (rows.map wd)), .ow false (.dk (bE E)), .ow false (.ls (Q.map tD)), x3, .fz (.int t.length), .fz (wd t), x6, x7, x8, x9] 6 (.fz (wd r)) = some [.fz (.list (rows.map wd)), .ow false (.dk (bE E)), .ow false (.ls (Q.map tD)), x3, .fz (.int t.length), .fz (wd t), .fz (wd r), x7, x8, x9] := by
        rw [sto_loose (x := x6) (Eq.trans rfl rfl) l6]; rfl
      show DL.stR ((sto _ 4 _).bind fun r1 => (sto r1 5 _).bind fun r1 => (sto r1 6 _).bind fun r1 => some r1) = _
      rw [q5, obind, q6, obind, q7, obind]
      rfl
    have eF : setO 2 (lcE (eIt (eV 2)) (tgN 9) (eT (e2 neD (.b 9) (.g (eTup [(eV 4), (eV 5), (eV 6)])))) (eV 9) [9]) [.fz (.list (rows.map wd)), .ow false (.dk (bE E)), .ow false (.ls (Q.map tD)), x3, .fz (.int t.length), .fz (wd t), .fz (wd r), x7, x8, x9] = .ok .nx [.fz (.list (rows.map wd)), .ow false (.dk (bE E)), .ow false (.ls ((Q.filter fun z => !decide (z = (t, r))).map tD)), x3, .fz (.int t.length), .fz (wd t), .fz (wd r), x7, x8, .un] := by
      have c1 : lcE (eIt (eV 2)) (tgN 9) (eT (e2 neD (.b 9) (.g (eTup [(eV 4), (eV 5), (eV 6)])))) (eV 9) [9] [.fz (.list (rows.map wd)), .ow false (.dk (bE E)), .ow false (.ls (Q.map tD)), x3, .fz (.int t.length), .fz (wd t), .fz (wd r), x7, x8, x9] = .ok (.ls ((Q.filter fun z => !decide (z = (t, r))).map tD)) [.fz (.list (rows.map wd)), .ow false (.dk (bE E)), .fz (.list (Q.map tD)), x3, .fz (.int t.length), .fz (wd t), .fz (wd r), x7, x8, .un] := by
        refine lcE_pure tD (fun z => !decide (z = (t, r))) tD Q (ρ1 := [.fz (.list (rows.map wd)), .ow false (.dk (bE E)), .fz (.list (Q.map tD)), x3, .fz (.int t.length), .fz (wd t), .fz (wd r), x7, x8, x9]) (by simp) rfl (by omega) fun z hz => ?_
        have t1 : neD (tD z) (.tuple [.int (t.length : Int), wd t, wd r]) = some (.bool (!decide (z = (t, r)))) := by
          have := neD_ok ((ok_tD (okQ z hz).1 (okQ z hz).2).mono (show 1 ≤ 64 by omega)) ((ok_tD (z := (t, r)) okt okr).mono (show 1 ≤ 64 by omega))
          rw [enc_tD] at this
          exact this
        refine ⟨[.fz (.list (rows.map wd)), .ow false (.dk (bE E)), .fz (.list (Q.map tD)), x3, .fz (.int t.length), .fz (wd t), .fz (wd r), x7, x8, .fz (tD z)], rfl, rfl, ?_, fun _ => by simp⟩
        simp [-Option.bind_some, -Option.bind_none, t1]
      rw [setO_ap, c1]
      rfl
    have s1 : ∀ z ∈ Q.filter fun z => !decide (z = (t, r)), z ∈ Q := fun z hz => (List.mem_filter.mp hz).1
    have s2 : ∀ z ∈ Q, z = (t, r) ∨ z ∈ Q.filter fun z => !decide (z = (t, r)) := fun z hz => by
      by_cases c : z = (t, r)
      · exact .inl c
      · exact .inr (List.mem_filter.mpr ⟨hz, by simp [c]⟩)
    have sl : (Q.filter fun z => !decide (z = (t, r))).length < Q.length := by
      have := List.length_filter_lt_length_iff_exists (p := fun z => !decide (z = (t, r))) (l := Q)
      exact this.mpr ⟨_, hm, by simp⟩
    generalize (Q.filter fun z => !decide (z = (t, r))) = Q' at *
    have t1 := eq_wd okr (⟨by simp, fun c hc => by simp at hc⟩ : okw [])
    have c1 : eT (e2 eqD (.b 6) (.g (eC (.str (Str.ofString ""))))) [.fz (.list (rows.map wd)), .ow false (.dk (bE E)), .ow false (.ls (Q'.map tD)), x3, .fz (.int t.length), .fz (wd t), .fz (wd r), x7, x8, .un] = .ok (decide (r = [])) [.fz (.list (rows.map wd)), .ow false (.dk (bE E)), .ow false (.ls (Q'.map tD)), x3, .fz (.int t.length), .fz (wd t), .fz (wd r), x7, x8, .un] := by
      simp only [eT_ap, e2_ap, opd_b, opd_g, eC_ap, Res.bind_ok, pk_ap, List.getElem?_cons_succ, List.getElem?_cons_zero, obind, pkf, fin_v, fin_d, ofO_some, em_wd, t1]
    unfold B__law_least_double_3
    by_cases c : r = []
    · refine .inr ⟨t, [.fz (.list (rows.map wd)), .ow false (.dk (bE E)), .ow false (.ls (Q'.map tD)), x3, .fz (.int t.length), .fz (wd t), .fz (wd r), x7, x8, .un], ?_, i.hit (c ▸ hm) hk⟩
      simp only [c, decide_true] at c1
      subst c
      simp only [seqS_ap, eP, eF, Res.bind_ok, ifS_ap, c1, if_true]
      rfl
    · simp only [c, decide_false] at c1
      have c2 : eT (dinE true 1 (eV 6)) [.fz (.list (rows.map wd)), .ow false (.dk (bE E)), .ow false (.ls (Q'.map tD)), x3, .fz (.int t.length), .fz (wd t), .fz (wd r), x7, x8, .un] = .ok (!decide (r ∈ E.map Prod.snd)) [.fz (.list (rows.map wd)), .ow false (.dk (bE E)), .ow false (.ls (Q'.map tD)), x3, .fz (.int t.length), .fz (wd t), .fz (wd r), x7, x8, .un] := by
        rw [← bE_has E r]
        have tk : toK (wd r) = some (.inr (S r)) := rfl
        simp [-Option.bind_some, -Option.bind_none, dinE, DL.obS, dGet, tk]
      by_cases k : r ∈ E.map Prod.snd
      · simp only [k, decide_true, Bool.not_true] at c2
        refine .inl ⟨Q', E, .fz (.int t.length), .fz (wd t), .fz (wd r), x7, .fz _, .fz _, .fz _, l7, ?_, i.skip hm s1 s2 k, fun z hz => b z (s1 z hz), by omega, by omega⟩
        simp only [seqS_ap, eP, eF, Res.bind_ok, ifS_ap, c1, Bool.false_eq_true, if_false, nxS_ap, c2]
      · simp only [k, decide_false, Bool.not_false] at c2
        have i2 := i.grow hm s1 s2 k c hk
        have b2 := b.grow (rows := rows) hm s1
        obtain ⟨lE2, _⟩ := b2.small h i2
        have lc := chiP_len rows t r
        have n5 := h.few
        have e4 : dputS 1 (eV 6) (eV 5) [.fz (.list (rows.map wd)), .ow false (.dk (bE E)), .ow false (.ls (Q'.map tD)), x3, .fz (.int t.length), .fz (wd t), .fz (wd r), x7, x8, .un] = .ok .nx [.fz (.list (rows.map wd)), .ow false (.dk (bE ((t, r) :: E))), .ow false (.ls (Q'.map tD)), x3, .fz (.int t.length), .fz (wd t), .fz (wd r), x7, x8, .un] := by
          have la : (bE E).length < 16777216 := by unfold bE; simp; omega
          have tk : toK (wd r) = some (.inr (S r)) := rfl
          have dp : dPut (.dk (bE E)) (wd r) (wd t) = some (.dk (bE ((t, r) :: E))) := by
            show ((toK (wd r)).bind fun k => if (bE E).length < 16777216 then some (Ob.dk (pt' (bE E) k (wd t))) else none) = _
            rw [tk, obind, if_pos la, bE_put k]
          simp [-Option.bind_some, -Option.bind_none, dputS, DL.obS, dp]
        obtain ⟨y7, h7, e5⟩ := lld_inner h (Q := Q') (E := E) (t := t) (r := r) (by omega) (by omega) okr lr (.dk (bE ((t, r) :: E))) x3 x7 x8 .un l7
        refine .inl ⟨Q' ++ chi rows t r, (t, r) :: E, .fz (.int t.length), .fz (wd t), .fz (wd r), y7, .fz _, .fz _, .fz _, h7, ?_, i2, b2, ?_, ?_⟩
        · simp only [seqS_ap, eP, eF, Res.bind_ok, ifS_ap, c1, Bool.false_eq_true, if_false, nxS_ap, c2, if_true, e4]
          exact e5
        · have : (chi rows t r).length ≤ rows.length := lc
          rw [List.length_append, List.length_cons]
          omega
        · have : (chi rows t r).length ≤ rows.length := lc
          rw [List.length_append]
          rw [List.length_cons] at lE2 ⊢
          omega
theorem law_least_double_run {rows : List Wd} (h : OkR rows) : ∃ o, Found rows o ∧ F__law_least_double [.fz (.list (rows.map wd))] = .ok (oD o) [.un] := by
  obtain ⟨x, lx, el⟩ := lld_loop h
  have w := while_st (c := C__law_least_double_3) (b := B__law_least_double_3) (fun (s : List (Wd × Wd) × List (Wd × Wd)) ρ => ∃ x3 x4 x5 x6 x7 x8 x9, Loose x4 ∧ Loose x5 ∧ Loose x6 ∧ Loose x7 ∧ ρ = [.fz (.list (rows.map wd)), .ow false (.dk (bE s.2)), .ow false (.ls (s.1.map tD)), x3, x4, x5, x6, x7, x8, x9] ∧ SI rows s.1 s.2 ∧ LB s.1 s.2 ∧ s.1.length ≤ 25 + 5 * s.2.length) (fun s => s.1.length + 6 * (66 - s.2.length))
    (fun ρ => Found rows none) (fun d => ∃ t, d = wd t ∧ Found rows (some t)) (fun s ρ hi => by
      obtain ⟨Q, E⟩ := s
      obtain ⟨x3, x4, x5, x6, x7, x8, x9, l4, l5, l6, l7, rfl, i, b, lq⟩ := hi
      have i : SI rows Q E := i
      have b : LB Q E := b
      have lq : Q.length ≤ 25 + 5 * E.length := lq
      obtain ⟨lE, lz⟩ := b.small h i
      have okQ : ∀ z ∈ Q, okw z.1 ∧ okw z.2 := fun z hz => by
        have q := rc_ok h (i.cq z hz)
        have q2 := lz z hz
        exact ⟨rc_okw h (i.cq z hz) (by omega), q.1⟩
      have nn := ne_nilT okQ
      have test : C__law_least_double_3 [.fz (.list (rows.map wd)), .ow false (.dk (bE E)), .ow false (.ls (Q.map tD)), x3, x4, x5, x6, x7, x8, x9] = .ok (!Q.isEmpty) [.fz (.list (rows.map wd)), .ow false (.dk (bE E)), .ow false (.ls (Q.map tD)), x3, x4, x5, x6, x7, x8, x9] := by
        unfold C__law_least_double_3
        simp [-Option.bind_some, -Option.bind_none, nn]
      by_cases c : Q = []
      · subst c
        exact .inl ⟨_, test, i.done⟩
      · have c2 : (!Q.isEmpty) = true := by simp [c]
        rw [c2] at test
        refine .inr ⟨_, test, ?_⟩
        rcases lld_turn h i b lq c x3 x4 x5 x6 x7 x8 x9 l4 l5 l6 l7 with ⟨Q', E', y4, y5, y6, y7, h4, h5, h6, h7, e, i', b', lq', m⟩ | ⟨t, ρ, e, f⟩
        · exact .inl ⟨(Q', E'), _, e, ⟨x3, y4, y5, y6, y7, x8, .un, h4, h5, h6, h7, rfl, i', b', lq'⟩, m⟩
        · exact .inr ⟨_, ρ, e, t, rfl, f⟩) 100000 (iniT rows rows, []) [.fz (.list (rows.map wd)), .ow false (.dk []), .ow false (.ls ((iniT rows rows).map tD)), x, .un, .un, .un, .un, .un, .un] ⟨x, .un, .un, .un, .un, .un, .un, .un, .un, .un, .un, rfl, SI.init rows, LB.init h, by have := iniT_len h rows h.few; simp; omega⟩ (by have := iniT_len h rows h.few; show (iniT rows rows).length + 6 * (66 - 0) < 100000; omega)
  have start : g__law_least_double [.fz (.list (rows.map wd)), .un, .un, .un, .un, .un, .un, .un, .un, .un] = (whileS C__law_least_double_3 B__law_least_double_3 100000 [.fz (.list (rows.map wd)), .ow false (.dk []), .ow false (.ls ((iniT rows rows).map tD)), x, .un, .un, .un, .un, .un, .un]).bind fun f r => match f with | .nx => rtS (eC .none) r | f => .ok f r := by
    unfold g__law_least_double
    have e1 : setO 1 newK [.fz (.list (rows.map wd)), .un, .un, .un, .un, .un, .un, .un, .un, .un] = .ok .nx [.fz (.list (rows.map wd)), .ow false (.dk []), .un, .un, .un, .un, .un, .un, .un, .un] := Eq.trans rfl rfl
    have e2 : setO 2 (eLst []) [.fz (.list (rows.map wd)), .ow false (.dk []), .un, .un, .un, .un, .un, .un, .un, .un] = .ok .nx [.fz (.list (rows.map wd)), .ow false (.dk []), .ow false (.ls []), .un, .un, .un, .un, .un, .un, .un] := by simp
    rw [seqS_ap, e1, Res.bind_ok]
    dsimp only
    rw [seqS_ap, e2, Res.bind_ok]
    dsimp only
    rw [seqS_ap, el, Res.bind_ok]
    dsimp only
    refine (seqS_ap _ _ _).trans ?_
    generalize whileS C__law_least_double_3 B__law_least_double_3 100000 _ = W
    cases W with
    | ok f r => cases f <;> rfl
    | er c r => rfl
    | no => rfl
  rcases w with ⟨ρ, ew, f⟩ | ⟨d, ρ, ew, t, rfl, f⟩
  · refine ⟨none, f, frun (ds := [.list (rows.map wd)]) ⟨ρ, ?_⟩⟩
    show g__law_least_double [.fz (.list (rows.map wd)), .un, .un, .un, .un, .un, .un, .un, .un, .un] = _
    rw [start, ew, Res.bind_ok]
    rfl
  · refine ⟨some t, f, frun (ds := [.list (rows.map wd)]) ⟨ρ, ?_⟩⟩
    show g__law_least_double [.fz (.list (rows.map wd)), .un, .un, .un, .un, .un, .un, .un, .un, .un] = _
    rw [start, ew, Res.bind_ok]
    rfl
end K65
end
section
set_option autoImplicit false
set_option maxRecDepth 100000
set_option Elab.async false
set_option linter.all false
namespace K65
open PySem DL L2 SX
/-! ### all the ways in which a row is put together, in order -/
def stp (rows : List Wd) (f : Wd → List (List Nat)) (t : Wd) (i : Nat) : List (List Nat) := match rows[i]? with
  | some w => if w <+: t then (f (t.drop w.length)).map (i :: ·) else []
  | none => []
def facN (rows : List Wd) : Nat → Wd → List (List Nat)
  | 0, t => if t = [] then [[]] else []
  | n + 1, t => (if t = [] then [[]] else []) ++ ((List.range rows.length).map (stp rows (facN rows n) t)).flatten
def fac (rows : List Wd) (t : Wd) : List (List Nat) := facN rows t.length t
theorem stp_congr {rows : List Wd} {f g : Wd → List (List Nat)} {t : Wd} (h : ∀ w ∈ rows, w <+: t → f (t.drop w.length) = g (t.drop w.length)) (i : Nat) : stp rows f t i = stp rows g t i := by
  unfold stp
  split
  · rename_i w e
    split
    · rename_i p
      rw [h w (List.mem_of_getElem? e) p]
    · rfl
  · rfl
theorem stp_nil {rows : List Wd} (ne : ∀ w ∈ rows, w ≠ []) (f : Wd → List (List Nat)) (i : Nat) : stp rows f [] i = [] := by
  unfold stp
  split
  · rename_i w e
    rw [if_neg]
    intro p
    exact ne w (List.mem_of_getElem? e) (List.prefix_nil.mp p)
  · rfl
theorem flat_nil {α β : Type} {f : α → List β} (h : ∀ a, f a = []) : ∀ l : List α, (l.map f).flatten = []
  | [] => rfl
  | a :: l => by rw [List.map_cons, List.flatten_cons, h a, flat_nil h l]; rfl
theorem facN_nil {rows : List Wd} (ne : ∀ w ∈ rows, w ≠ []) : ∀ n, facN rows n [] = [[]]
  | 0 => by unfold facN; rw [if_pos rfl]
  | n + 1 => by unfold facN; rw [if_pos rfl, flat_nil (stp_nil ne _)]; rfl
theorem facN_eq {rows : List Wd} (ne : ∀ w ∈ rows, w ≠ []) : ∀ (n m : Nat) (t : Wd), t.length ≤ n → t.length ≤ m → facN rows n t = facN rows m t
  | 0, m, t, h, _ => by
    have e : t = [] := List.length_eq_zero_iff.mp (by omega)
    rw [e, facN_nil ne, facN_nil ne]
  | n + 1, 0, t, _, h => by
    have e : t = [] := List.length_eq_zero_iff.mp (by omega)
    rw [e, facN_nil ne, facN_nil ne]
  | n + 1, m + 1, t, h, k => by
    unfold facN
    congr 2
    refine List.map_congr_left fun i _ => stp_congr (fun w hw p => ?_) i
    have l1 : 0 < w.length := List.length_pos_iff.mpr (ne w hw)
    have l2 := p.length_le
    exact facN_eq ne n m _ (by rw [List.length_drop]; omega) (by rw [List.length_drop]; omega)
theorem fac_eq {rows : List Wd} (ne : ∀ w ∈ rows, w ≠ []) (t : Wd) : fac rows t = (if t = [] then [[]] else []) ++ ((List.range rows.length).map (stp rows (fac rows) t)).flatten := by
  unfold fac
  rw [facN_eq ne t.length (t.length + 1) t (by omega) (by omega)]
  show (if t = [] then [[]] else []) ++ ((List.range rows.length).map (stp rows (facN rows t.length) t)).flatten = _
  congr 2
  refine List.map_congr_left fun i _ => stp_congr (fun w hw p => ?_) i
  exact facN_eq ne _ _ _ (by rw [List.length_drop]; omega) (by omega)
def wOf (rows : List Wd) (l : List Nat) : List Wd := l.map fun i => rows.getD i []
theorem mem_stp {rows : List Wd} {f : Wd → List (List Nat)} {t : Wd} {i : Nat} {l : List Nat} : l ∈ stp rows f t i ↔ ∃ w u, rows[i]? = some w ∧ w <+: t ∧ u ∈ f (t.drop w.length) ∧ l = i :: u := by
  unfold stp
  constructor
  · intro h
    split at h
    · rename_i w e
      split at h
      · rename_i p
        obtain ⟨u, hu, rfl⟩ := List.mem_map.mp h
        exact ⟨w, u, e, p, hu, rfl⟩
      · simp at h
    · simp at h
  · rintro ⟨w, u, e, p, hu, rfl⟩
    rw [e]
    dsimp only
    rw [if_pos p]
    exact List.mem_map.mpr ⟨u, hu, rfl⟩
theorem mem_facN {rows : List Wd} (ne : ∀ w ∈ rows, w ≠ []) : ∀ (n : Nat) (t : Wd) (l : List Nat), t.length ≤ n → (l ∈ facN rows n t ↔ (∀ i ∈ l, i < rows.length) ∧ (wOf rows l).flatten = t)
  | 0, t, l, h => by
    have e : t = [] := List.length_eq_zero_iff.mp (by omega)
    subst e
    unfold facN
    rw [if_pos rfl, List.mem_singleton]
    constructor
    · rintro rfl; simp [wOf]
    · rintro ⟨h1, h2⟩
      cases l with
      | nil => rfl
      | cons i l =>
        have hi := h1 i (by simp)
        simp only [wOf, List.map_cons, List.flatten_cons, List.append_eq_nil_iff] at h2
        have e2 : rows.getD i [] = rows[i] := by rw [List.getD_eq_getElem?_getD, List.getElem?_eq_getElem hi]; rfl
        rw [e2] at h2
        exact absurd h2.1 (ne _ (List.getElem_mem hi))
  | n + 1, t, l, h => by
    unfold facN
    rw [List.mem_append, List.mem_flatten]
    constructor
    · rintro (q | ⟨s, hs, q⟩)
      · split at q
        · rename_i e
          rw [List.mem_singleton.mp q, e]
          simp [wOf]
        · simp at q
      · obtain ⟨i, hi, rfl⟩ := List.mem_map.mp hs
        obtain ⟨w, u, e, p, hu, rfl⟩ := mem_stp.mp q
        have l1 : 0 < w.length := List.length_pos_iff.mpr (ne w (List.mem_of_getElem? e))
        obtain ⟨h1, h2⟩ := (mem_facN ne n (t.drop w.length) u (by rw [List.length_drop]; omega)).mp hu
        refine ⟨fun j hj => ?_, ?_⟩
        · rcases List.mem_cons.mp hj with rfl | hj
          · exact List.mem_range.mp hi
          · exact h1 j hj
        · have e2 : rows.getD i [] = w := by rw [List.getD_eq_getElem?_getD, e]; rfl
          show rows.getD i [] ++ (wOf rows u).flatten = t
          rw [e2, h2]
          obtain ⟨s, rfl⟩ := p
          rw [List.drop_left]
    · rintro ⟨h1, h2⟩
      cases l with
      | nil =>
        have e : t = [] := by rw [← h2]; simp [wOf]
        exact .inl (by rw [if_pos e]; simp)
      | cons i u =>
        have hi := h1 i (by simp)
        have e : rows[i]? = some rows[i] := List.getElem?_eq_getElem hi
        have e2 : rows.getD i [] = rows[i] := by rw [List.getD_eq_getElem?_getD, e]; rfl
        have h2 : rows.getD i [] ++ (wOf rows u).flatten = t := h2
        rw [e2] at h2
        have l1 : 0 < rows[i].length := List.length_pos_iff.mpr (ne _ (List.getElem_mem hi))
        refine .inr ⟨_, List.mem_map.mpr ⟨i, List.mem_range.mpr hi, rfl⟩, mem_stp.mpr ⟨rows[i], u, e, ⟨_, h2⟩, ?_, rfl⟩⟩
        refine (mem_facN ne n _ u (by rw [List.length_drop]; omega)).mpr ⟨fun j hj => h1 j (by simp [hj]), ?_⟩
        rw [← h2, List.drop_left]
theorem mem_fac {rows : List Wd} (ne : ∀ w ∈ rows, w ≠ []) {t : Wd} {l : List Nat} : l ∈ fac rows t ↔ (∀ i ∈ l, i < rows.length) ∧ (wOf rows l).flatten = t := mem_facN ne _ _ _ (Nat.le_refl _)
theorem pw_stp {rows : List Wd} {f : Wd → List (List Nat)} (hf : ∀ t, (f t).Pairwise (· < ·)) (t : Wd) : ((List.range rows.length).map (stp rows f t)).flatten.Pairwise (· < ·) := by
  rw [List.pairwise_flatten]
  constructor
  · intro s hs
    obtain ⟨i, _, rfl⟩ := List.mem_map.mp hs
    unfold stp
    split
    · split
      · rw [List.pairwise_map]
        exact (hf _).imp fun q => by rw [List.cons_lt_cons_iff]; exact .inr ⟨rfl, q⟩
      · exact .nil
    · exact .nil
  · rw [List.pairwise_map]
    exact List.pairwise_lt_range.imp fun {a b} q x hx y hy => by
      obtain ⟨_, u, _, _, _, rfl⟩ := mem_stp.mp hx
      obtain ⟨_, v, _, _, _, rfl⟩ := mem_stp.mp hy
      rw [List.cons_lt_cons_iff]
      exact .inl q
theorem pw_facN {rows : List Wd} (ne : ∀ w ∈ rows, w ≠ []) : ∀ (n : Nat) (t : Wd), (facN rows n t).Pairwise (· < ·)
  | 0, t => by unfold facN; split <;> simp
  | n + 1, t => by
    by_cases c : t = []
    · rw [c, facN_nil ne]; simp
    · unfold facN
      rw [if_neg c, List.nil_append]
      exact pw_stp (pw_facN ne n) t
theorem pw_fac {rows : List Wd} (ne : ∀ w ∈ rows, w ≠ []) (t : Wd) : (fac rows t).Pairwise (· < ·) := pw_facN ne _ t
theorem fac_len {rows : List Wd} (ne : ∀ w ∈ rows, w ≠ []) {t : Wd} {l : List Nat} (h : l ∈ fac rows t) : l.length ≤ t.length := by
  obtain ⟨h1, h2⟩ := (mem_fac ne).mp h
  rw [← h2]
  clear h h2
  induction l with
  | nil => simp
  | cons i l ih =>
    have hi := h1 i (by simp)
    have e2 : rows.getD i [] = rows[i] := by rw [List.getD_eq_getElem?_getD, List.getElem?_eq_getElem hi]; rfl
    have l1 : 0 < rows[i].length := List.length_pos_iff.mpr (ne _ (List.getElem_mem hi))
    have ih := ih fun j hj => h1 j (by simp [hj])
    show l.length + 1 ≤ (rows.getD i [] ++ (wOf rows l).flatten).length
    rw [e2, List.length_append]
    omega
/-! ### two ways -/
theorem wOf_inj {rows : List Wd} (nd : rows.Nodup) : ∀ {l m : List Nat}, (∀ i ∈ l, i < rows.length) → (∀ i ∈ m, i < rows.length) → wOf rows l = wOf rows m → l = m
  | [], [], _, _, _ => rfl
  | [], _ :: _, _, _, h => by cases h
  | _ :: _, [], _, _, h => by cases h
  | i :: l, j :: m, h1, h2, h => by
    obtain ⟨q1, q2⟩ := List.cons.inj (show rows.getD i [] :: wOf rows l = rows.getD j [] :: wOf rows m from h)
    have hi := h1 i (by simp)
    have hj := h2 j (by simp)
    have a1 : rows.getD i [] = rows[i] := by rw [List.getD_eq_getElem?_getD, List.getElem?_eq_getElem hi]; rfl
    have a2 : rows.getD j [] = rows[j] := by rw [List.getD_eq_getElem?_getD, List.getElem?_eq_getElem hj]; rfl
    rw [a1, a2] at q1
    have e := (List.getElem_inj nd).mp q1
    rw [e, wOf_inj nd (fun k hk => h1 k (by simp [hk])) (fun k hk => h2 k (by simp [hk])) q2]
theorem fac_two {rows : List Wd} (h : OkR rows) {t : Wd} : 2 ≤ (fac rows t).length ↔ Dbl rows t := by
  have pw := pw_fac h.ne t
  constructor
  · intro q
    match e : fac rows t with
    | [] => rw [e] at q; simp at q
    | [_] => rw [e] at q; simp at q
    | a :: b :: r =>
      obtain ⟨a1, a2⟩ := (mem_fac h.ne).mp (show a ∈ fac rows t by rw [e]; simp)
      obtain ⟨b1, b2⟩ := (mem_fac h.ne).mp (show b ∈ fac rows t by rw [e]; simp)
      rw [e] at pw
      have lt : a < b := (List.pairwise_cons.mp pw).1 b (by simp)
      have wds : ∀ l : List Nat, (∀ i ∈ l, i < rows.length) → Wds rows (wOf rows l) := fun l hl w hw => by
        obtain ⟨i, hi, rfl⟩ := List.mem_map.mp hw
        have hi := hl i hi
        have a1 : rows.getD i [] = rows[i] := by rw [List.getD_eq_getElem?_getD, List.getElem?_eq_getElem hi]; rfl
        rw [a1]; exact List.getElem_mem hi
      refine ⟨wOf rows a, wOf rows b, wds a a1, wds b b1, fun z => ?_, a2, b2⟩
      rw [wOf_inj h.nd a1 b1 z] at lt
      exact List.lt_irrefl _ lt
  · rintro ⟨u, v, hu, hv, ne, e1, e2⟩
    have ix : ∀ u : List Wd, Wds rows u → (∀ i ∈ u.map (fun w => rows.idxOf w), i < rows.length) ∧ wOf rows (u.map fun w => rows.idxOf w) = u := fun u hu => by
      induction u with
      | nil => exact ⟨fun i hi => by simp at hi, rfl⟩
      | cons w u ih =>
        obtain ⟨i1, i2⟩ := ih fun x hx => hu x (by simp [hx])
        have hw := List.idxOf_lt_length_iff.mpr (hu w (by simp))
        refine ⟨fun i hi => ?_, ?_⟩
        · rcases List.mem_cons.mp hi with rfl | hi
          · exact hw
          · exact i1 i hi
        · show rows.getD (rows.idxOf w) [] :: wOf rows (u.map fun w => rows.idxOf w) = _
          rw [i2]
          have a1 : rows.getD (rows.idxOf w) [] = rows[rows.idxOf w] := by rw [List.getD_eq_getElem?_getD, List.getElem?_eq_getElem hw]; rfl
          rw [a1, List.getElem_idxOf hw]
    obtain ⟨u1, u2⟩ := ix u hu
    obtain ⟨v1, v2⟩ := ix v hv
    have mu := (mem_fac h.ne (t := t)).mpr ⟨u1, by rw [u2]; exact e1⟩
    have mv := (mem_fac h.ne (t := t)).mpr ⟨v1, by rw [v2]; exact e2⟩
    have nuv : (u.map fun w => rows.idxOf w) ≠ v.map fun w => rows.idxOf w := fun z => ne (by rw [← u2, ← v2, z])
    match e : fac rows t with
    | [] => rw [e] at mu; simp at mu
    | [x] =>
      rw [e] at mu mv
      exact absurd ((List.mem_singleton.mp mu).trans (List.mem_singleton.mp mv).symm) nuv
    | a :: b :: r => simp
/-! ### cut to the first few -/
theorem take_app {α : Type} (k : Nat) (a b : List α) : (a ++ b).take k = (a.take k ++ b.take k).take k := by
  rw [List.take_append, List.take_append, List.take_take, List.take_take, List.length_take]
  congr 1
  · rw [Nat.min_self]
  · congr 1
    omega
theorem take_flat {α β : Type} (k : Nat) (f : α → List β) : ∀ l : List α, ((l.map f).flatten).take k = ((l.map fun a => (f a).take k).flatten).take k
  | [] => rfl
  | a :: l => by
    rw [List.map_cons, List.flatten_cons, List.map_cons, List.flatten_cons, take_app, take_flat k f l, take_app k ((f a).take k) ((l.map fun a => (f a).take k).flatten), List.take_take, Nat.min_self]
theorem sub_flat {α β : Type} {f g : α → List β} (h : ∀ a, (f a).Sublist (g a)) : ∀ l : List α, ((l.map f).flatten).Sublist ((l.map g).flatten)
  | [] => List.Sublist.refl _
  | a :: l => by
    rw [List.map_cons, List.flatten_cons, List.map_cons, List.flatten_cons]
    exact (h a).append (sub_flat h l)
/-- one row's part, cut -/
def stk (rows : List Wd) (k : Nat) (t : Wd) (i : Nat) : List (List Nat) := stp rows (fun s => (fac rows s).take k) t i
theorem stk_take (rows : List Wd) (k : Nat) (t : Wd) (i : Nat) : stk rows k t i = (stp rows (fac rows) t i).take k := by
  unfold stk stp
  split
  · split
    · rw [List.map_take]
    · simp
  · simp
theorem stk_len (rows : List Wd) (k : Nat) (t : Wd) (i : Nat) : (stk rows k t i).length ≤ k := by
  rw [stk_take, List.length_take]; omega
def fak (rows : List Wd) (k : Nat) (t : Wd) (n : Nat) : List (List Nat) := (if t = [] then [[]] else []) ++ ((List.range n).map (stk rows k t)).flatten
theorem fak_take {rows : List Wd} (ne : ∀ w ∈ rows, w ≠ []) (k : Nat) (hk : 1 ≤ k) (t : Wd) : (fak rows k t rows.length).take k = (fac rows t).take k := by
  rw [fac_eq ne t]
  unfold fak
  have e : (List.range rows.length).map (stk rows k t) = (List.range rows.length).map fun i => (stp rows (fac rows) t i).take k := List.map_congr_left fun i _ => stk_take rows k t i
  rw [e, take_app k _ ((List.map _ _).flatten), ← take_flat, ← take_app]
theorem fak_pw {rows : List Wd} (ne : ∀ w ∈ rows, w ≠ []) (k : Nat) (t : Wd) : (fak rows k t rows.length).Pairwise (· < ·) := by
  have : (fak rows k t rows.length).Sublist (fac rows t) := by
    rw [fac_eq ne t]
    unfold fak
    refine (List.Sublist.refl _).append ?_
    refine sub_flat (fun i => ?_) _
    rw [stk_take]
    exact List.take_sublist _ _
  exact (pw_fac ne t).sublist this
theorem fak_sub {rows : List Wd} (ne : ∀ w ∈ rows, w ≠ []) (k : Nat) (t : Wd) : ∀ l ∈ fak rows k t rows.length, l ∈ fac rows t := fun l hl => by
  rw [fac_eq ne t]
  unfold fak at hl
  rcases List.mem_append.mp hl with q | q
  · exact List.mem_append.mpr (.inl q)
  · refine List.mem_append.mpr (.inr ?_)
    obtain ⟨s, hs, q⟩ := List.mem_flatten.mp q
    obtain ⟨i, hi, rfl⟩ := List.mem_map.mp hs
    rw [stk_take] at q
    exact List.mem_flatten.mpr ⟨_, List.mem_map.mpr ⟨i, hi, rfl⟩, List.mem_of_mem_take q⟩
theorem fak_len (rows : List Wd) (k : Nat) (t : Wd) (n : Nat) : (fak rows k t n).length ≤ 1 + k * n := by
  have := flat_len (stk rows k t) k (stk_len rows k t) (List.range n)
  rw [List.length_range] at this
  unfold fak
  rw [List.length_append]
  split <;> simp only [List.length_singleton, List.length_nil] <;> omega
end K65
end
section
set_option autoImplicit false
set_option maxRecDepth 100000
set_option Elab.async false
set_option linter.all false
namespace K65
open PySem PySem.W DL L2 SX
/-! ### ways as data -/
def tupI (l : List Nat) : D := .tuple (l.map I)
def listT (L : List (List Nat)) : D := .list (L.map tupI)
theorem tupI_int (l : List Nat) : tupI l = .tuple ((l.map (fun n : Nat => (n : Int))).map PyData.int) := by
  unfold tupI
  rw [List.map_map]
  rfl
theorem cast_lt : ∀ (a b : List Nat), a.map (fun n : Nat => (n : Int)) < b.map (fun n : Nat => (n : Int)) ↔ a < b
  | [], [] => by simp
  | [], _ :: _ => by simp
  | _ :: _, [] => by simp
  | x :: a, y :: b => by
    rw [List.map_cons, List.map_cons, List.cons_lt_cons_iff, List.cons_lt_cons_iff, cast_lt a b]
    constructor
    · rintro (h | ⟨h, k⟩)
      · exact .inl (by omega)
      · exact .inr ⟨by omega, k⟩
    · rintro (h | ⟨h, k⟩)
      · exact .inl (by omega)
      · exact .inr ⟨by omega, k⟩
theorem lt_tupI (a b : List Nat) : dataLt (tupI a) (tupI b) = decide (a < b) := by
  rw [tupI_int, tupI_int, dataLt_tuple]
  have := dataLt_ints (a.map (fun n : Nat => (n : Int))) (b.map (fun n : Nat => (n : Int)))
  unfold rowLt at this
  rw [this]
  exact decide_eq_decide.mpr (cast_lt a b)
theorem alike_tupI (a b : List Nat) : alike (tupI a) (tupI b) = true := by
  rw [tupI_int, tupI_int]
  simpa [alike] using alike_ints (a.map (fun n : Nat => (n : Int))) (b.map (fun n : Nat => (n : Int)))
theorem ok_tupI (l : List Nat) : okN 1 (tupI l) := ok_tup fun d hd => by
  obtain ⟨i, _, rfl⟩ := List.mem_map.mp hd
  exact ok_I i
theorem ok_listT (L : List (List Nat)) : okN 2 (listT L) := ok_list fun d hd => by
  obtain ⟨i, _, rfl⟩ := List.mem_map.mp hd
  exact ok_tupI i
theorem enc_tupI : Enc tupI := enc_tup enc_I
theorem sort_tupI {L : List (List Nat)} (h : L.Pairwise (· < ·)) : sortL (L.map tupI) = L.map tupI := by
  unfold sortL
  refine List.mergeSort_of_pairwise ?_
  rw [List.pairwise_map]
  refine h.imp fun {a b} q => ?_
  show (!dataLt (tupI b) (tupI a)) = true
  rw [lt_tupI]
  have : ¬ b < a := fun k => List.lt_irrefl _ (List.lt_trans q k)
  simp [this]
theorem sortOk_tupI {L : List (List Nat)} (h : ∀ l ∈ L, l ≠ []) : sortOk (L.map tupI) = true := by
  unfold sortOk
  simp only [Bool.and_eq_true, Bool.or_eq_true, List.all_eq_true, decide_eq_true_eq, List.mem_map]
  refine ⟨⟨?_, ?_⟩, .inl ?_⟩
  · rintro _ ⟨a, _, rfl⟩ _ ⟨b, _, rfl⟩; exact alike_tupI a b
  · rintro _ ⟨a, _, rfl⟩; have := (ok_tupI a).2; omega
  · rintro _ ⟨a, ha, rfl⟩
    cases a with
    | nil => exact absurd rfl (h _ ha)
    | cons i a => rfl
theorem sortO_tupI {L : List (List Nat)} (h : L.Pairwise (· < ·)) (n : ∀ l ∈ L, l ≠ []) : sortO (.list (L.map tupI)) = some (.ls (L.map tupI)) := by
  show (if sortOk (L.map tupI) = true then some (Ob.ls (sortL (L.map tupI))) else none) = _
  rw [if_pos (sortOk_tupI n), sort_tupI h]
theorem cutL_to {α : Type} (xs : List α) (k : Nat) : cutL xs none (some (k : Int)) = xs.take k := by
  unfold cutL
  rw [HT.sIx_none, HT.sIx_nat, List.drop_zero, Nat.sub_zero]
  by_cases q : k ≤ xs.length
  · rw [Nat.min_eq_left q]
  · rw [Nat.min_eq_right (by omega), List.take_length, List.take_of_length_le (by omega)]
theorem slO_to (L : List (List Nat)) (k : Nat) : slO (.list (L.map tupI)) none (some (k : Int)) = some (.ls ((L.take k).map tupI)) := by
  show some (Ob.ls (cutL (L.map tupI) none (some (k : Int)))) = _
  rw [cutL_to, List.map_take]
/-- the ways from each of the places kn, k of them at most -/
def kD (k : Nat) (rows : List Wd) (t : Wd) (kn : List Nat) : List (Key × D) := kn.map fun s : Nat => ((Sum.inl (s : Int) : Key), listT ((fac rows (t.drop s)).take k))
theorem lk_kD {k : Nat} {rows : List Wd} {t : Wd} (s : Nat) : ∀ kn : List Nat, lk (kD k rows t kn) (.inl (s : Int)) = if s ∈ kn then some (listT ((fac rows (t.drop s)).take k)) else none
  | [] => rfl
  | a :: kn => by
    show (if (Sum.inl (a : Int) : Key) = .inl (s : Int) then some (listT ((fac rows (t.drop a)).take k)) else lk (kD k rows t kn) (.inl (s : Int))) = _
    rw [lk_kD s kn]
    by_cases c : a = s
    · subst c; simp
    · have c1 : ¬ ((Sum.inl (a : Int) : Key) = .inl (s : Int)) := fun z => c (by have := Sum.inl.inj z; omega)
      have c2 : ¬ s = a := fun z => c z.symm
      rw [if_neg c1]
      simp [c2]
theorem put_kD {k : Nat} {rows : List Wd} {t : Wd} {s : Nat} {kn : List Nat} (h : s ∉ kn) : pt' (kD k rows t kn) (.inl (s : Int)) (listT ((fac rows (t.drop s)).take k)) = kD k rows t (kn ++ [s]) := by
  unfold pt'
  rw [lk_kD, if_neg h]
  simp [kD]
theorem get_kD {k : Nat} {rows : List Wd} {t : Wd} {s : Nat} {kn : List Nat} (h : s ∈ kn) : dGet (.dk (kD k rows t kn)) (.int (s : Int)) = some (some (listT ((fac rows (t.drop s)).take k))) := by
  show some (lk (kD k rows t kn) (.inl (s : Int))) = _
  rw [lk_kD, if_pos h]
theorem dput_kD {k : Nat} {rows : List Wd} {t : Wd} {s : Nat} {kn : List Nat} (h : s ∉ kn) (l : kn.length < 16777216) : dPut (.dk (kD k rows t kn)) (.int (s : Int)) (listT ((fac rows (t.drop s)).take k)) = some (.dk (kD k rows t (kn ++ [s]))) := by
  show (if (kD k rows t kn).length < 16777216 then some (Ob.dk (pt' (kD k rows t kn) (.inl (s : Int)) (listT ((fac rows (t.drop s)).take k)))) else none) = _
  rw [if_pos (by simpa [kD] using l), put_kD h]
theorem add_tupI (i : Nat) (u : List Nat) (h : u.length ≤ 1000) : addD (.tuple [.int (i : Int)]) (tupI u) = some (tupI (i :: u)) := by
  show (if [PyData.int (i : Int)].length + (u.map I).length ≤ 16777216 then some (PyData.tuple ([PyData.int (i : Int)] ++ u.map I)) else none) = _
  rw [if_pos (by simp; omega)]
  rfl
theorem numD_wd : ∀ (l : List Wd) (k : Nat), numD k (l.map wd) = (l.zipIdx k).map fun p => PyData.tuple [I p.2, wd p.1]
  | [], _ => rfl
  | w :: l, k => by
    rw [List.zipIdx_cons, List.map_cons, List.map_cons]
    show PyData.tuple [.int (k : Nat), wd w] :: numD (k + 1) (l.map wd) = _
    rw [numD_wd l (k + 1)]
    rfl
theorem stk_of {rows : List Wd} {k : Nat} {s w : Wd} {i : Nat} (e : rows[i]? = some w) : stk rows k s i = if w <+: s then ((fac rows (s.drop w.length)).take k).map (i :: ·) else [] := by
  unfold stk stp
  rw [e]
end K65
end
section
set_option autoImplicit false
set_option maxRecDepth 100000
set_option Elab.async false
set_option linter.all false
namespace K65
open PySem DL L2 SX
def fakP (rows : List Wd) (k : Nat) (s : Wd) (d : List (Wd × Nat)) : List (List Nat) := (d.map fun p => stk rows k s p.2).flatten
theorem fakP_all (rows : List Wd) (k : Nat) (s : Wd) (h : s ≠ []) : fakP rows k s rows.zipIdx = fak rows k s rows.length := by
  unfold fakP fak
  rw [if_neg h, List.nil_append]
  have e : rows.zipIdx.map Prod.snd = List.range rows.length := by rw [List.zipIdx_map_snd, List.range_eq_range']
  rw [← e, List.map_map]
  rfl
theorem fakP_len (rows : List Wd) (k : Nat) (s : Wd) (d : List (Wd × Nat)) : (fakP rows k s d).length ≤ k * d.length := flat_len (fun p : Wd × Nat => stk rows k s p.2) k (fun p => stk_len rows k s p.2) d
/-- one place of the program's readings -/
theorem rd_inner {rows : List Wd} (h : OkR rows) {t : Wd} (ht : t.length ≤ 1000) {p : Nat} (hp : p < t.length) {kn : List Nat} (hk : ∀ s, p < s → s ≤ t.length → s ∈ kn) (x5 x6 : Sl) (l5 : Loose x5) (l6 : Loose x6) :
    ∃ y5 y6, Loose y5 ∧ Loose y6 ∧ forS (eEn (eV 0)) (tgT [(tgN 5), (tgN 6)]) B_readings_1 [.fz (.list (rows.map wd)), .fz (wd t), .ow false (.dk (kD 2 rows t kn)), .fz (I p), .ow false (.ls []), x5, x6, .un] = .ok .nx [.fz (.list (rows.map wd)), .fz (wd t), .ow false (.dk (kD 2 rows t kn)), .fz (I p), .ow false (.ls ((fak rows 2 (t.drop p) rows.length).map tupI)), y5, y6, .un] := by
  have n5 := h.few
  have ne : t.drop p ≠ [] := fun z => by have := congrArg List.length z; rw [List.length_drop] at this; simp at this; omega
  obtain ⟨ρ', e, y5, y6, h5, h6, rfl⟩ := loop_pre (t := tgT [(tgN 5), (tgN 6)]) (b := B_readings_1) (fun q : Wd × Nat => PyData.tuple [I q.2, wd q.1]) (fun d ρ => ∃ x5 x6, Loose x5 ∧ Loose x6 ∧ ρ = [.fz (.list (rows.map wd)), .fz (wd t), .ow false (.dk (kD 2 rows t kn)), .fz (I p), .ow false (.ls ((fakP rows 2 (t.drop p) d).map tupI)), x5, x6, .un]) rows.zipIdx [] [.fz (.list (rows.map wd)), .fz (wd t), .ow false (.dk (kD 2 rows t kn)), .fz (I p), .ow false (.ls []), x5, x6, .un] ⟨x5, x6, l5, l6, rfl⟩ fun d a rr ρ q i => by
    obtain ⟨x5, x6, l5, l6, rfl⟩ := i
    obtain ⟨w, i⟩ := a
    have q : rows.zipIdx = d ++ (w, i) :: rr := q
    have hm : (w, i) ∈ rows.zipIdx := by rw [q]; simp
    have hw := List.mk_mem_zipIdx_iff_getElem?.mp hm
    have mw : w ∈ rows := List.mem_of_getElem? hw
    have ow := h.ok mw
    have o1 := ow.1
    have ld : d.length ≤ 5 := by
      have := congrArg List.length q
      rw [List.length_zipIdx] at this
      simp at this
      omega
    have em : fakP rows 2 (t.drop p) (d ++ [(w, i)]) = fakP rows 2 (t.drop p) d ++ stk rows 2 (t.drop p) i := by unfold fakP; simp
    have lf := fakP_len rows 2 (t.drop p) d
    have lk := stk_len rows 2 (t.drop p) i
    have t1 := sw3_S t w p (.inr (h.ne w mw))
    have t2 := len_wd w (by omega)
    have q1 : (tgT [(tgN 5), (tgN 6)]).f (PyData.tuple [I i, wd w]) [.fz (.list (rows.map wd)), .fz (wd t), .ow false (.dk (kD 2 rows t kn)), .fz (I p), .ow false (.ls ((fakP rows 2 (t.drop p) d).map tupI)), x5, x6, .un] = some [.fz (.list (rows.map wd)), .fz (wd t), .ow false (.dk (kD 2 rows t kn)), .fz (I p), .ow false (.ls ((fakP rows 2 (t.drop p) d).map tupI)), .fz (I i), .fz (wd w), .un] := by
      show (sto _ 5 _).bind (fun r1 => (sto r1 6 _).bind fun r1 => some r1) = _
      rw [sto_loose (x := x5) (Eq.trans rfl rfl) l5, obind, sto_loose (x := x6) (Eq.trans rfl rfl) l6]
      rfl
    rw [em]
    generalize fakP rows 2 (t.drop p) d = C at *
    have ew : wd t = .str (S t) := rfl
    have c1 : e1 truD (.g (eM2 sw3D (eV 1) (.b 6) (.b 3))) [.fz (.list (rows.map wd)), .fz (wd t), .ow false (.dk (kD 2 rows t kn)), .fz (I p), .ow false (.ls (C.map tupI)), .fz (I i), .fz (wd w), .un] = .ok (decide (w <+: t.drop p)) [.fz (.list (rows.map wd)), .fz (wd t), .ow false (.dk (kD 2 rows t kn)), .fz (I p), .ow false (.ls (C.map tupI)), .fz (I i), .fz (wd w), .un] := by
      have t1 : sw3D (S t) (wd w) (I p) = _ := t1
      simp [-Option.bind_some, -Option.bind_none, eM2, ew, t1, truD]
    unfold B_readings_1
    by_cases c : w <+: t.drop p
    · have lc := c.length_le
      rw [List.length_drop] at lc
      have es := stk_of (k := 2) (s := t.drop p) hw
      rw [if_pos c, List.drop_drop] at es
      refine ⟨_, [.fz (.list (rows.map wd)), .fz (wd t), .ow false (.dk (kD 2 rows t kn)), .fz (I p), .ow false (.ls ((C ++ stk rows 2 (t.drop p) i).map tupI)), .fz (I i), .fz (wd w), .un], q1, ?_, .fz (I i), .fz (wd w), .fz _, .fz _, rfl⟩
      simp only [c, decide_true] at c1
      have l1 : 0 < w.length := List.length_pos_iff.mpr (h.ne w mw)
      have g1 := get_kD (k := 2) (rows := rows) (t := t) (hk (p + w.length) (by omega) (by omega))
      have g2 : dgetE 2 (e2 addD (.b 3) (.g (e1 lenD (.b 6)))) [.fz (.list (rows.map wd)), .fz (wd t), .ow false (.dk (kD 2 rows t kn)), .fz (I p), .ow false (.ls (C.map tupI)), .fz (I i), .fz (wd w), .un] = .ok (listT ((fac rows (t.drop (p + w.length))).take 2)) [.fz (.list (rows.map wd)), .fz (wd t), .ow false (.dk (kD 2 rows t kn)), .fz (I p), .ow false (.ls (C.map tupI)), .fz (I i), .fz (wd w), .un] := by
        rw [Int.natCast_add] at g1
        simp [-Option.bind_some, -Option.bind_none, dgetE, DL.obS, t2, I, g1]
      have c2 : lcE (eIt (dgetE 2 (e2 addD (.b 3) (.g (e1 lenD (.b 6)))))) (tgN 7) yesT (e2 addD (.g (eTup [(eV 5)])) (.b 7)) [7] [.fz (.list (rows.map wd)), .fz (wd t), .ow false (.dk (kD 2 rows t kn)), .fz (I p), .ow false (.ls (C.map tupI)), .fz (I i), .fz (wd w), .un] = .ok (.ls (((fac rows (t.drop (p + w.length))).take 2).map fun u => tupI (i :: u))) [.fz (.list (rows.map wd)), .fz (wd t), .ow false (.dk (kD 2 rows t kn)), .fz (I p), .ow false (.ls (C.map tupI)), .fz (I i), .fz (wd w), .un] := by
        refine lcE_map tupI (fun u => tupI (i :: u)) ((fac rows (t.drop (p + w.length))).take 2) (ρ1 := [.fz (.list (rows.map wd)), .fz (wd t), .ow false (.dk (kD 2 rows t kn)), .fz (I p), .ow false (.ls (C.map tupI)), .fz (I i), .fz (wd w), .un]) (by rw [eIt_ap, g2]; rfl) rfl (by rw [List.length_take]; omega) fun u hu => ?_
        have lu := fac_len h.ne (List.mem_of_mem_take hu)
        rw [List.length_drop] at lu
        have t3 := add_tupI i u (by omega)
        refine ⟨[.fz (.list (rows.map wd)), .fz (wd t), .ow false (.dk (kD 2 rows t kn)), .fz (I p), .ow false (.ls (C.map tupI)), .fz (I i), .fz (wd w), .fz (tupI u)], rfl, rfl, ?_⟩
        have t3 : addD (.tuple [I i]) (tupI u) = _ := t3
        simp [-Option.bind_some, -Option.bind_none, t3]
      have e3 := mutS_run (f := extF) (i := 4) (g := eFz (lcE (eIt (dgetE 2 (e2 addD (.b 3) (.g (e1 lenD (.b 6)))))) (tgN 7) yesT (e2 addD (.g (eTup [(eV 5)])) (.b 7)) [7])) (ρ := [.fz (.list (rows.map wd)), .fz (wd t), .ow false (.dk (kD 2 rows t kn)), .fz (I p), .ow false (.ls (C.map tupI)), .fz (I i), .fz (wd w), .un]) (r := [.fz (.list (rows.map wd)), .fz (wd t), .ow false (.dk (kD 2 rows t kn)), .fz (I p), .ow false (.ls (C.map tupI)), .fz (I i), .fz (wd w), .un]) (b := false) (xs := C.map tupI) (ys := (C ++ stk rows 2 (t.drop p) i).map tupI) (d := .list (((fac rows (t.drop (p + w.length))).take 2).map fun u => tupI (i :: u))) rfl (by rw [eFz_ap, c2]; rfl) (b' := false) (xs' := C.map tupI) rfl (by
        have lz : C.length + ((fac rows (t.drop (p + w.length))).take 2).length ≤ 16777216 := by rw [List.length_take]; omega
        rw [es, List.map_append, List.map_map]
        simp only [extF, List.length_map, lz, if_true]
        rfl)
      simp only [ifS_ap, c1, Res.bind_ok, if_true]
      rw [e3]
      rfl
    · simp only [c, decide_false] at c1
      have es := stk_of (k := 2) (s := t.drop p) hw
      rw [if_neg c] at es
      refine ⟨_, [.fz (.list (rows.map wd)), .fz (wd t), .ow false (.dk (kD 2 rows t kn)), .fz (I p), .ow false (.ls ((C ++ stk rows 2 (t.drop p) i).map tupI)), .fz (I i), .fz (wd w), .un], q1, ?_, .fz (I i), .fz (wd w), .fz _, .fz _, rfl⟩
      rw [es, List.append_nil]
      simp only [ifS_ap, c1, Res.bind_ok, Bool.false_eq_true, if_false, nxS_ap]
  refine ⟨y5, y6, h5, h6, ?_⟩
  have i1 : eEn (eV 0) [.fz (.list (rows.map wd)), .fz (wd t), .ow false (.dk (kD 2 rows t kn)), .fz (I p), .ow false (.ls []), x5, x6, .un] = .ok (rows.zipIdx.map fun q : Wd × Nat => PyData.tuple [I q.2, wd q.1]) [.fz (.list (rows.map wd)), .fz (wd t), .ow false (.dk (kD 2 rows t kn)), .fz (I p), .ow false (.ls []), x5, x6, .un] := by
    have := numD_wd rows 0
    simp [-Option.bind_some, -Option.bind_none, enD, this]
  rw [forS_ap, i1, Res.bind_ok]
  have e : _ = Res.ok Fl.nx [.fz (.list (rows.map wd)), .fz (wd t), .ow false (.dk (kD 2 rows t kn)), .fz (I p), .ow false (.ls ((fakP rows 2 (t.drop p) rows.zipIdx).map tupI)), y5, y6, .un] := e
  rw [fakP_all rows 2 _ ne] at e
  exact e

theorem rev_after {n : Nat} {d r : List Nat} {p : Nat} (h : (List.range n).reverse = d ++ p :: r) : p < n ∧ p ∉ d ∧ ∀ s, p < s → s < n → s ∈ d := by
  have hp : p ∈ (List.range n).reverse := by rw [h]; simp
  have pw : (d ++ p :: r).Pairwise (· > ·) := by
    rw [← h, List.pairwise_reverse]
    exact List.pairwise_lt_range
  obtain ⟨_, p2, p3⟩ := List.pairwise_append.mp pw
  refine ⟨List.mem_range.mp (List.mem_reverse.mp hp), fun z => ?_, fun s h1 h2 => ?_⟩
  · have := p3 p z p (by simp)
    omega
  · have hs : s ∈ (List.range n).reverse := List.mem_reverse.mpr (List.mem_range.mpr h2)
    rw [h] at hs
    rcases List.mem_append.mp hs with q | q
    · exact q
    · rcases List.mem_cons.mp q with q | q
      · omega
      · have := (List.pairwise_cons.mp p2).1 s q
        omega
theorem fac_self {rows : List Wd} (ne : ∀ w ∈ rows, w ≠ []) (k : Nat) (hk : 1 ≤ k) (t : Wd) : kD k rows t [t.length] = [((Sum.inl (t.length : Int) : Key), PyData.list [.tuple []])] := by
  unfold kD
  have e1 : t.drop t.length = [] := List.drop_length
  have e2 : fac rows [] = [[]] := facN_nil ne _
  rw [List.map_cons, List.map_nil, e1, e2, List.take_of_length_le (by simpa using hk)]
  rfl
theorem rr1_n (n : Nat) (h : n < 4611686018427387904) : rr1D (.int (n : Int)) = some ((List.range n).reverse.map I) := by
  have e : (2 ^ 62 : Int) = 4611686018427387904 := by decide
  have c : -(2 ^ 62) ≤ (n : Int) ∧ (n : Int) < 2 ^ 62 := by
    rw [e]
    constructor <;> omega
  have z : rr1D (.int (n : Int)) = if -(2 ^ 62) ≤ (n : Int) ∧ (n : Int) < 2 ^ 62 then some ((List.range (n : Int).toNat).reverse.map fun i : Nat => PyData.int (i : Nat)) else none := rfl
  rw [z, if_pos c, Int.toNat_natCast]
  rfl
theorem readings_run {rows : List Wd} (h : OkR rows) {t : Wd} (ht : t.length ≤ 1000) : F_readings [.fz (.list (rows.map wd)), .fz (wd t)] = .ok (listT ((fac rows t).take 2)) [.un, .un] := by
  have n5 := h.few
  have tl := len_wd t (by omega)
  obtain ⟨ρ', e, x3, x4, x5, x6, l3, l4, l5, l6, rfl⟩ := loop_pre (t := tgN 3) (b := B_readings_2) I (fun d ρ => ∃ x3 x4 x5 x6, Loose x3 ∧ Loose x4 ∧ Loose x5 ∧ Loose x6 ∧ ρ = [.fz (.list (rows.map wd)), .fz (wd t), .ow false (.dk (kD 2 rows t (t.length :: d))), x3, x4, x5, x6, .un]) (List.range t.length).reverse [] [.fz (.list (rows.map wd)), .fz (wd t), .ow false (.dk (kD 2 rows t [t.length])), .un, .un, .un, .un, .un] ⟨.un, .un, .un, .un, .un, .un, .un, .un, rfl⟩ fun d p rr ρ q i => by
    obtain ⟨x3, x4, x5, x6, l3, l4, l5, l6, rfl⟩ := i
    have q : (List.range t.length).reverse = d ++ p :: rr := q
    obtain ⟨p1, p2, p3⟩ := rev_after q
    have ld : d.length ≤ t.length := by
      have := congrArg List.length q
      rw [List.length_reverse, List.length_range, List.length_append] at this
      omega
    have hk : ∀ s, p < s → s ≤ t.length → s ∈ t.length :: d := fun s a b => by
      by_cases c : s = t.length
      · rw [c]; simp
      · exact List.mem_cons_of_mem _ (p3 s a (by omega))
    have nk : p ∉ t.length :: d := fun z => by
      rcases List.mem_cons.mp z with z | z
      · omega
      · exact p2 z
    have ne : t.drop p ≠ [] := fun z => by have := congrArg List.length z; rw [List.length_drop] at this; simp at this; omega
    obtain ⟨y5, y6, h5, h6, ei⟩ := rd_inner h ht p1 hk x5 x6 l5 l6
    have fp := fak_pw h.ne 2 (t.drop p)
    have fn : ∀ l ∈ fak rows 2 (t.drop p) rows.length, l ≠ [] := fun l hl z => by
      have := ((mem_fac h.ne).mp (fak_sub h.ne 2 _ l hl)).2
      rw [z] at this
      exact ne this.symm
    have so := sortO_tupI fp fn
    have ft := fak_take h.ne 2 (by omega) (t.drop p)
    have sl := slO_to (fak rows 2 (t.drop p) rows.length) 2
    rw [ft] at sl
    have sl : slO (.list ((fak rows 2 (t.drop p) rows.length).map tupI)) none (some (2 : Int)) = _ := sl
    have pu := dput_kD (k := 2) (rows := rows) (t := t) (s := p) (kn := t.length :: d) nk (by simp; omega)
    have s3 : sto [.fz (.list (rows.map wd)), .fz (wd t), .ow false (.dk (kD 2 rows t (t.length :: d))), x3, x4, x5, x6, .un] 3 (.fz (I p)) = some [.fz (.list (rows.map wd)), .fz (wd t), .ow false (.dk (kD 2 rows t (t.length :: d))), .fz (I p), x4, x5, x6, .un] := by
      rw [sto_loose (x := x3) (Eq.trans rfl rfl) l3]; rfl
    have s4 : setO 4 (eLst []) [.fz (.list (rows.map wd)), .fz (wd t), .ow false (.dk (kD 2 rows t (t.length :: d))), .fz (I p), x4, x5, x6, .un] = .ok .nx [.fz (.list (rows.map wd)), .fz (wd t), .ow false (.dk (kD 2 rows t (t.length :: d))), .fz (I p), .ow false (.ls []), x5, x6, .un] := by
      rw [setO_ap]
      simp only [eLst_ap, eL_nil, Res.bind_ok, List.length_nil, Nat.zero_le, if_true]
      rw [sto_loose (x := x4) (Eq.trans rfl rfl) l4]
      rfl
    refine ⟨_, [.fz (.list (rows.map wd)), .fz (wd t), .ow false (.dk (kD 2 rows t (t.length :: (d ++ [p])))), .fz (I p), .ow false (.ls ((fak rows 2 (t.drop p) rows.length).map tupI)), y5, y6, .un], s3, ?_, .fz (I p), .ow false (.ls ((fak rows 2 (t.drop p) rows.length).map tupI)), y5, y6, .fz _, .ow _, h5, h6, rfl⟩
    unfold B_readings_2
    rw [seqS_ap, s4, Res.bind_ok]
    dsimp only
    rw [seqS_ap, ei, Res.bind_ok]
    dsimp only
    generalize fak rows 2 (t.drop p) rows.length = F at *
    have ev : eFz (eSl slO (.g (eFz (e1 sortO (.b 4)))) none (some (eC (.int 2)))) [.fz (.list (rows.map wd)), .fz (wd t), .ow false (.dk (kD 2 rows t (t.length :: d))), .fz (I p), .ow false (.ls (F.map tupI)), y5, y6, .un] = .ok (listT ((fac rows (t.drop p)).take 2)) [.fz (.list (rows.map wd)), .fz (wd t), .ow false (.dk (kD 2 rows t (t.length :: d))), .fz (I p), .ow false (.ls (F.map tupI)), y5, y6, .un] := by
      simp [-Option.bind_some, -Option.bind_none, eSl, optE, so, sl, listT]
    rw [List.cons_append] at pu
    have pu : dPut (.dk (kD 2 rows t (t.length :: d))) (I p) (listT ((fac rows (t.drop p)).take 2)) = _ := pu
    simp [-Option.bind_some, -Option.bind_none, -eFz_ap, dputS, DL.obS, ev, pu]
  refine frun (ds := [.list (rows.map wd), wd t]) ⟨[.fz (.list (rows.map wd)), .fz (wd t), .ow false (.dk (kD 2 rows t (t.length :: (List.range t.length).reverse))), x3, x4, x5, x6, .un], ?_⟩
  show g_readings [.fz (.list (rows.map wd)), .fz (wd t), .un, .un, .un, .un, .un, .un] = _
  unfold g_readings
  have ed : setO 2 (eDict1K (e1 lenD (.b 1)) (eFz (eLst [(eTup [])]))) [.fz (.list (rows.map wd)), .fz (wd t), .un, .un, .un, .un, .un, .un] = .ok .nx [.fz (.list (rows.map wd)), .fz (wd t), .ow false (.dk (kD 2 rows t [t.length])), .un, .un, .un, .un, .un] := by
    rw [fac_self h.ne 2 (by omega)]
    have mk : mkDk (.int (t.length : Int)) (.list [.tuple []]) = some (.dk [(.inl (t.length : Int), .list [.tuple []])]) := rfl
    simp [-Option.bind_some, -Option.bind_none, eDict1K, tl, mk]
  have i1 : eRr (e1 lenD (.b 1)) [.fz (.list (rows.map wd)), .fz (wd t), .ow false (.dk (kD 2 rows t [t.length])), .un, .un, .un, .un, .un] = .ok ((List.range t.length).reverse.map I) [.fz (.list (rows.map wd)), .fz (wd t), .ow false (.dk (kD 2 rows t [t.length])), .un, .un, .un, .un, .un] := by
    have r1 := rr1_n t.length (by omega)
    simp [-Option.bind_some, -Option.bind_none, eRr, tl, r1]
  rw [seqS_ap, ed, Res.bind_ok]
  dsimp only
  rw [seqS_ap, forS_ap, i1, Res.bind_ok]
  have e : loopS (tgN 3) B_readings_2 ((List.range t.length).reverse.map I) [.fz (.list (rows.map wd)), .fz (wd t), .ow false (.dk (kD 2 rows t [t.length])), .un, .un, .un, .un, .un] = .ok .nx [.fz (.list (rows.map wd)), .fz (wd t), .ow false (.dk (kD 2 rows t (t.length :: (List.range t.length).reverse))), x3, x4, x5, x6, .un] := e
  rw [e, Res.bind_ok]
  dsimp only
  have g1 := get_kD (k := 2) (rows := rows) (t := t) (s := 0) (kn := t.length :: (List.range t.length).reverse) (by
    by_cases c : t.length = 0
    · rw [c]; simp
    · exact List.mem_cons_of_mem _ (List.mem_reverse.mpr (List.mem_range.mpr (by omega))))
  rw [List.drop_zero] at g1
  have g1 : dGet (.dk (kD 2 rows t (t.length :: (List.range t.length).reverse))) (.int 0) = _ := g1
  simp [-Option.bind_some, -Option.bind_none, dgetE, DL.obS, g1]
end K65
end
section
set_option autoImplicit false
set_option maxRecDepth 100000
set_option Elab.async false
set_option linter.all false
namespace K65
open PySem DL L2 SX
theorem call3S {F : Rho → Res D} {i : Nat} {b : Bool} {o o' : Ob} {ga gb gc : Ev D} {a e c d : D} {ρ : Rho} (h : ρ[i]? = some (.ow b o)) (ha : ga ρ = .ok a ρ) (hb : gb ρ = .ok e ρ) (hc : gc ρ = .ok c ρ) (hf : F [.fz a, .fz e, .fz c, .ow true o] = .ok d [.un, .un, .un, .ow true o']) : callE F [.g ga, .g gb, .g gc, .s i] ρ = .ok d (ρ.set i (.ow b o')) := by
  have ea : argsE [.g ga, .g gb, .g gc, .s i] ρ = .ok [.d a, .d e, .d c, .s i] ρ := by simp only [args_cons_ap, argE_s i ρ h, argE_g, ha, hb, hc, Res.bind_ok, args_nil_ap]
  have em : mk [.d a, .d e, .d c, .s i] ρ = some [.fz a, .fz e, .fz c, .ow true o] := by
    have := mk_s (avs := []) (as := []) h rfl
    show (((mk [.s i] ρ).map (Sl.fz c :: ·)).map (Sl.fz e :: ·)).map (Sl.fz a :: ·) = _
    rw [this]
    rfl
  rw [callE_ap, ea, Res.bind_ok, callR_ok (as := [.fz a, .fz e, .fz c, .ow true o]) (by simp [-Option.bind_some, -Option.bind_none, slots]) em hf]
  show Res.ok d (put [.s i] [.ow true o'] ρ) = _
  rw [put_s (avs := []) h rfl]
theorem kn_len {t : Wd} {kn : List Nat} (ht : t.length ≤ 1000) (nd : kn.Nodup) (b : ∀ x ∈ kn, x ≤ t.length) : kn.length < 16777216 := by
  have := nodup_sub_len nd fun x hx => List.mem_range.mpr (show x < t.length + 1 by have := b x hx; omega)
  rw [List.length_range] at this
  omega
def fakR (rows : List Wd) (k : Nat) (s : Wd) (d : List Nat) : List (List Nat) := (if s = [] then [[]] else []) ++ (d.map (stk rows k s)).flatten
theorem sortE_fak {rows : List Wd} (h : OkR rows) (s : Wd) : sortE (.list ((fak rows 3 s rows.length).map tupI)) = some (.ls ((fak rows 3 s rows.length).map tupI)) := by
  by_cases c : s = []
  · have : fak rows 3 s rows.length = [[]] := by
      unfold fak
      rw [c, if_pos rfl]
      have : (List.range rows.length).map (stk rows 3 []) = (List.range rows.length).map fun _ => [] := List.map_congr_left fun i _ => stp_nil h.ne _ i
      rw [this, flat_nil fun _ => rfl]
      rfl
    rw [this]
    have ok : sortOk [tupI []] = false := by simp [sortOk, tupI, PySem.W.alike, PySem.W.alikeAll]
    have o1 : one1 [tupI []] = true := by simp [one1, tupI, PySem.W.alike, PySem.W.alikeAll, PyData.depth, PyData.depthAll]
    show (if sortOk [tupI []] = true then some (Ob.ls (sortL [tupI []])) else if one1 [tupI []] = true then some (.ls [tupI []]) else none) = _
    rw [ok, if_neg Bool.false_ne_true, if_pos o1]
    rfl
  · refine sortE_of (sortO_tupI (fak_pw h.ne 3 s) fun l hl z => ?_)
    have := ((mem_fac h.ne).mp (fak_sub h.ne 3 _ l hl)).2
    rw [z] at this
    exact c this.symm
theorem ways_run {rows : List Wd} (h : OkR rows) {t : Wd} (okt : okw t) : ∀ (k s : Nat) (kn : List Nat), s ≤ t.length → t.length - s < k → kn.Nodup → (∀ x ∈ kn, x ≤ t.length) → ∃ kn', kn'.Nodup ∧ (∀ x ∈ kn', x ≤ t.length) ∧ (∀ x ∈ kn', x ∈ kn ∨ s ≤ x) ∧
    F__law_ways k [.fz (.list (rows.map wd)), .fz (wd t), .fz (I s), .ow true (.dk (kD 3 rows t kn))] = .ok (listT ((fac rows (t.drop s)).take 3)) [.un, .un, .un, .ow true (.dk (kD 3 rows t kn'))] := by
  have ht := okt.1
  have n5 := h.few
  have tl := len_wd t (by omega)
  intro k
  induction k with
  | zero => intro s kn _ q; omega
  | succ k ih =>
    intro s kn hs hk nd bd
    have t0 : eT (dinE true 3 (eV 2)) [.fz (.list (rows.map wd)), .fz (wd t), .fz (I s), .ow true (.dk (kD 3 rows t kn)), .un, .un, .un] = .ok (!decide (s ∈ kn)) [.fz (.list (rows.map wd)), .fz (wd t), .fz (I s), .ow true (.dk (kD 3 rows t kn)), .un, .un, .un] := by
      have g0 : dGet (.dk (kD 3 rows t kn)) (I s) = some (lk (kD 3 rows t kn) (.inl (s : Int))) := rfl
      by_cases c : s ∈ kn
      · have l0 := lk_kD (k := 3) (rows := rows) (t := t) s kn
        rw [if_pos c] at l0
        rw [l0] at g0
        simp [-Option.bind_some, -Option.bind_none, dinE, DL.obS, g0, c]
      · have l0 := lk_kD (k := 3) (rows := rows) (t := t) s kn
        rw [if_neg c] at l0
        rw [l0] at g0
        simp [-Option.bind_some, -Option.bind_none, dinE, DL.obS, g0, c]
    by_cases c : s ∈ kn
    · refine ⟨kn, nd, bd, fun x hx => .inl hx, ?_⟩
      have g1 := get_kD (k := 3) (rows := rows) (t := t) c
      have g1 : dGet (.dk (kD 3 rows t kn)) (I s) = _ := g1
      simp only [c, decide_true, Bool.not_true] at t0
      show bodyF 7 (g__law_ways (F__law_ways k)) _ = _
      refine bodyF_rt (r := [.fz (.list (rows.map wd)), .fz (wd t), .fz (I s), .ow true (.dk (kD 3 rows t kn)), .un, .un, .un]) rfl ?_ rfl
      show g__law_ways (F__law_ways k) [.fz (.list (rows.map wd)), .fz (wd t), .fz (I s), .ow true (.dk (kD 3 rows t kn)), .un, .un, .un] = _
      unfold g__law_ways
      rw [seqS_ap, ifS_ap, t0]
      simp [-Option.bind_some, -Option.bind_none, dgetE, DL.obS, g1]
    · simp only [c, decide_false, Bool.not_false] at t0
      have s1 : setS 4 (eIf (eT (e2 eqD (.b 2) (.g (e1 lenD (.b 1))))) (eFz (eLst [(eTup [])])) (eFz (eLst []))) [.fz (.list (rows.map wd)), .fz (wd t), .fz (I s), .ow true (.dk (kD 3 rows t kn)), .un, .un, .un] = .ok .nx [.fz (.list (rows.map wd)), .fz (wd t), .fz (I s), .ow true (.dk (kD 3 rows t kn)), .fz (.list ((fakR rows 3 (t.drop s) []).map tupI)), .un, .un] := by
        unfold fakR
        by_cases z : s = t.length
        · have e0 : t.drop s = [] := by rw [z]; exact List.drop_length
          rw [e0, if_pos rfl]
          have qe : eqD (I s) (.int (t.length : Int)) = some (.bool true) := by
            show eqD (.int (s : Int)) (.int (t.length : Int)) = _
            rw [eq_int, z]
            simp
          simp [-Option.bind_some, -Option.bind_none, tl, qe, tupI]
        · have e0 : t.drop s ≠ [] := fun w => by have := congrArg List.length w; rw [List.length_drop] at this; simp at this; omega
          rw [if_neg e0]
          have qe : eqD (I s) (.int (t.length : Int)) = some (.bool false) := by
            show eqD (.int (s : Int)) (.int (t.length : Int)) = _
            rw [eq_int]
            have : ¬ ((s : Int) = (t.length : Int)) := by omega
            simp [this]
          simp [-Option.bind_some, -Option.bind_none, tl, qe]
      obtain ⟨ρ', e, kn', x4, x5, nd', bd', gr', h4, h5, rfl⟩ := loop_pre (t := tgN 5) (b := B__law_ways_1 (F__law_ways k)) I (fun d ρ => ∃ kn' x4 x5, kn'.Nodup ∧ (∀ x ∈ kn', x ≤ t.length) ∧ (∀ x ∈ kn', x ∈ kn ∨ s < x) ∧ (x4 = .fz (.list ((fakR rows 3 (t.drop s) d).map tupI)) ∨ x4 = .ow false (.ls ((fakR rows 3 (t.drop s) d).map tupI))) ∧ Loose x5 ∧ ρ = [.fz (.list (rows.map wd)), .fz (wd t), .fz (I s), .ow true (.dk (kD 3 rows t kn')), x4, x5, .un]) (List.range rows.length) [] [.fz (.list (rows.map wd)), .fz (wd t), .fz (I s), .ow true (.dk (kD 3 rows t kn)), .fz (.list ((fakR rows 3 (t.drop s) []).map tupI)), .un, .un] ⟨kn, _, .un, nd, bd, fun x hx => .inl hx, .inl rfl, .un, rfl⟩ fun d i rr ρ q j => by
        obtain ⟨kn', x4, x5, nd', bd', gr', h4, h5, rfl⟩ := j
        have q : List.range rows.length = d ++ i :: rr := q
        have hi : i < rows.length := by
          have : i ∈ List.range rows.length := by rw [q]; simp
          exact List.mem_range.mp this
        have ld : d.length ≤ 5 := by
          have := congrArg List.length q
          rw [List.length_range] at this
          simp at this
          omega
        have ew : rows[i]? = some rows[i] := List.getElem?_eq_getElem hi
        have mw : rows[i] ∈ rows := List.getElem_mem hi
        generalize rows[i] = w at ew mw
        have ow := h.ok mw
        have o1 := ow.1
        have l1 : 0 < w.length := List.length_pos_iff.mpr (h.ne w mw)
        have t2 := len_wd w (by omega)
        have ex : ixD (.list (rows.map wd)) (I i) = some (wd w) := by
          show ixD (.list (rows.map wd)) (.int (i : Int)) = _
          rw [DL.ix_list, atI_n, List.getElem?_map, ew]
          rfl
        have em : fakR rows 3 (t.drop s) (d ++ [i]) = fakR rows 3 (t.drop s) d ++ stk rows 3 (t.drop s) i := by unfold fakR; simp
        have es := stk_of (k := 3) (s := t.drop s) ew
        rw [List.drop_drop] at es
        have lf : (fakR rows 3 (t.drop s) d).length ≤ 1 + 3 * d.length := by
          have := flat_len (stk rows 3 (t.drop s)) 3 (stk_len rows 3 (t.drop s)) d
          unfold fakR
          rw [List.length_append]
          split <;> simp only [List.length_singleton, List.length_nil] <;> omega
        have sm := sl_mid t s (s + w.length) (by omega) hs
        rw [Nat.add_sub_cancel_left] at sm
        have sm : slD (wd t) (some (s : Int)) (some ((s : Int) + (w.length : Int))) = some (wd ((t.drop s).take w.length)) := by rw [← sm, Int.natCast_add]
        have qe := eq_wd ((okt.drop s).take w.length) ow
        rw [pre_take] at qe
        rw [em]
        generalize fakR rows 3 (t.drop s) d = C at *
        have q1 : (tgN 5).f (I i) [.fz (.list (rows.map wd)), .fz (wd t), .fz (I s), .ow true (.dk (kD 3 rows t kn')), x4, x5, .un] = some [.fz (.list (rows.map wd)), .fz (wd t), .fz (I s), .ow true (.dk (kD 3 rows t kn')), x4, .fz (I i), .un] := by
          show sto _ 5 _ = _
          rw [sto_loose (x := x5) (Eq.trans rfl rfl) h5]
          rfl
        have c1 : eT (e2 eqD (.g (eSl slD (.b 1) (some (eV 2)) (some (e2 addD (.b 2) (.g (e1 lenD (.g (e2 ixD (.b 0) (.b 5))))))))) (.g (e2 ixD (.b 0) (.b 5)))) [.fz (.list (rows.map wd)), .fz (wd t), .fz (I s), .ow true (.dk (kD 3 rows t kn')), x4, .fz (I i), .un] = .ok (decide (w <+: t.drop s)) [.fz (.list (rows.map wd)), .fz (wd t), .fz (I s), .ow true (.dk (kD 3 rows t kn')), x4, .fz (I i), .un] := by
          have ex : ixD (.list (rows.map wd)) (.int (i : Int)) = some (wd w) := ex
          simp [-Option.bind_some, -Option.bind_none, -DL.ix_list, eSl, optE, I, ex, t2, sm, qe]
        unfold B__law_ways_1
        by_cases p : w <+: t.drop s
        · simp only [p, decide_true] at c1
          have lp := p.length_le
          rw [List.length_drop] at lp
          rw [if_pos p] at es
          obtain ⟨kn2, nd2, bd2, gr2, er⟩ := ih (s + w.length) kn' (by omega) (by omega) nd' bd'
          have er : F__law_ways k [.fz (.list (rows.map wd)), .fz (wd t), .fz (.int ((s : Int) + (w.length : Int))), .ow true (.dk (kD 3 rows t kn'))] = .ok (listT ((fac rows (t.drop (s + w.length))).take 3)) [.un, .un, .un, .ow true (.dk (kD 3 rows t kn2))] := by
            have := er
            unfold I at this
            rw [Int.natCast_add] at this
            exact this
          have g1 : e2 addD (.b 2) (.g (e1 lenD (.g (e2 ixD (.b 0) (.b 5))))) [.fz (.list (rows.map wd)), .fz (wd t), .fz (I s), .ow true (.dk (kD 3 rows t kn')), x4, .fz (I i), .un] = .ok (.int ((s : Int) + (w.length : Int))) [.fz (.list (rows.map wd)), .fz (wd t), .fz (I s), .ow true (.dk (kD 3 rows t kn')), x4, .fz (I i), .un] := by
            have ex : ixD (.list (rows.map wd)) (.int (i : Int)) = some (wd w) := ex
            simp [-Option.bind_some, -Option.bind_none, -DL.ix_list, I, ex, t2]
          have cl := call3S (F := F__law_ways k) (i := 3) (b := true) (ga := eV 0) (gb := eV 1) (ρ := [.fz (.list (rows.map wd)), .fz (wd t), .fz (I s), .ow true (.dk (kD 3 rows t kn')), x4, .fz (I i), .un]) rfl rfl rfl g1 er
          have c2 : lcE (eIt (callE (F__law_ways k) [.g (eV 0), .g (eV 1), .g (e2 addD (.b 2) (.g (e1 lenD (.g (e2 ixD (.b 0) (.b 5)))))), .s 3])) (tgN 6) yesT (e2 addD (.g (eTup [(eV 5)])) (.b 6)) [6] [.fz (.list (rows.map wd)), .fz (wd t), .fz (I s), .ow true (.dk (kD 3 rows t kn')), x4, .fz (I i), .un] = .ok (.ls (((fac rows (t.drop (s + w.length))).take 3).map fun u => tupI (i :: u))) [.fz (.list (rows.map wd)), .fz (wd t), .fz (I s), .ow true (.dk (kD 3 rows t kn2)), x4, .fz (I i), .un] := by
            refine lcE_map tupI (fun u => tupI (i :: u)) ((fac rows (t.drop (s + w.length))).take 3) (ρ1 := [.fz (.list (rows.map wd)), .fz (wd t), .fz (I s), .ow true (.dk (kD 3 rows t kn2)), x4, .fz (I i), .un]) (by rw [eIt_ap, cl]; rfl) rfl (by rw [List.length_take]; omega) fun u hu => ?_
            have lu := fac_len h.ne (List.mem_of_mem_take hu)
            rw [List.length_drop] at lu
            have t3 := add_tupI i u (by omega)
            refine ⟨[.fz (.list (rows.map wd)), .fz (wd t), .fz (I s), .ow true (.dk (kD 3 rows t kn2)), x4, .fz (I i), .fz (tupI u)], rfl, rfl, ?_⟩
            have t3 : addD (.tuple [I i]) (tupI u) = _ := t3
            simp [-Option.bind_some, -Option.bind_none, t3]
          have lz : C.length + ((fac rows (t.drop (s + w.length))).take 3).length ≤ 16777216 := by rw [List.length_take]; omega
          have s4 : setO 4 (e2 catO (.b 4) (.g (eFz (lcE (eIt (callE (F__law_ways k) [.g (eV 0), .g (eV 1), .g (e2 addD (.b 2) (.g (e1 lenD (.g (e2 ixD (.b 0) (.b 5)))))), .s 3])) (tgN 6) yesT (e2 addD (.g (eTup [(eV 5)])) (.b 6)) [6])))) [.fz (.list (rows.map wd)), .fz (wd t), .fz (I s), .ow true (.dk (kD 3 rows t kn')), x4, .fz (I i), .un] = .ok .nx [.fz (.list (rows.map wd)), .fz (wd t), .fz (I s), .ow true (.dk (kD 3 rows t kn2)), .ow false (.ls ((C ++ stk rows 3 (t.drop s) i).map tupI)), .fz (I i), .un] := by
            rw [es, List.map_append, List.map_map, show (tupI ∘ fun x => i :: x) = (fun u => tupI (i :: u)) from rfl]
            have ec : catO (.list (C.map tupI)) (.list (((fac rows (t.drop (s + w.length))).take 3).map fun u => tupI (i :: u))) = some (.ls (C.map tupI ++ ((fac rows (t.drop (s + w.length))).take 3).map fun u => tupI (i :: u))) := by
              simp only [catO, List.length_map, lz, if_true]
            generalize ((fac rows (t.drop (s + w.length))).take 3).map (fun u => tupI (i :: u)) = G at *
            rcases h4 with rfl | rfl
            · simp [-lcE_ap, -Option.bind_some, -Option.bind_none, c2, ec]
            · simp [-lcE_ap, -Option.bind_some, -Option.bind_none, c2, ec]
          refine ⟨_, [.fz (.list (rows.map wd)), .fz (wd t), .fz (I s), .ow true (.dk (kD 3 rows t kn2)), .ow false (.ls ((C ++ stk rows 3 (t.drop s) i).map tupI)), .fz (I i), .un], q1, ?_, kn2, _, .fz (I i), nd2, bd2, fun x hx => ?_, .inr rfl, .fz _, rfl⟩
          · rw [ifS_ap, c1, Res.bind_ok, if_pos rfl, s4]
          · rcases gr2 x hx with z | z
            · exact gr' x z
            · exact .inr (by omega)
        · simp only [p, decide_false] at c1
          rw [if_neg p] at es
          refine ⟨_, [.fz (.list (rows.map wd)), .fz (wd t), .fz (I s), .ow true (.dk (kD 3 rows t kn')), x4, .fz (I i), .un], q1, ?_, kn', x4, .fz (I i), nd', bd', gr', by rw [es, List.append_nil]; exact h4, .fz _, rfl⟩
          rw [ifS_ap, c1, Res.bind_ok, if_neg Bool.false_ne_true, nxS_ap]
      have h4 : x4 = .fz (.list ((fak rows 3 (t.drop s) rows.length).map tupI)) ∨ x4 = .ow false (.ls ((fak rows 3 (t.drop s) rows.length).map tupI)) := h4
      have so := sortE_fak h (t.drop s)
      have ft := fak_take h.ne 3 (by omega) (t.drop s)
      have sl := slO_to (fak rows 3 (t.drop s) rows.length) 3
      rw [ft] at sl
      have sl : slO (.list ((fak rows 3 (t.drop s) rows.length).map tupI)) none (some (3 : Int)) = _ := sl
      have nk : s ∉ kn' := fun z => by
        rcases gr' s z with q | q
        · exact c q
        · omega
      have pu := dput_kD (k := 3) (rows := rows) (t := t) (s := s) (kn := kn') nk (kn_len ht nd' bd')
      have pu : dPut (.dk (kD 3 rows t kn')) (I s) (listT ((fac rows (t.drop s)).take 3)) = _ := pu
      have g1 := get_kD (k := 3) (rows := rows) (t := t) (s := s) (kn := kn' ++ [s]) (by simp)
      have g1 : dGet (.dk (kD 3 rows t (kn' ++ [s]))) (I s) = _ := g1
      generalize fak rows 3 (t.drop s) rows.length = F at *
      have ev : eFz (eSl slO (.g (eFz (e1 sortE (.b 4)))) none (some (eC (.int 3)))) [.fz (.list (rows.map wd)), .fz (wd t), .fz (I s), .ow true (.dk (kD 3 rows t kn')), x4, x5, .un] = .ok (listT ((fac rows (t.drop s)).take 3)) [.fz (.list (rows.map wd)), .fz (wd t), .fz (I s), .ow true (.dk (kD 3 rows t kn')), x4, x5, .un] := by
        rcases h4 with rfl | rfl <;> simp [-Option.bind_some, -Option.bind_none, eSl, optE, so, sl, listT]
      refine ⟨kn' ++ [s], ?_, fun x hx => ?_, fun x hx => ?_, ?_⟩
      · rw [List.nodup_append]
        refine ⟨nd', by simp, fun a ha b hb z => ?_⟩
        rw [List.mem_singleton.mp hb] at z
        exact nk (z ▸ ha)
      · rcases List.mem_append.mp hx with q | q
        · exact bd' x q
        · rw [List.mem_singleton.mp q]; exact hs
      · rcases List.mem_append.mp hx with q | q
        · rcases gr' x q with q | q
          · exact .inl q
          · exact .inr (by omega)
        · exact .inr (by rw [List.mem_singleton.mp q]; omega)
      · show bodyF 7 (g__law_ways (F__law_ways k)) _ = _
        refine bodyF_rt (r := [.fz (.list (rows.map wd)), .fz (wd t), .fz (I s), .ow true (.dk (kD 3 rows t (kn' ++ [s]))), x4, x5, .un]) rfl ?_ rfl
        show g__law_ways (F__law_ways k) [.fz (.list (rows.map wd)), .fz (wd t), .fz (I s), .ow true (.dk (kD 3 rows t kn)), .un, .un, .un] = _
        unfold g__law_ways
        have rn : lenD (.list (rows.map wd)) = some (.int (rows.length : Int)) := by rw [len_list, List.length_map]
        have i1 : e1 rg1D (.g (e1 lenD (.b 0))) [.fz (.list (rows.map wd)), .fz (wd t), .fz (I s), .ow true (.dk (kD 3 rows t kn)), .fz (.list ((fakR rows 3 (t.drop s) []).map tupI)), .un, .un] = .ok ((List.range rows.length).map I) [.fz (.list (rows.map wd)), .fz (wd t), .fz (I s), .ow true (.dk (kD 3 rows t kn)), .fz (.list ((fakR rows 3 (t.drop s) []).map tupI)), .un, .un] := by
          have r1 := rg1_n rows.length (by omega)
          simp [-Option.bind_some, -Option.bind_none, -len_list, rn, r1]
        have ds : dputS 3 (eV 2) (eFz (eSl slO (.g (eFz (e1 sortE (.b 4)))) none (some (eC (.int 3))))) [.fz (.list (rows.map wd)), .fz (wd t), .fz (I s), .ow true (.dk (kD 3 rows t kn')), x4, x5, .un] = .ok .nx [.fz (.list (rows.map wd)), .fz (wd t), .fz (I s), .ow true (.dk (kD 3 rows t (kn' ++ [s]))), x4, x5, .un] := by
          simp [-Option.bind_some, -Option.bind_none, -eFz_ap, dputS, DL.obS, ev, pu]
        have lp : forS (e1 rg1D (.g (e1 lenD (.b 0)))) (tgN 5) (B__law_ways_1 (F__law_ways k)) [.fz (.list (rows.map wd)), .fz (wd t), .fz (I s), .ow true (.dk (kD 3 rows t kn)), .fz (.list ((fakR rows 3 (t.drop s) []).map tupI)), .un, .un] = .ok .nx [.fz (.list (rows.map wd)), .fz (wd t), .fz (I s), .ow true (.dk (kD 3 rows t kn')), x4, x5, .un] := by
          rw [forS_ap, i1, Res.bind_ok]
          exact e
        rw [seqS_ap, ifS_ap, t0, Res.bind_ok, if_pos rfl, seqS_ap, s1, Res.bind_ok]
        dsimp only
        rw [seqS_ap, lp, Res.bind_ok]
        dsimp only
        rw [ds, Res.bind_ok]
        dsimp only
        simp [-Option.bind_some, -Option.bind_none, dgetE, DL.obS, g1]
end K65
end
section
set_option autoImplicit false
set_option maxRecDepth 100000
set_option Elab.async false
set_option linter.all false
namespace K65
open PySem PySem.W DL L2 SX
theorem ways0_run {rows : List Wd} (h : OkR rows) {t : Wd} (okt : okw t) (ht : t.length ≤ 227) : ∃ out, F__law_ways 228 [.fz (.list (rows.map wd)), .fz (wd t), .fz (.int 0), .ow true (.dk [])] = .ok (listT ((fac rows t).take 3)) out := by
  obtain ⟨kn, _, _, _, e⟩ := ways_run h okt 228 0 [] (Nat.zero_le _) (by omega) .nil (fun x hx => by simp at hx)
  rw [List.drop_zero] at e
  exact ⟨_, e⟩
theorem waysE {rows : List Wd} (h : OkR rows) {t : Wd} (okt : okw t) (ht : t.length ≤ 227) {ga gb : Ev D} {ρ : Rho} (ha : ga ρ = .ok (.list (rows.map wd)) ρ) (hb : gb ρ = .ok (wd t) ρ) : callEO (F__law_ways 228) [.g ga, .g gb, .g (eC (.int 0))] newK ρ = .ok (listT ((fac rows t).take 3)) ρ := by
  obtain ⟨out, e⟩ := ways0_run h okt ht
  have ea : argsO [.g ga, .g gb, .g (eC (.int 0))] newK ρ = .ok ([.d (.list (rows.map wd)), .d (wd t), .d (.int 0)], .dk []) ρ := by
    unfold argsO
    simp only [args_cons_ap, argE_g, ha, hb, eC_ap, Res.bind_ok, args_nil_ap]
    rfl
  unfold callEO
  rw [ea, Res.bind_ok]
  unfold callRO
  have em : mk [.d (.list (rows.map wd)), .d (wd t), .d (.int 0)] ρ = some [.fz (.list (rows.map wd)), .fz (wd t), .fz (.int 0)] := rfl
  rw [if_pos .nil, em]
  dsimp only
  rw [show ([Sl.fz (.list (rows.map wd)), Sl.fz (wd t), Sl.fz (.int 0)] ++ [Sl.ow true (.dk [])]) = [Sl.fz (.list (rows.map wd)), Sl.fz (wd t), Sl.fz (.int 0), Sl.ow true (.dk [])] from rfl, e]
  dsimp only
  rw [put_d _ _ _ rfl]
/-! ### longer rows -/
theorem it_wd (w : Wd) : iterD (wd w) = some (w.map fun c => wd [c]) := by
  show some ((w.toArray.toList.map fun c => PyData.str ⟨#[c]⟩)) = _
  rfl
def lng (l : List Wd) (cs : Wd) : List Wd := (l.map fun w => cs.map fun c => w ++ [c]).flatten
theorem longer_run {l : List Wd} {cs : Wd} (hl : l.length ≤ 100000) (hc : cs.length ≤ 4) (hw : ∀ w ∈ l, w.length ≤ 100) : F__law_longer [.fz (.list (l.map wd)), .fz (wd cs)] = .ok (.list ((lng l cs).map wd)) [.un, .un] := by
  obtain ⟨ρ', e, b, x, hb, lx, rfl⟩ := loop_pre (t := tgN 3) (b := B__law_longer_1) wd (fun d ρ => ∃ b x, b = .ow false (.ls ((lng d cs).map wd)) ∧ Loose x ∧ ρ = [.fz (.list (l.map wd)), .fz (wd cs), b, x, .un]) l [] [.fz (.list (l.map wd)), .fz (wd cs), .ow false (.ls []), .un, .un] ⟨_, .un, rfl, .un, rfl⟩ fun d w rr ρ q i => by
    obtain ⟨b, x, rfl, lx, rfl⟩ := i
    have q : l = d ++ w :: rr := q
    have mw : w ∈ l := by rw [q]; simp
    have lw := hw w mw
    have ld : d.length ≤ 100000 := by rw [q] at hl; simp at hl; omega
    have lf : (lng d cs).length ≤ 4 * d.length := flat_len _ 4 (fun w => by rw [List.length_map]; exact hc) d
    have em : lng (d ++ [w]) cs = lng d cs ++ cs.map fun c => w ++ [c] := by unfold lng; simp
    rw [em]
    generalize lng d cs = C at *
    have c1 : ∀ y, lcE (eIt (eV 1)) (tgN 4) yesT (e2 addD (.b 3) (.b 4)) [4] [.fz (.list (l.map wd)), .fz (wd cs), y, .fz (wd w), .un] = .ok (.ls (cs.map fun c => wd (w ++ [c]))) [.fz (.list (l.map wd)), .fz (wd cs), y, .fz (wd w), .un] := fun y => by
      refine lcE_map (fun c => wd [c]) (fun c => wd (w ++ [c])) cs (ρ1 := [.fz (.list (l.map wd)), .fz (wd cs), y, .fz (wd w), .un]) (by simp [-Option.bind_some, -Option.bind_none, it_wd]) rfl (by omega) fun c _ => ?_
      have t1 := add_wd w [c] (by simp; omega)
      exact ⟨[.fz (.list (l.map wd)), .fz (wd cs), y, .fz (wd w), .fz (wd [c])], rfl, rfl, by simp [-Option.bind_some, -Option.bind_none, t1]⟩
    have lz : C.length + cs.length ≤ 16777216 := by omega
    refine ⟨[.fz (.list (l.map wd)), .fz (wd cs), .ow false (.ls (C.map wd)), .fz (wd w), .un], [.fz (.list (l.map wd)), .fz (wd cs), .ow false (.ls ((C ++ cs.map fun c => w ++ [c]).map wd)), .fz (wd w), .un], ?_, ?_, _, .fz (wd w), rfl, .fz _, rfl⟩
    · show sto _ 3 _ = _
      rw [sto_loose (x := x) (Eq.trans rfl rfl) lx]
      rfl
    · unfold B__law_longer_1
      simp [-lcE_ap, -Option.bind_some, -Option.bind_none, c1, catO, lz]
  refine frun (ds := [.list (l.map wd), wd cs]) ⟨[.fz (.list (l.map wd)), .fz (wd cs), .fz (.list ((lng l cs).map wd)), x, .un], ?_⟩
  show g__law_longer [.fz (.list (l.map wd)), .fz (wd cs), .un, .un, .un] = _
  unfold g__law_longer
  subst hb
  have i1 : eIt (eV 0) [.fz (.list (l.map wd)), .fz (wd cs), .ow false (.ls []), .un, .un] = .ok (l.map wd) [.fz (.list (l.map wd)), .fz (wd cs), .ow false (.ls []), .un, .un] := by simp
  have f1 : forS (eIt (eV 0)) (tgN 3) B__law_longer_1 [.fz (.list (l.map wd)), .fz (wd cs), .ow false (.ls []), .un, .un] = .ok .nx [.fz (.list (l.map wd)), .fz (wd cs), .ow false (.ls ((lng l cs).map wd)), x, .un] := by
    rw [forS_ap, i1, Res.bind_ok]; exact e
  simp [-forS_ap, -Option.bind_some, -Option.bind_none, f1]
/-! ### no lesser row -/
def klt (a b : Wd) : Prop := a.length < b.length ∨ (a.length = b.length ∧ a < b)
instance (a b : Wd) : Decidable (klt a b) := inferInstanceAs (Decidable (_ ∨ _))
def kD2 (a : Wd) : D := .tuple [.int (a.length : Int), wd a]
theorem lt_k (a b : Wd) : ltDD (kD2 a) (kD2 b) = some (.bool (decide (klt a b))) := by
  have ok : ltOk (kD2 a) (kD2 b) = true := by simp [ltOk, kD2, alike, alikeAll, wd, PyData.depth, PyData.depthAll]
  unfold ltDD
  rw [if_pos ok]
  unfold kD2
  rw [dataLt_pair (by simp [alike]) (by simp [alike, wd]), dataLt_int]
  have q1 : ∀ x y : Wd, PyData.eqv (wd x) (wd y) = decide (x = y) := enc_wd
  have q2 : ∀ x y : Wd, dataLt (wd x) (wd y) = decide (x < y) := fun x y => dataLt_str _ _
  rw [q1, q2]
  simp only [PyData.eqv, beq_iff_eq]
  unfold klt
  by_cases h1 : a.length = b.length
  · by_cases h2 : a = b
    · have n1 : ¬ b < b := List.lt_irrefl _
      simp [h2, n1]
    · simp [h1, h2]
  · have h1' : ((a.length : Int) = (b.length : Int)) ↔ False := ⟨fun z => h1 (by omega), False.elim⟩
    simp [h1, h1']
theorem klt_kle {a b : Wd} (h : klt a b) (k : kle b a) : False := by
  rcases h with h | ⟨h1, h2⟩
  · rcases k with k | ⟨k1, _⟩ <;> omega
  · rcases k with k | ⟨k1, k2⟩
    · omega
    · exact List.not_lt.mpr k2 h2
theorem few_less {rows : List Wd} (h : OkR rows) {t w : Wd} (f : Found rows (some t)) (k : klt w t) : ((fac rows w).take 3).length ≤ 1 := by
  have : ¬ 2 ≤ (fac rows w).length := fun q => by
    obtain ⟨u, v, hu, hv, ne, q1, q2⟩ := (fac_two h).mp q
    obtain ⟨t', r1, r2⟩ := dbl_rc h.ne u v hu hv ne (q1.trans q2.symm)
    rw [q1] at r2
    exact klt_kle k (kle_trans (f.2 t' r1) r2)
  rw [List.length_take]
  omega

theorem nl_inner {rows : List Wd} (h : OkR rows) {t : Wd} (okt : okw t) (f : Found rows (some t)) {l : List Wd} (hl : ∀ w ∈ l, okw w ∧ w.length ≤ 7) (sg : D) (x3 x4 x5 : Sl) (h3 : x3 = .fz (.list (l.map wd)) ∨ x3 = .ow false (.ls (l.map wd))) (l5 : Loose x5) :
    ∃ y5, Loose y5 ∧ forS (eIt (eV 3)) (tgN 5) B__law_no_lesser_1 [.fz (.list (rows.map wd)), .fz (wd t), .fz sg, x3, x4, x5] = .ok .nx [.fz (.list (rows.map wd)), .fz (wd t), .fz sg, .fz (.list (l.map wd)), x4, y5] := by
  have ht := okt.1
  obtain ⟨ρ', e, y5, h5, rfl⟩ := loop_pre (t := tgN 5) (b := B__law_no_lesser_1) wd (fun d ρ => ∃ x5, Loose x5 ∧ ρ = [.fz (.list (rows.map wd)), .fz (wd t), .fz sg, .fz (.list (l.map wd)), x4, x5]) l [] [.fz (.list (rows.map wd)), .fz (wd t), .fz sg, .fz (.list (l.map wd)), x4, x5] ⟨x5, l5, rfl⟩ fun d w rr ρ q i => by
    obtain ⟨x5, l5, rfl⟩ := i
    have q : l = d ++ w :: rr := q
    have mw : w ∈ l := by rw [q]; simp
    obtain ⟨ow, lw⟩ := hl w mw
    have t1 := len_wd t (by omega)
    have t2 := len_wd w (by omega)
    have t3 := lt_k w t
    refine ⟨[.fz (.list (rows.map wd)), .fz (wd t), .fz sg, .fz (.list (l.map wd)), x4, .fz (wd w)], [.fz (.list (rows.map wd)), .fz (wd t), .fz sg, .fz (.list (l.map wd)), x4, .fz (wd w)], ?_, ?_, .fz (wd w), .fz _, rfl⟩
    · show sto _ 5 _ = _
      rw [sto_loose (x := x5) (Eq.trans rfl rfl) l5]
      rfl
    · have cl := waysE h ow (by omega) (ga := eV 0) (gb := eV 5) (ρ := [.fz (.list (rows.map wd)), .fz (wd t), .fz sg, .fz (.list (l.map wd)), x4, .fz (wd w)]) rfl rfl
      have c1 : eT (e2 ltDD (.g (eTup [(e1 lenD (.b 5)), (eV 5)])) (.g (eTup [(e1 lenD (.b 1)), (eV 1)]))) [.fz (.list (rows.map wd)), .fz (wd t), .fz sg, .fz (.list (l.map wd)), x4, .fz (wd w)] = .ok (decide (klt w t)) [.fz (.list (rows.map wd)), .fz (wd t), .fz sg, .fz (.list (l.map wd)), x4, .fz (wd w)] := by
        unfold kD2 at t3
        simp [-Option.bind_some, -Option.bind_none, t1, t2, t3]
      unfold B__law_no_lesser_1
      by_cases c : klt w t
      · simp only [c, decide_true] at c1
        have fl := few_less h f c
        have c2 : eT (e2 (cmpI gtI) (.g (e1 lenD (.g (callEO (F__law_ways 228) [.g (eV 0), .g (eV 5), .g (eC (.int 0))] newK)))) (.g (eC (.int 1)))) [.fz (.list (rows.map wd)), .fz (wd t), .fz sg, .fz (.list (l.map wd)), x4, .fz (wd w)] = .ok false [.fz (.list (rows.map wd)), .fz (wd t), .fz sg, .fz (.list (l.map wd)), x4, .fz (wd w)] := by
          have lf : lenD (listT ((fac rows w).take 3)) = some (.int (((fac rows w).take 3).length : Int)) := by
            show lenD (.list (((fac rows w).take 3).map tupI)) = _
            rw [len_list, List.length_map]
          generalize (fac rows w).take 3 = G at *
          have g0 : gtI (G.length : Int) 1 = false := by
            show decide (1 < (G.length : Int)) = false
            rw [decide_eq_false_iff_not]; omega
          simp [-Option.bind_some, -Option.bind_none, cl, lf, g0]
        simp only [ifS_ap, eAnd_ap, c1, Res.bind_ok, if_true, c2, Bool.false_eq_true, if_false, nxS_ap]
      · simp only [c, decide_false] at c1
        simp only [ifS_ap, eAnd_ap, c1, Res.bind_ok, Bool.false_eq_true, if_false, nxS_ap]
  refine ⟨y5, h5, ?_⟩
  have i1 : eIt (eV 3) [.fz (.list (rows.map wd)), .fz (wd t), .fz sg, x3, x4, x5] = .ok (l.map wd) [.fz (.list (rows.map wd)), .fz (wd t), .fz sg, .fz (.list (l.map wd)), x4, x5] := by
    rcases h3 with rfl | rfl <;> simp
  rw [forS_ap, i1, Res.bind_ok]
  exact e
theorem no_lesser_run {rows : List Wd} (h : OkR rows) {t cs : Wd} (okt : okw t) (f : Found rows (some t)) (hc : cs.length ≤ 4) (hb : ∀ c ∈ cs, c < 123) : F__law_no_lesser [.fz (.list (rows.map wd)), .fz (wd t), .fz (wd cs)] = .ok (.bool true) [.un, .un, .un] := by
  have ht := okt.1
  have t1 := len_wd t (by omega)
  obtain ⟨n, hn, hr⟩ : ∃ n : Nat, n ≤ 7 ∧ minD (.int ((t.length : Int) + 1)) (.int 7) = some (.int (n : Int)) := by
    rw [min_int]
    by_cases q : (7 : Int) < (t.length : Int) + 1
    · exact ⟨7, by omega, by rw [if_pos q]; rfl⟩
    · refine ⟨t.length + 1, by omega, ?_⟩
      rw [if_neg q, Int.natCast_add]
      rfl
  obtain ⟨ρ', e, l, x3, x4, x5, _, _, h3, l4, l5, rfl⟩ := loop_pre (t := tgN 4) (b := B__law_no_lesser_2) I (fun d ρ => ∃ (l : List Wd) (x3 x4 x5 : Sl), (∀ w ∈ l, okw w ∧ w.length ≤ d.length) ∧ l.length ≤ 4 ^ d.length ∧ (x3 = .fz (.list (l.map wd)) ∨ x3 = .ow false (.ls (l.map wd))) ∧ Loose x4 ∧ Loose x5 ∧ ρ = [.fz (.list (rows.map wd)), .fz (wd t), .fz (wd cs), x3, x4, x5]) (List.range n) [] [.fz (.list (rows.map wd)), .fz (wd t), .fz (wd cs), .ow false (.ls [wd []]), .un, .un] ⟨[[]], _, .un, .un, fun w hw => by rw [List.mem_singleton.mp hw]; exact ⟨⟨by simp, fun c hc => by simp at hc⟩, Nat.zero_le _⟩, by simp, .inr rfl, .un, .un, rfl⟩ fun d j rr ρ q i => by
    obtain ⟨l, x3, x4, x5, hl, ll, h3, l4, l5, rfl⟩ := i
    have q : List.range n = d ++ j :: rr := q
    have ld : d.length < 7 := by
      have := congrArg List.length q
      rw [List.length_range] at this
      simp at this
      omega
    have l7 : l.length ≤ 4096 := by
      have : 4 ^ d.length ≤ 4 ^ 6 := Nat.pow_le_pow_right (by omega) (by omega)
      omega
    have hl7 : ∀ w ∈ l, okw w ∧ w.length ≤ 7 := fun w hw => ⟨(hl w hw).1, by have := (hl w hw).2; omega⟩
    obtain ⟨y5, h5, ei⟩ := nl_inner h okt f hl7 (wd cs) x3 (.fz (I j)) x5 h3 l5
    have lr := longer_run (l := l) (cs := cs) (by omega) hc (fun w hw => by have := (hl7 w hw).2; omega)
    refine ⟨[.fz (.list (rows.map wd)), .fz (wd t), .fz (wd cs), x3, .fz (I j), x5], [.fz (.list (rows.map wd)), .fz (wd t), .fz (wd cs), .fz (.list ((lng l cs).map wd)), .fz (I j), y5], ?_, ?_, lng l cs, _, .fz (I j), y5, fun w hw => ?_, ?_, .inl rfl, .fz _, h5, rfl⟩
    · show sto _ 4 _ = _
      rw [sto_loose (x := x4) (Eq.trans rfl rfl) l4]
      rfl
    · unfold B__law_no_lesser_2
      rw [seqS_ap, ei, Res.bind_ok]
      dsimp only
      have cl := call2 (F := F__law_longer) (ga := eV 3) (gb := eV 2) (ρ := [.fz (.list (rows.map wd)), .fz (wd t), .fz (wd cs), .fz (.list (l.map wd)), .fz (I j), y5]) rfl rfl lr
      rw [setS_ap, cl, Res.bind_ok]
      rfl
    · unfold lng at hw
      obtain ⟨s, hs, hw⟩ := List.mem_flatten.mp hw
      obtain ⟨u, hu, rfl⟩ := List.mem_map.mp hs
      obtain ⟨c, mc, rfl⟩ := List.mem_map.mp hw
      obtain ⟨u1, u2⟩ := hl u hu
      refine ⟨⟨by rw [List.length_append, List.length_singleton]; omega, fun x hx => ?_⟩, by rw [List.length_append, List.length_append]; simp; omega⟩
      rcases List.mem_append.mp hx with z | z
      · exact u1.2 x z
      · rw [List.mem_singleton.mp z]; exact hb c mc
    · have := flat_len (fun w : Wd => cs.map fun c => w ++ [c]) 4 (fun w => by rw [List.length_map]; exact hc) l
      refine Nat.le_trans this ?_
      rw [List.length_append, List.length_singleton, Nat.pow_succ]
      omega
  refine frun (ds := [.list (rows.map wd), wd t, wd cs]) ⟨[.fz (.list (rows.map wd)), .fz (wd t), .fz (wd cs), x3, x4, x5], ?_⟩
  show g__law_no_lesser [.fz (.list (rows.map wd)), .fz (wd t), .fz (wd cs), .un, .un, .un] = _
  unfold g__law_no_lesser
  have r1 := rg1_n n (by omega)
  have i1 : e1 rg1D (.g (e2 minD (.g (e2 addD (.g (e1 lenD (.b 1))) (.g (eC (.int 1))))) (.g (eC (.int 7))))) [.fz (.list (rows.map wd)), .fz (wd t), .fz (wd cs), .ow false (.ls [wd []]), .un, .un] = .ok ((List.range n).map I) [.fz (.list (rows.map wd)), .fz (wd t), .fz (wd cs), .ow false (.ls [wd []]), .un, .un] := by
    simp [-Option.bind_some, -Option.bind_none, -min_int, t1, hr, r1]
  have s1 : setO 3 (eLst [(eC (.str (Str.ofString "")))]) [.fz (.list (rows.map wd)), .fz (wd t), .fz (wd cs), .un, .un, .un] = .ok .nx [.fz (.list (rows.map wd)), .fz (wd t), .fz (wd cs), .ow false (.ls [wd []]), .un, .un] := by
    simp [-Option.bind_some, -Option.bind_none, em_wd]
  rw [seqS_ap, s1, Res.bind_ok]
  dsimp only
  rw [seqS_ap, forS_ap, i1, Res.bind_ok, e, Res.bind_ok]
  rfl
/-! ### the program's code -/
theorem call1 {F : Rho → Res D} {ga : Ev D} {a d : D} {ρ out : Rho} (ha : ga ρ = .ok a ρ) (hf : F [.fz a] = .ok d out) : callE F [.g ga] ρ = .ok d ρ := by
  have ea : argsE [.g ga] ρ = .ok [.d a] ρ := by simp only [args_cons_ap, argE_g, ha, Res.bind_ok, args_nil_ap]
  rw [callE_ap, ea, Res.bind_ok, callR_ok (avs := [.d a]) (as := [.fz a]) .nil rfl hf, put_d _ _ _ rfl]
def codeD (rows : List Wd) (l : List D) : Option Wd → D
  | none => .tuple [.str (Str.ofString "yes"), .tuple l]
  | some t => .tuple [.str (Str.ofString "no"), .tuple (((fac rows t).take 2).map tupI)]
theorem code_run {rows : List Wd} (h : OkR rows) : ∃ o l, Found rows o ∧ (∀ t, o = some t → t.length ≤ 212 ∧ okw t) ∧ (∀ x, x ∈ l ↔ Cl rows x) ∧ F_code [.fz (.list (rows.map wd))] = .ok (codeD rows (srt l) o) [.un] := by
  obtain ⟨o, f, lt, e⟩ := least_double_run h
  obtain ⟨l, _, ml, er⟩ := remainders_run h
  refine ⟨o, l, f, fun t ht => ⟨lt t ht, ?_⟩, ml, ?_⟩
  · subst ht
    exact rc_okw h f.1 (by have := lt t rfl; omega)
  · cases o with
    | none =>
      refine frun (ds := [.list (rows.map wd)]) ⟨[.fz (.list (rows.map wd)), .fz .none], ?_⟩
      show g_code [.fz (.list (rows.map wd)), .un] = _
      unfold g_code
      have c1 := call1 (F := F_least_double) (ga := eV 0) (ρ := [.fz (.list (rows.map wd)), .un]) rfl e
      have c2 := call1 (F := F_remainders) (ga := eV 0) (ρ := [.fz (.list (rows.map wd)), .fz .none]) rfl er
      have n1 : isND .none .none = some (.bool true) := rfl
      have n2 : oD none = .none := rfl
      have n3 : tupD (.list (srt l)) = some (.tuple (srt l)) := rfl
      rw [n2] at c1
      simp [-callE_ap, -Option.bind_some, -Option.bind_none, -tupD, c1, c2, n1, n3, codeD]
    | some t =>
      have okt := rc_okw h f.1 (by have := lt t rfl; omega)
      have rr := readings_run h (t := t) okt.1
      refine frun (ds := [.list (rows.map wd)]) ⟨[.fz (.list (rows.map wd)), .fz (wd t)], ?_⟩
      show g_code [.fz (.list (rows.map wd)), .un] = _
      unfold g_code
      have c1 := call1 (F := F_least_double) (ga := eV 0) (ρ := [.fz (.list (rows.map wd)), .un]) rfl e
      have c2 := call2 (F := F_readings) (ga := eV 0) (gb := eV 1) (ρ := [.fz (.list (rows.map wd)), .fz (wd t)]) rfl rfl rr
      have n1 : isND (wd t) .none = some (.bool false) := rfl
      have n2 : oD (some t) = wd t := rfl
      have n3 : tupD (listT ((fac rows t).take 2)) = some (.tuple (((fac rows t).take 2).map tupI)) := rfl
      rw [n2] at c1
      simp [-callE_ap, -Option.bind_some, -Option.bind_none, -tupD, c1, c2, n1, n3, codeD]
end K65
end
section
set_option autoImplicit false
set_option maxRecDepth 100000
set_option Elab.async false
set_option linter.all false
namespace K65
open PySem DL L2 SX
/-! ### what stands in a paper -/
inductive Itm where
  | int (i : Int)
  | w (w : Wd)
  | non
  | tup (l : List Int)
  | ls (ds : List D)
def itD : Itm → D
  | .int i => .int i
  | .w x => wd x
  | .non => .none
  | .tup l => .tuple (l.map PyData.int)
  | .ls ds => .list ds
def okI : Itm → Prop
  | .int _ => True
  | .w x => okw x
  | .non => True
  | .tup l => l.length ≤ 1000
  | .ls ds => ∀ d ∈ ds, okN 1 d
theorem ok_itD {x : Itm} (h : okI x) : okN 2 (itD x) := by
  cases x with
  | int i => exact (ok_int i).mono (by omega)
  | w x => exact (ok_wd h).mono (by omega)
  | non => exact ok_none.mono (by omega)
  | tup l => exact (ok_tup fun d hd => by
      obtain ⟨i, _, rfl⟩ := List.mem_map.mp hd
      exact (ok_int i).mono (show 0 ≤ 1 by omega))
  | ls ds => exact ok_list h
def isT : Itm → Bool
  | .tup _ => true
  | _ => false
def isW : Itm → Bool
  | .w _ => true
  | _ => false
theorem isi_tup (x : Itm) : isiD "tuple" (itD x) = some (.bool (isT x)) := by cases x <;> rfl
theorem isi_str (x : Itm) : isiD "str" (itD x) = some (.bool (isW x)) := by cases x <;> rfl
def inR (n : Nat) (i : Int) : Bool := decide (0 ≤ i) && decide (i < (n : Int))
def isRd (n : Nat) : Itm → Bool
  | .tup l => l.all (inR n)
  | _ => false
def bl (b : Bool) : D := .bool b
theorem enc_bl : Enc bl := fun a b => by cases a <;> cases b <;> rfl
theorem ok_bl (b : Bool) : okN 0 (bl b) := ok_bool b
theorem inF (bs : List Bool) : inD (.bool false) (.list (bs.map bl)) = some (.bool (!bs.all id)) := by
  have := inL_ok (d := bl false) (ds := bs.map bl) ((ok_bl false).mono (by omega)) (fun x hx => by
    obtain ⟨b, _, rfl⟩ := List.mem_map.mp hx
    exact (ok_bl b).mono (by omega))
  rw [inAny_map enc_bl] at this
  show inD (bl false) _ = _
  rw [this]
  congr 2
  clear this
  induction bs with
  | nil => rfl
  | cons b bs ih => cases b <;> simp_all
theorem ninF (bs : List Bool) : notInD (.bool false) (.list (bs.map bl)) = some (.bool (bs.all id)) := by
  have := ninL_ok (d := bl false) (ds := bs.map bl) ((ok_bl false).mono (by omega)) (fun x hx => by
    obtain ⟨b, _, rfl⟩ := List.mem_map.mp hx
    exact (ok_bl b).mono (by omega))
  rw [inAny_map enc_bl] at this
  show notInD (bl false) _ = _
  rw [this]
  congr 2
  clear this
  induction bs with
  | nil => rfl
  | cons b bs ih => cases b <;> simp_all
theorem is_reading_run {rows : List Wd} {x : Itm} (h : okI x) : F_is_reading [.fz (.list (rows.map wd)), .fz (itD x)] = .ok (.bool (isRd rows.length x)) [.un, .un] := by
  have it := isi_tup x
  by_cases c : isT x = true
  · cases x with
    | tup l =>
      have h : l.length ≤ 1000 := h
      have it : isiD "tuple" (.tuple (l.map PyData.int)) = some (.bool true) := it
      have c1 : lcE (eIt (eV 1)) (tgN 3) yesT (eAndV (e1 (isiD "int") (.b 3)) (eNotV (e1 (isiD "bool") (.b 3)))) [3] [.fz (.list (rows.map wd)), .fz (.tuple (l.map PyData.int)), .un, .un] = .ok (.ls (l.map fun _ => bl true)) [.fz (.list (rows.map wd)), .fz (.tuple (l.map PyData.int)), .un, .un] := by
        refine lcE_map PyData.int (fun _ => bl true) l (ρ1 := [.fz (.list (rows.map wd)), .fz (.tuple (l.map PyData.int)), .un, .un]) (by simp) rfl (by omega) fun i _ => ?_
        refine ⟨[.fz (.list (rows.map wd)), .fz (.tuple (l.map PyData.int)), .un, .fz (.int i)], rfl, rfl, ?_⟩
        have i1 : isiD "int" (.int i) = some (.bool true) := rfl
        have i2 : isiD "bool" (.int i) = some (.bool false) := rfl
        simp [-Option.bind_some, -Option.bind_none, i1, i2, bl]
      have c2 : ∀ y, lcE (eIt (eV 1)) (tgN 3) yesT (eCh (cmpI leI) (cmpI ltI) (.g (eC (.int 0))) (.b 3) (.g (e1 lenD (.b 0)))) [3] [.fz (.list (rows.map wd)), .fz (.tuple (l.map PyData.int)), y, .un] = .ok (.ls (l.map fun i => bl (inR rows.length i))) [.fz (.list (rows.map wd)), .fz (.tuple (l.map PyData.int)), y, .un] := fun y => by
        refine lcE_map PyData.int (fun i => bl (inR rows.length i)) l (ρ1 := [.fz (.list (rows.map wd)), .fz (.tuple (l.map PyData.int)), y, .un]) (by simp) rfl (by omega) fun i _ => ?_
        refine ⟨[.fz (.list (rows.map wd)), .fz (.tuple (l.map PyData.int)), y, .fz (.int i)], rfl, rfl, ?_⟩
        have q1 : leI 0 i = decide (0 ≤ i) := rfl
        have q2 : ltI i (rows.length : Int) = decide (i < (rows.length : Int)) := rfl
        unfold eCh inR bl
        by_cases z : 0 ≤ i
        · simp [-Option.bind_some, -Option.bind_none, q1, q2, z]
        · simp [-Option.bind_some, -Option.bind_none, q1, q2, z]
      have n1 := ninF (l.map fun _ => true)
      have n2 := ninF (l.map (inR rows.length))
      rw [List.map_map] at n1 n2
      have a1 : (l.map fun _ => true).all id = true := by simp
      have a2 : (l.map (inR rows.length)).all id = l.all (inR rows.length) := by rw [List.all_map]; rfl
      rw [a1] at n1
      rw [a2] at n2
      have n1 : notInD (.bool false) (.list (l.map fun _ => bl true)) = some (.bool true) := n1
      have n2 : notInD (.bool false) (.list (l.map fun i => bl (inR rows.length i))) = some (.bool (l.all (inR rows.length))) := n2
      refine frun (ds := [.list (rows.map wd), .tuple (l.map PyData.int)]) ⟨[.fz (.list (rows.map wd)), .fz (.tuple (l.map PyData.int)), .ow false (.ls (l.map fun _ => bl true)), .un], ?_⟩
      show g_is_reading [.fz (.list (rows.map wd)), .fz (.tuple (l.map PyData.int)), .un, .un] = _
      unfold g_is_reading isRd
      generalize (l.map fun _ => bl true) = L1 at *
      generalize (l.map fun i => bl (inR rows.length i)) = L2 at *
      simp [-lcE_ap, -Option.bind_some, -Option.bind_none, it, truD, c1, c2, n1, n2]
    | int _ => cases c
    | w _ => cases c
    | non => cases c
    | ls _ => cases c
  · have c : isT x = false := by simpa using c
    rw [c] at it
    have e : isRd rows.length x = false := by cases x <;> first | rfl | cases c
    rw [e]
    generalize itD x = d at it
    refine frun (ds := [.list (rows.map wd), d]) ⟨[.fz (.list (rows.map wd)), .fz d, .un, .un], ?_⟩
    show g_is_reading [.fz (.list (rows.map wd)), .fz d, .un, .un] = _
    unfold g_is_reading
    simp [-Option.bind_some, -Option.bind_none, it, truD]
theorem is_number_run (n : Nat) (i : Int) : F__law_is_number [.fz (.int i), .fz (.int (n : Int))] = .ok (.bool (inR n i)) [.un, .un] := by
  refine frun (ds := [.int i, .int (n : Int)]) ⟨[.fz (.int i), .fz (.int (n : Int))], ?_⟩
  show g__law_is_number [.fz (.int i), .fz (.int (n : Int))] = _
  have q1 : leI 0 i = decide (0 ≤ i) := rfl
  have q2 : ltI i (n : Int) = decide (i < (n : Int)) := rfl
  have i1 : isiD "int" (.int i) = some (.bool true) := rfl
  have i2 : isiD "bool" (.int i) = some (.bool false) := rfl
  unfold g__law_is_number eCh inR
  by_cases z : 0 ≤ i
  · simp [-Option.bind_some, -Option.bind_none, i1, i2, q1, q2, z]
  · simp [-Option.bind_some, -Option.bind_none, i1, i2, q1, q2, z]
end K65
end
section
set_option autoImplicit false
set_option maxRecDepth 100000
set_option Elab.async false
set_option linter.all false
namespace K65
open PySem DL L2 SX
def yesW : Wd := [121, 101, 115]
def noW : Wd := [110, 111]
theorem yes_wd : PyData.str (Str.ofString "yes") = wd yesW := congrArg PyData.str (show Str.ofString "yes" = S yesW by decide +kernel)
theorem no_wd : PyData.str (Str.ofString "no") = wd noW := congrArg PyData.str (show Str.ofString "no" = S noW by decide +kernel)
theorem ok_yes : okw yesW := ⟨by decide, by decide⟩
theorem ok_no : okw noW := ⟨by decide, by decide⟩
/-- the text of a reading -/
def txt (rows : List Wd) (l : List Int) : Wd := (l.map fun i => rows.getD i.toNat []).flatten
def accN (rows : List Wd) : List Itm → Bool
  | [.tup l, .tup m] => l.all (inR rows.length) && m.all (inR rows.length) && !decide (l = m) && decide (txt rows l = txt rows m)
  | _ => false
def wds (xs : List Itm) : List Wd := xs.filterMap fun x => match x with
  | .w x => some x
  | _ => none
def due (rows : List Wd) (ws : List Wd) : List Wd := ini rows ++ (ws.map (rst rows)).flatten
def accY (rows : List Wd) (xs : List Itm) : Bool := xs.all isW && !decide ([] ∈ wds xs) && (due rows (wds xs)).all fun x => decide (x ∈ wds xs)
def acc (rows : List Wd) (v : Wd) (xs : List Itm) : Bool := if v = noW then accN rows xs else if v = yesW then accY rows xs else false
theorem wds_all {xs : List Itm} (h : xs.all isW = true) : xs.map itD = (wds xs).map wd := by
  induction xs with
  | nil => rfl
  | cons x xs ih =>
    simp only [List.all_cons, Bool.and_eq_true] at h
    cases x with
    | w x =>
      have ih := ih h.2
      show itD (.w x) :: xs.map itD = _
      rw [ih]
      rfl
    | int _ => cases h.1
    | non => cases h.1
    | tup _ => cases h.1
    | ls _ => cases h.1
theorem wds_ok {xs : List Itm} (h : ∀ x ∈ xs, okI x) : ∀ w ∈ wds xs, okw w := fun w hw => by
  unfold wds at hw
  obtain ⟨x, hx, e⟩ := List.mem_filterMap.mp hw
  cases x with
  | w x => cases e; exact h _ hx
  | int _ => cases e
  | non => cases e
  | tup _ => cases e
  | ls _ => cases e
theorem wds_len (xs : List Itm) : (wds xs).length ≤ xs.length := List.length_filterMap_le _ _
/-- the rows at the numbers of a reading -/
theorem at_row {rows : List Wd} {i : Int} (h : inR rows.length i = true) : ∃ w, ixD (.list (rows.map wd)) (.int i) = some (wd w) ∧ rows.getD i.toNat [] = w ∧ w ∈ rows := by
  unfold inR at h
  simp only [Bool.and_eq_true, decide_eq_true_eq] at h
  obtain ⟨n, rfl⟩ : ∃ n : Nat, i = (n : Int) := ⟨i.toNat, by omega⟩
  have hn : n < rows.length := by omega
  refine ⟨rows[n], ?_, ?_, List.getElem_mem hn⟩
  · rw [DL.ix_list, atI_n, List.getElem?_map, List.getElem?_eq_getElem hn]
    rfl
  · rw [Int.toNat_natCast, List.getD_eq_getElem?_getD, List.getElem?_eq_getElem hn]
    rfl
theorem txt_len {rows : List Wd} (h : OkR rows) : ∀ {l : List Int}, l.all (inR rows.length) = true → ((l.map fun i => rows.getD i.toNat []).map List.length).sum ≤ 12 * l.length
  | [], _ => by simp
  | i :: l, q => by
    simp only [List.all_cons, Bool.and_eq_true] at q
    obtain ⟨w, _, e, mw⟩ := at_row q.1
    have := txt_len h q.2
    have := h.ln w mw
    simp only [List.map_cons, List.sum_cons, List.length_cons, e]
    omega
theorem txt_cp {rows : List Wd} (h : OkR rows) {l : List Int} (q : l.all (inR rows.length) = true) : ∀ c ∈ txt rows l, c < 123 := fun c hc => by
  unfold txt at hc
  obtain ⟨s, hs, hc⟩ := List.mem_flatten.mp hc
  obtain ⟨i, hi, rfl⟩ := List.mem_map.mp hs
  obtain ⟨w, _, e, mw⟩ := at_row (List.all_eq_true.mp q i hi)
  rw [e] at hc
  exact h.cp w mw c hc
theorem ok_long {w : Wd} (h : ∀ c ∈ w, c < 123) : okN 0 (wd w) := ok_str fun c hc => by
  have : c ∈ w := hc
  have := h c this
  omega
theorem eq_long {a b : Wd} (h1 : ∀ c ∈ a, c < 123) (h2 : ∀ c ∈ b, c < 123) : eqD (wd a) (wd b) = some (.bool (decide (a = b))) := by
  rw [eqD_ok ((ok_long h1).mono (by omega)) ((ok_long h2).mono (by omega)), enc_wd]
theorem ok_tup0 (l : List Int) : okN 1 (.tuple (l.map PyData.int)) := ok_tup fun d hd => by
  obtain ⟨i, _, rfl⟩ := List.mem_map.mp hd
  exact ok_int i
theorem eq_tup (l m : List Int) : eqD (.tuple (l.map PyData.int)) (.tuple (m.map PyData.int)) = some (.bool (decide (l = m))) := by
  rw [eqD_ok ((ok_tup0 l).mono (by omega)) ((ok_tup0 m).mono (by omega))]
  have := enc_tup enc_int l m
  rw [this]
theorem ne_tup (l m : List Int) : neD (.tuple (l.map PyData.int)) (.tuple (m.map PyData.int)) = some (.bool (!decide (l = m))) := by
  rw [neD_ok ((ok_tup0 l).mono (by omega)) ((ok_tup0 m).mono (by omega))]
  have := enc_tup enc_int l m
  rw [this]
/-- the head of a paper -/
theorem ninT2 {v : Wd} (h : okw v) : notInD (wd v) (.tuple [wd yesW, wd noW]) = some (.bool (!decide (v = yesW ∨ v = noW))) := by
  have := ninT_ok (d := wd v) (ds := [yesW, noW].map wd) ((ok_wd h).mono (by omega)) (fun x hx => by
    obtain ⟨y, hy, rfl⟩ := List.mem_map.mp hx
    simp only [List.mem_cons, List.not_mem_nil, or_false] at hy
    rcases hy with rfl | rfl
    · exact ok_yes.1 |> fun _ => (ok_wd ok_yes).mono (by omega)
    · exact (ok_wd ok_no).mono (by omega))
  rw [inAny_map enc_wd] at this
  have e : notInD (wd v) (.tuple [wd yesW, wd noW]) = _ := this
  rw [e]
  congr 3
  exact decide_eq_decide.mpr (by simp)
theorem ninL2 {v : Wd} (h : okw v) : notInD (wd v) (.list [wd yesW, wd noW]) = some (.bool (!decide (v = yesW ∨ v = noW))) := by
  have := nin_wd (l := [yesW, noW]) h (fun x hx => by
    simp only [List.mem_cons, List.not_mem_nil, or_false] at hx
    rcases hx with rfl | rfl
    · exact ok_yes
    · exact ok_no)
  have e : notInD (wd v) (.list [wd yesW, wd noW]) = _ := this
  rw [e]
  congr 3
  exact decide_eq_decide.mpr (by simp)
end K65
end
section
set_option autoImplicit false
set_option maxRecDepth 100000
set_option Elab.async false
set_option linter.all false
namespace K65
open PySem DL L2 SX
def pairD (v : Wd) (T : List D) : D := .tuple [wd v, .tuple T]
theorem ix_pair0 (v : Wd) (T : List D) : ixD (pairD v T) (.int 0) = some (wd v) := rfl
theorem ix_pair1 (v : Wd) (T : List D) : ixD (pairD v T) (.int 1) = some (.tuple T) := rfl
def headJ : Ev Bool := (eOr (eNot (e1 truD (.g (e1 (isiD "tuple") (.b 1))))) (eOr (eT (e2 neD (.g (e1 lenD (.b 1))) (.g (eC (.int 2))))) (eOr (eT (e2 notInD (.g (e2 ixD (.b 1) (.g (eC (.int 0))))) (.g (eTup [(eC (.str (Str.ofString "yes"))), (eC (.str (Str.ofString "no")))])))) (eNot (e1 truD (.g (e1 (isiD "tuple") (.g (e2 ixD (.b 1) (.g (eC (.int 1))))))))))))
theorem headJ_run {v : Wd} (hv : okw v) (T : List D) (R x2 x3 x4 x5 x6 x7 : Sl) : headJ [R, .fz (pairD v T), x2, x3, x4, x5, x6, x7] = .ok (!decide (v = yesW ∨ v = noW)) [R, .fz (pairD v T), x2, x3, x4, x5, x6, x7] := by
  have i1 : isiD "tuple" (pairD v T) = some (.bool true) := rfl
  have i2 : isiD "tuple" (.tuple T) = some (.bool true) := rfl
  have i3 : lenD (pairD v T) = some (.int 2) := rfl
  have i4 := ix_pair0 v T
  have i5 := ix_pair1 v T
  have i6 := ninT2 hv
  unfold headJ
  by_cases c : v = yesW ∨ v = noW
  · simp only [c, decide_true, Bool.not_true] at i6 ⊢
    simp [-Option.bind_some, -Option.bind_none, truD, i1, i2, i3, i4, i5, i6, yes_wd, no_wd]
  · simp only [c, decide_false, Bool.not_false] at i6 ⊢
    simp [-Option.bind_some, -Option.bind_none, truD, i1, i2, i3, i4, i5, i6, yes_wd, no_wd]
def noJ : Ev Fl := (seqS (ifS (eOr (eT (e2 neD (.g (e1 lenD (.g (e2 ixD (.b 1) (.g (eC (.int 1))))))) (.g (eC (.int 2))))) (eOr (eT (e2 inD (.g (eC (.bool false))) (.g (eFz (lcE (eIt (e2 ixD (.b 1) (.g (eC (.int 1))))) (tgN 6) yesT (callE (F_is_reading) [.g (eV 0), .g (eV 6)]) [6]))))) (eT (e2 eqD (.g (e2 ixD (.g (e2 ixD (.b 1) (.g (eC (.int 1))))) (.g (eC (.int 0))))) (.g (e2 ixD (.g (e2 ixD (.b 1) (.g (eC (.int 1))))) (.g (eC (.int 1)))))))))
    (rtS (eC (.bool false)))
    nxS)
    (seqS (asgS (tgU [(tgN 2), (tgN 3)]) (eFz (lcE (eIt (e2 ixD (.b 1) (.g (eC (.int 1))))) (tgN 6) yesT (eM1 joinD (eC (.str (Str.ofString ""))) (.g (eFz (lcE (eIt (eV 6)) (tgN 7) yesT (e2 ixD (.b 0) (.b 7)) [7])))) [6])))
    (rtS (e2 eqD (.b 2) (.b 3)))))
theorem txt_run {rows : List Wd} (h : OkR rows) {l : List Int} (hl : l.length ≤ 1000) (hr : l.all (inR rows.length) = true) (x1 x2 x3 x4 x5 : Sl) : eM1 joinD (eC (.str (Str.ofString ""))) (.g (eFz (lcE (eIt (eV 6)) (tgN 7) yesT (e2 ixD (.b 0) (.b 7)) [7]))) [.fz (.list (rows.map wd)), x1, x2, x3, x4, x5, .fz (.tuple (l.map PyData.int)), .un] = .ok (wd (txt rows l)) [.fz (.list (rows.map wd)), x1, x2, x3, x4, x5, .fz (.tuple (l.map PyData.int)), .un] := by
  have c1 : lcE (eIt (eV 6)) (tgN 7) yesT (e2 ixD (.b 0) (.b 7)) [7] [.fz (.list (rows.map wd)), x1, x2, x3, x4, x5, .fz (.tuple (l.map PyData.int)), .un] = .ok (.ls (l.map fun i => wd (rows.getD i.toNat []))) [.fz (.list (rows.map wd)), x1, x2, x3, x4, x5, .fz (.tuple (l.map PyData.int)), .un] := by
    refine lcE_map PyData.int (fun i => wd (rows.getD i.toNat [])) l (ρ1 := [.fz (.list (rows.map wd)), x1, x2, x3, x4, x5, .fz (.tuple (l.map PyData.int)), .un]) (by simp) rfl (by omega) fun i hi => ?_
    obtain ⟨w, q1, q2, _⟩ := at_row (List.all_eq_true.mp hr i hi)
    refine ⟨[.fz (.list (rows.map wd)), x1, x2, x3, x4, x5, .fz (.tuple (l.map PyData.int)), .fz (.int i)], rfl, rfl, ?_⟩
    show _ = Res.ok (wd (rows.getD i.toNat [])) _
    rw [q2]
    simp [-Option.bind_some, -Option.bind_none, -DL.ix_list, q1]
  have sl := txt_len h hr
  have j1 := join_wd (l.map fun i => rows.getD i.toNat []) (by omega)
  rw [List.map_map] at j1
  have j1 : joinD (Str.ofString "") (.list (l.map fun i => wd (rows.getD i.toNat []))) = some (wd (txt rows l)) := j1
  generalize (l.map fun i => wd (rows.getD i.toNat [])) = L at *
  simp [-lcE_ap, -Option.bind_some, -Option.bind_none, c1, j1]
theorem noJ_run {rows : List Wd} (h : OkR rows) (v : Wd) {xs : List Itm} (hx : ∀ x ∈ xs, okI x) (hl : xs.length ≤ 100) : ∃ r, noJ [.fz (.list (rows.map wd)), .fz (pairD v (xs.map itD)), .un, .un, .un, .un, .un, .un] = .ok (.rt (.bool (accN rows xs))) r := by
  have i5 := ix_pair1 v (xs.map itD)
  by_cases c : xs.length = 2
  · obtain ⟨a, b, rfl⟩ : ∃ a b, xs = [a, b] := by
      match xs, c with
      | [a, b], _ => exact ⟨a, b, rfl⟩
    have c1 : lcE (eIt (e2 ixD (.b 1) (.g (eC (.int 1))))) (tgN 6) yesT (callE (F_is_reading) [.g (eV 0), .g (eV 6)]) [6] [.fz (.list (rows.map wd)), .fz (pairD v ([a, b].map itD)), .un, .un, .un, .un, .un, .un] = .ok (.ls ([a, b].map fun x => bl (isRd rows.length x))) [.fz (.list (rows.map wd)), .fz (pairD v ([a, b].map itD)), .un, .un, .un, .un, .un, .un] := by
      refine lcE_map itD (fun x => bl (isRd rows.length x)) [a, b] (ρ1 := [.fz (.list (rows.map wd)), .fz (pairD v ([a, b].map itD)), .un, .un, .un, .un, .un, .un]) (by simp only [eIt_ap, e2_ap, opd_b, opd_g, eC_ap, Res.bind_ok, pk_ap, List.getElem?_cons_succ, List.getElem?_cons_zero, obind, pkf, fin_v, fin_d, ofO_some, i5, it_tup]) rfl (by simp) fun x hx' => ?_
      refine ⟨[.fz (.list (rows.map wd)), .fz (pairD v ([a, b].map itD)), .un, .un, .un, .un, .fz (itD x), .un], rfl, rfl, ?_⟩
      exact call2 rfl rfl (is_reading_run (hx x hx'))
    have f1 := inF ([isRd rows.length a, isRd rows.length b])
    have f1 : inD (.bool false) (.list [bl (isRd rows.length a), bl (isRd rows.length b)]) = _ := f1
    have c2 : eT (e2 inD (.g (eC (.bool false))) (.g (eFz (lcE (eIt (e2 ixD (.b 1) (.g (eC (.int 1))))) (tgN 6) yesT (callE (F_is_reading) [.g (eV 0), .g (eV 6)]) [6])))) [.fz (.list (rows.map wd)), .fz (pairD v ([a, b].map itD)), .un, .un, .un, .un, .un, .un] = .ok (!(isRd rows.length a && isRd rows.length b)) [.fz (.list (rows.map wd)), .fz (pairD v ([a, b].map itD)), .un, .un, .un, .un, .un, .un] := by
      have f2 : inD (.bool false) (.list ([a, b].map fun x => bl (isRd rows.length x))) = some (.bool (!(isRd rows.length a && isRd rows.length b))) := by
        refine f1.trans ?_
        simp
      generalize ([a, b].map fun x => bl (isRd rows.length x)) = L at *
      generalize ([a, b].map itD) = T at *
      generalize (isRd rows.length a && isRd rows.length b) = B at *
      simp [-lcE_ap, -Option.bind_some, -Option.bind_none, c1, f2]
    have c0 : eT (e2 neD (.g (e1 lenD (.g (e2 ixD (.b 1) (.g (eC (.int 1))))))) (.g (eC (.int 2)))) [.fz (.list (rows.map wd)), .fz (pairD v ([a, b].map itD)), .un, .un, .un, .un, .un, .un] = .ok false [.fz (.list (rows.map wd)), .fz (pairD v ([a, b].map itD)), .un, .un, .un, .un, .un, .un] := by
      have l2 : lenD (.tuple ([a, b].map itD)) = some (.int 2) := rfl
      generalize ([a, b].map itD) = T at *
      simp [-Option.bind_some, -Option.bind_none, -len_tup, i5, l2]
    unfold noJ
    by_cases q : (isRd rows.length a && isRd rows.length b) = true
    · simp only [Bool.and_eq_true] at q
      obtain ⟨qa, qb⟩ := q
      cases a with
      | tup l =>
        cases b with
        | tup m =>
          have qa : l.all (inR rows.length) = true := qa
          have qb : m.all (inR rows.length) = true := qb
          have hl1 : l.length ≤ 1000 := hx (.tup l) (by simp)
          have hm1 : m.length ≤ 1000 := hx (.tup m) (by simp)
          have c2 : eT (e2 inD (.g (eC (.bool false))) (.g (eFz (lcE (eIt (e2 ixD (.b 1) (.g (eC (.int 1))))) (tgN 6) yesT (callE (F_is_reading) [.g (eV 0), .g (eV 6)]) [6])))) [.fz (.list (rows.map wd)), .fz (pairD v ([Itm.tup l, Itm.tup m].map itD)), .un, .un, .un, .un, .un, .un] = .ok false [.fz (.list (rows.map wd)), .fz (pairD v ([Itm.tup l, Itm.tup m].map itD)), .un, .un, .un, .un, .un, .un] := by
            rw [c2]
            show Res.ok (!(l.all (inR rows.length) && m.all (inR rows.length))) _ = _
            rw [qa, qb]
            rfl
          have t1 := eq_tup l m
          have c3 : eT (e2 eqD (.g (e2 ixD (.g (e2 ixD (.b 1) (.g (eC (.int 1))))) (.g (eC (.int 0))))) (.g (e2 ixD (.g (e2 ixD (.b 1) (.g (eC (.int 1))))) (.g (eC (.int 1)))))) [.fz (.list (rows.map wd)), .fz (pairD v ([Itm.tup l, Itm.tup m].map itD)), .un, .un, .un, .un, .un, .un] = .ok (decide (l = m)) [.fz (.list (rows.map wd)), .fz (pairD v ([Itm.tup l, Itm.tup m].map itD)), .un, .un, .un, .un, .un, .un] := by
            have x0 : ixD (.tuple ([Itm.tup l, Itm.tup m].map itD)) (.int 0) = some (.tuple (l.map PyData.int)) := rfl
            have x1 : ixD (.tuple ([Itm.tup l, Itm.tup m].map itD)) (.int 1) = some (.tuple (m.map PyData.int)) := rfl
            generalize ([Itm.tup l, Itm.tup m].map itD) = T at *
            simp [-Option.bind_some, -Option.bind_none, -DL.ix_tup, i5, x0, x1, t1]
          by_cases z : l = m
          · refine ⟨[.fz (.list (rows.map wd)), .fz (pairD v ([Itm.tup l, Itm.tup m].map itD)), .un, .un, .un, .un, .un, .un], ?_⟩
            simp only [z, decide_true] at c3
            subst z
            rw [seqS_ap, ifS_ap, eOr_ap, c0, Res.bind_ok, if_neg Bool.false_ne_true, eOr_ap, c2, Res.bind_ok, if_neg Bool.false_ne_true, c3]
            have e : accN rows [.tup l, .tup l] = false := by simp [accN]
            rw [e]
            rfl
          · simp only [z, decide_false] at c3
            have c4 : lcE (eIt (e2 ixD (.b 1) (.g (eC (.int 1))))) (tgN 6) yesT (eM1 joinD (eC (.str (Str.ofString ""))) (.g (eFz (lcE (eIt (eV 6)) (tgN 7) yesT (e2 ixD (.b 0) (.b 7)) [7])))) [6] [.fz (.list (rows.map wd)), .fz (pairD v ([Itm.tup l, Itm.tup m].map itD)), .un, .un, .un, .un, .un, .un] = .ok (.ls ([l, m].map fun l => wd (txt rows l))) [.fz (.list (rows.map wd)), .fz (pairD v ([Itm.tup l, Itm.tup m].map itD)), .un, .un, .un, .un, .un, .un] := by
              refine lcE_map (fun l : List Int => PyData.tuple (l.map PyData.int)) (fun l => wd (txt rows l)) [l, m] (ρ1 := [.fz (.list (rows.map wd)), .fz (pairD v ([Itm.tup l, Itm.tup m].map itD)), .un, .un, .un, .un, .un, .un]) (by simp only [eIt_ap, e2_ap, opd_b, opd_g, eC_ap, Res.bind_ok, pk_ap, List.getElem?_cons_succ, List.getElem?_cons_zero, obind, pkf, fin_v, fin_d, ofO_some, i5, it_tup]; rfl) rfl (by simp) fun k hk => ?_
              have hk2 : k.length ≤ 1000 ∧ k.all (inR rows.length) = true := by
                simp only [List.mem_cons, List.not_mem_nil, or_false] at hk
                rcases hk with rfl | rfl
                · exact ⟨hl1, qa⟩
                · exact ⟨hm1, qb⟩
              exact ⟨[.fz (.list (rows.map wd)), .fz (pairD v ([Itm.tup l, Itm.tup m].map itD)), .un, .un, .un, .un, .fz (.tuple (k.map PyData.int)), .un], rfl, rfl, txt_run h hk2.1 hk2.2 _ _ _ _ _⟩
            have s1 : asgS (tgU [(tgN 2), (tgN 3)]) (eFz (lcE (eIt (e2 ixD (.b 1) (.g (eC (.int 1))))) (tgN 6) yesT (eM1 joinD (eC (.str (Str.ofString ""))) (.g (eFz (lcE (eIt (eV 6)) (tgN 7) yesT (e2 ixD (.b 0) (.b 7)) [7])))) [6])) [.fz (.list (rows.map wd)), .fz (pairD v ([Itm.tup l, Itm.tup m].map itD)), .un, .un, .un, .un, .un, .un] = .ok .nx [.fz (.list (rows.map wd)), .fz (pairD v ([Itm.tup l, Itm.tup m].map itD)), .fz (wd (txt rows l)), .fz (wd (txt rows m)), .un, .un, .un, .un] := by
              rw [asgS_ap, eFz_ap, c4]
              rfl
            have t2 := eq_long (txt_cp h qa) (txt_cp h qb)
            refine ⟨[.fz (.list (rows.map wd)), .fz (pairD v ([Itm.tup l, Itm.tup m].map itD)), .fz (wd (txt rows l)), .fz (wd (txt rows m)), .un, .un, .un, .un], ?_⟩
            have e : accN rows [.tup l, .tup m] = decide (txt rows l = txt rows m) := by simp [accN, qa, qb, z]
            rw [seqS_ap, ifS_ap, eOr_ap, c0, Res.bind_ok, if_neg Bool.false_ne_true, eOr_ap, c2, Res.bind_ok, if_neg Bool.false_ne_true, c3, Res.bind_ok, if_neg Bool.false_ne_true, nxS_ap, Res.bind_ok]
            dsimp only
            rw [seqS_ap, s1, Res.bind_ok, e]
            dsimp only
            simp [-Option.bind_some, -Option.bind_none, t2]
        | int _ => cases qb
        | w _ => cases qb
        | non => cases qb
        | ls _ => cases qb
      | int _ => cases qa
      | w _ => cases qa
      | non => cases qa
      | ls _ => cases qa
    · have q : (isRd rows.length a && isRd rows.length b) = false := by simpa using q
      rw [q] at c2
      have e : accN rows [a, b] = false := by
        cases a with
        | tup l =>
          cases b with
          | tup m =>
            have q : (l.all (inR rows.length) && m.all (inR rows.length)) = false := q
            show (l.all (inR rows.length) && m.all (inR rows.length) && !decide (l = m) && decide (txt rows l = txt rows m)) = false
            rw [q]
            rfl
          | int _ => rfl
          | w _ => rfl
          | non => rfl
          | ls _ => rfl
        | int _ => rfl
        | w _ => rfl
        | non => rfl
        | ls _ => rfl
      refine ⟨[.fz (.list (rows.map wd)), .fz (pairD v ([a, b].map itD)), .un, .un, .un, .un, .un, .un], ?_⟩
      rw [seqS_ap, ifS_ap, eOr_ap, c0, Res.bind_ok, if_neg Bool.false_ne_true, eOr_ap, c2, e]
      rfl
  · have e : accN rows xs = false := by
      unfold accN
      split
      · exact absurd rfl c
      · rfl
    have c0 : eT (e2 neD (.g (e1 lenD (.g (e2 ixD (.b 1) (.g (eC (.int 1))))))) (.g (eC (.int 2)))) [.fz (.list (rows.map wd)), .fz (pairD v (xs.map itD)), .un, .un, .un, .un, .un, .un] = .ok true [.fz (.list (rows.map wd)), .fz (pairD v (xs.map itD)), .un, .un, .un, .un, .un, .un] := by
      have l2 : lenD (.tuple (xs.map itD)) = some (.int (xs.length : Int)) := by rw [len_tup, List.length_map]
      have l3 : ¬ ((xs.length : Int) = 2) := by omega
      simp [-Option.bind_some, -Option.bind_none, -len_tup, i5, l2, l3]
    refine ⟨[.fz (.list (rows.map wd)), .fz (pairD v (xs.map itD)), .un, .un, .un, .un, .un, .un], ?_⟩
    unfold noJ
    rw [seqS_ap, ifS_ap, eOr_ap, c0, e]
    rfl
end K65
end
section
set_option autoImplicit false
set_option maxRecDepth 100000
set_option Elab.async false
set_option linter.all false
namespace K65
open PySem DL L2 SX
def yesJ : Ev Fl := (seqS (ifS (eOr (eT (e2 inD (.g (eC (.bool false))) (.g (eFz (lcE (eIt (e2 ixD (.b 1) (.g (eC (.int 1))))) (tgN 5) yesT (e1 (isiD "str") (.b 5)) [5]))))) (eT (e2 inD (.g (eC (.str (Str.ofString "")))) (.g (e2 ixD (.b 1) (.g (eC (.int 1))))))))
    (rtS (eC (.bool false)))
    nxS)
    (seqS (setO 4 (eLst []))
    (seqS (forS (eIt (eV 0)) (tgN 2) B_judge_code_1)
    (seqS (forS (eIt (e2 ixD (.b 1) (.g (eC (.int 1))))) (tgN 5) B_judge_code_2)
    (rtS (e2 notInD (.g (eC (.bool false))) (.g (eFz (lcE (eIt (eV 4)) (tgN 5) yesT (e2 inD (.b 5) (.g (e2 ixD (.b 1) (.g (eC (.int 1)))))) [5])))))))))
theorem jloop1 {rows : List Wd} (h : OkR rows) (P : Sl) : ∃ x, Loose x ∧ forS (eIt (eV 0)) (tgN 2) B_judge_code_1 [.fz (.list (rows.map wd)), P, .un, .un, .ow false (.ls []), .un, .un, .un] = .ok .nx [.fz (.list (rows.map wd)), P, x, .un, .ow false (.ls ((ini rows).map wd)), .un, .un, .un] := by
  have n5 := h.few
  obtain ⟨ρ', e, x, lx, rfl⟩ := loop_pre (t := tgN 2) (b := B_judge_code_1) wd (fun d ρ => ∃ x, Loose x ∧ ρ = [.fz (.list (rows.map wd)), P, x, .un, .ow false (.ls ((iniP rows d).map wd)), .un, .un, .un]) rows [] [.fz (.list (rows.map wd)), P, .un, .un, .ow false (.ls []), .un, .un, .un] ⟨.un, .un, rfl⟩ fun d a rr ρ q i => by
    obtain ⟨x, lx, rfl⟩ := i
    have q : rows = d ++ a :: rr := q
    have ha : a ∈ rows := by rw [q]; simp
    have oa := h.ok ha
    have ld : d.length ≤ 5 := by rw [q] at n5; simp at n5; omega
    have lf := iniP_len h d ld
    have o1 := oa.1
    refine ⟨[.fz (.list (rows.map wd)), P, .fz (wd a), .un, .ow false (.ls ((iniP rows d).map wd)), .un, .un, .un], [.fz (.list (rows.map wd)), P, .fz (wd a), .un, .ow false (.ls ((iniP rows (d ++ [a])).map wd)), .un, .un, .un], ?_, ?_, .fz (wd a), .fz _, rfl⟩
    · show sto _ 2 _ = _
      rw [sto_loose (x := x) (Eq.trans rfl rfl) lx]
      rfl
    · have c1 : ∀ y, lcE (eIt (eV 0)) (tgN 3) (eAnd (eT (e2 neD (.b 3) (.b 2))) (e1 truD (.g (eM1 swD (eV 3) (.b 2))))) (eSl slD (.b 3) (some (e1 lenD (.b 2))) none) [3] [.fz (.list (rows.map wd)), P, .fz (wd a), .un, y, .un, .un, .un] = .ok (.ls ((rows.filter fun b => !decide (b = a) && decide (a <+: b)).map fun b => wd (b.drop a.length))) [.fz (.list (rows.map wd)), P, .fz (wd a), .un, y, .un, .un, .un] := fun y => by
        refine lcE_pure wd (fun b => !decide (b = a) && decide (a <+: b)) (fun b => wd (b.drop a.length)) rows (ρ1 := [.fz (.list (rows.map wd)), P, .fz (wd a), .un, y, .un, .un, .un]) (by simp) rfl (by omega) fun b hb => ?_
        have ob := h.ok hb
        have o2 := ob.1
        have t1 := ne_wd ob oa
        have t2 := sw_S b a
        have t3 := sl_from b a.length (by omega)
        have t4 := len_wd a (by omega)
        refine ⟨[.fz (.list (rows.map wd)), P, .fz (wd a), .fz (wd b), y, .un, .un, .un], rfl, rfl, ?_, fun q => ?_⟩
        · have ew : (wd b) = .str (S b) := rfl
          by_cases c : b = a
          · simp [-Option.bind_some, -Option.bind_none, t1, c]
            rw [c] at t1
            simp [t1]
          · simp [-Option.bind_some, -Option.bind_none, t1, c]
            simp [-Option.bind_some, -Option.bind_none, ew, t2, truD]
        · simp [-Option.bind_some, -Option.bind_none, t3, t4, eSl, optE]
      have em : (iniP rows (d ++ [a])).map wd = (iniP rows d).map wd ++ (rows.filter fun b => !decide (b = a) && decide (a <+: b)).map fun b => wd (b.drop a.length) := by
        unfold iniP; simp [Function.comp_def]
      have l2 : (rows.filter fun b => !decide (b = a) && decide (a <+: b)).length ≤ rows.length := List.length_filter_le _ _
      have lz : (iniP rows d).length + (rows.filter fun b => !decide (b = a) && decide (a <+: b)).length ≤ 16777216 := by omega
      rw [em]
      unfold B_judge_code_1
      generalize (rows.filter fun b => !decide (b = a) && decide (a <+: b)) = F at *
      simp [-lcE_ap, -Option.bind_some, -Option.bind_none, mutS, c1, extF, lz]
  refine ⟨x, lx, ?_⟩
  have i1 : eIt (eV 0) [.fz (.list (rows.map wd)), P, .un, .un, .ow false (.ls []), .un, .un, .un] = .ok (rows.map wd) [.fz (.list (rows.map wd)), P, .un, .un, .ow false (.ls []), .un, .un, .un] := by simp
  rw [forS_ap, i1, Res.bind_ok]
  exact e
theorem jloop2 {rows : List Wd} (h : OkR rows) (v : Wd) {ws : List Wd} (hw : ∀ w ∈ ws, okw w) (hl : ws.length ≤ 100) (x2 : Sl) : ∃ x, Loose x ∧ forS (eIt (e2 ixD (.b 1) (.g (eC (.int 1))))) (tgN 5) B_judge_code_2 [.fz (.list (rows.map wd)), .fz (pairD v (ws.map wd)), x2, .un, .ow false (.ls ((ini rows).map wd)), .un, .un, .un] = .ok .nx [.fz (.list (rows.map wd)), .fz (pairD v (ws.map wd)), x2, .un, .ow false (.ls ((due rows ws).map wd)), x, .un, .un] := by
  have n5 := h.few
  have li := iniP_len h rows h.few
  rw [iniP_rows] at li
  obtain ⟨ρ', e, x, lx, rfl⟩ := loop_pre (t := tgN 5) (b := B_judge_code_2) wd (fun d ρ => ∃ x, Loose x ∧ ρ = [.fz (.list (rows.map wd)), .fz (pairD v (ws.map wd)), x2, .un, .ow false (.ls ((due rows d).map wd)), x, .un, .un]) ws [] [.fz (.list (rows.map wd)), .fz (pairD v (ws.map wd)), x2, .un, .ow false (.ls ((ini rows).map wd)), .un, .un, .un] ⟨.un, .un, by simp [due]⟩ fun d a rr ρ q i => by
    obtain ⟨x, lx, rfl⟩ := i
    have q : ws = d ++ a :: rr := q
    have ha : a ∈ ws := by rw [q]; simp
    have ld : d.length ≤ 100 := by rw [q] at hl; simp at hl; omega
    have rr := rests_run h (hw a ha)
    have l2 := rst_len h a
    have lf := flat_len (rst rows) 10 (rst_len h) d
    have em : due rows (d ++ [a]) = due rows d ++ rst rows a := by unfold due; simp
    have lz : (due rows d).length + (rst rows a).length ≤ 16777216 := by unfold due; rw [List.length_append]; omega
    rw [em]
    generalize due rows d = C at *
    have ecall := call2 (F := F_rests_of) (ga := eV 0) (gb := eV 5) (ρ := [.fz (.list (rows.map wd)), .fz (pairD v (ws.map wd)), x2, .un, .ow false (.ls (C.map wd)), .fz (wd a), .un, .un]) rfl rfl rr
    refine ⟨[.fz (.list (rows.map wd)), .fz (pairD v (ws.map wd)), x2, .un, .ow false (.ls (C.map wd)), .fz (wd a), .un, .un], [.fz (.list (rows.map wd)), .fz (pairD v (ws.map wd)), x2, .un, .ow false (.ls ((C ++ rst rows a).map wd)), .fz (wd a), .un, .un], ?_, ?_, .fz (wd a), .fz _, rfl⟩
    · show sto _ 5 _ = _
      rw [sto_loose (x := x) (Eq.trans rfl rfl) lx]
      rfl
    · unfold B_judge_code_2
      have := mutS_run (f := extF) (i := 4) (ρ := [.fz (.list (rows.map wd)), .fz (pairD v (ws.map wd)), x2, .un, .ow false (.ls (C.map wd)), .fz (wd a), .un, .un]) (b := false) (xs := C.map wd) (ys := C.map wd ++ (rst rows a).map wd) rfl ecall (b' := false) (xs' := C.map wd) rfl (by simp [extF, lz])
      rw [this]
      simp
  refine ⟨x, lx, ?_⟩
  have i5 := ix_pair1 v (ws.map wd)
  have i1 : eIt (e2 ixD (.b 1) (.g (eC (.int 1)))) [.fz (.list (rows.map wd)), .fz (pairD v (ws.map wd)), x2, .un, .ow false (.ls ((ini rows).map wd)), .un, .un, .un] = .ok (ws.map wd) [.fz (.list (rows.map wd)), .fz (pairD v (ws.map wd)), x2, .un, .ow false (.ls ((ini rows).map wd)), .un, .un, .un] := by
    simp only [eIt_ap, e2_ap, opd_b, opd_g, eC_ap, Res.bind_ok, pk_ap, List.getElem?_cons_succ, List.getElem?_cons_zero, obind, pkf, fin_v, fin_d, ofO_some, i5, it_tup]
  rw [forS_ap, i1, Res.bind_ok]
  exact e
theorem due_ok {rows : List Wd} (h : OkR rows) {ws : List Wd} (hw : ∀ w ∈ ws, okw w) : ∀ x ∈ due rows ws, okw x := fun x hx => by
  unfold due at hx
  rcases List.mem_append.mp hx with q | q
  · obtain ⟨a, ha, b, hb, _, _, rfl⟩ := mem_ini.mp q
    exact (h.ok hb).drop _
  · obtain ⟨s, hs, q⟩ := List.mem_flatten.mp q
    obtain ⟨r, hr, rfl⟩ := List.mem_map.mp hs
    obtain ⟨w, mw, ⟨p, rfl⟩ | ⟨p, rfl⟩⟩ := mem_rst.mp q
    · exact (h.ok mw).drop _
    · exact (hw r hr).drop _
theorem due_len {rows : List Wd} (h : OkR rows) {ws : List Wd} (hl : ws.length ≤ 100) : (due rows ws).length ≤ 1025 := by
  have li := iniP_len h rows h.few
  rw [iniP_rows] at li
  have := flat_len (rst rows) 10 (rst_len h) ws
  unfold due
  rw [List.length_append]
  omega
theorem yesJ_run {rows : List Wd} (h : OkR rows) (v : Wd) {xs : List Itm} (hx : ∀ x ∈ xs, okI x) (hl : xs.length ≤ 100) : ∃ r, yesJ [.fz (.list (rows.map wd)), .fz (pairD v (xs.map itD)), .un, .un, .un, .un, .un, .un] = .ok (.rt (.bool (accY rows xs))) r := by
  have i5 := ix_pair1 v (xs.map itD)
  have c1 : lcE (eIt (e2 ixD (.b 1) (.g (eC (.int 1))))) (tgN 5) yesT (e1 (isiD "str") (.b 5)) [5] [.fz (.list (rows.map wd)), .fz (pairD v (xs.map itD)), .un, .un, .un, .un, .un, .un] = .ok (.ls (xs.map fun x => bl (isW x))) [.fz (.list (rows.map wd)), .fz (pairD v (xs.map itD)), .un, .un, .un, .un, .un, .un] := by
    refine lcE_map itD (fun x => bl (isW x)) xs (ρ1 := [.fz (.list (rows.map wd)), .fz (pairD v (xs.map itD)), .un, .un, .un, .un, .un, .un]) (by simp only [eIt_ap, e2_ap, opd_b, opd_g, eC_ap, Res.bind_ok, pk_ap, List.getElem?_cons_succ, List.getElem?_cons_zero, obind, pkf, fin_v, fin_d, ofO_some, i5, it_tup]) rfl (by omega) fun x _ => ?_
    refine ⟨[.fz (.list (rows.map wd)), .fz (pairD v (xs.map itD)), .un, .un, .un, .fz (itD x), .un, .un], rfl, rfl, ?_⟩
    have := isi_str x
    simp [-Option.bind_some, -Option.bind_none, this, bl]
  have c2 : eT (e2 inD (.g (eC (.bool false))) (.g (eFz (lcE (eIt (e2 ixD (.b 1) (.g (eC (.int 1))))) (tgN 5) yesT (e1 (isiD "str") (.b 5)) [5])))) [.fz (.list (rows.map wd)), .fz (pairD v (xs.map itD)), .un, .un, .un, .un, .un, .un] = .ok (!xs.all isW) [.fz (.list (rows.map wd)), .fz (pairD v (xs.map itD)), .un, .un, .un, .un, .un, .un] := by
    have f1 := inF (xs.map isW)
    rw [List.map_map, List.all_map] at f1
    have f1 : inD (.bool false) (.list (xs.map fun x => bl (isW x))) = some (.bool (!xs.all isW)) := f1
    generalize (xs.map fun x => bl (isW x)) = L at *
    generalize xs.map itD = T at *
    generalize xs.all isW = B at *
    simp [-lcE_ap, -Option.bind_some, -Option.bind_none, c1, f1]
  by_cases c : xs.all isW = true
  · rw [c] at c2
    have ok := wds_ok hx
    have ll := wds_len xs
    have ex := wds_all c
    have ea : accY rows xs = (!decide ([] ∈ wds xs) && (due rows (wds xs)).all fun x => decide (x ∈ wds xs)) := by unfold accY; rw [c, Bool.true_and]
    rw [ea]
    rw [ex] at c2 i5 ⊢
    clear c1 ea
    generalize wds xs = ws at *
    have t1 := inT_wd (a := []) (l := ws) ⟨by simp, fun c hc => by simp at hc⟩ ok
    have c3 : eT (e2 inD (.g (eC (.str (Str.ofString "")))) (.g (e2 ixD (.b 1) (.g (eC (.int 1)))))) [.fz (.list (rows.map wd)), .fz (pairD v (ws.map wd)), .un, .un, .un, .un, .un, .un] = .ok (decide ([] ∈ ws)) [.fz (.list (rows.map wd)), .fz (pairD v (ws.map wd)), .un, .un, .un, .un, .un, .un] := by
      generalize ws.map wd = T at *
      simp [-Option.bind_some, -Option.bind_none, em_wd, i5, t1]
    unfold yesJ
    by_cases z : [] ∈ ws
    · simp only [z, decide_true] at c3
      refine ⟨[.fz (.list (rows.map wd)), .fz (pairD v (ws.map wd)), .un, .un, .un, .un, .un, .un], ?_⟩
      rw [seqS_ap, ifS_ap, eOr_ap, c2, Res.bind_ok, if_neg (by simp), c3, Res.bind_ok, if_pos rfl]
      simp [z]
    · simp only [z, decide_false] at c3
      obtain ⟨x2, _, e2'⟩ := jloop1 h (.fz (pairD v (ws.map wd)))
      obtain ⟨x5, l5, e5⟩ := jloop2 h v ok (by omega) x2
      have od := due_ok h ok
      have ld := due_len h (ws := ws) (by omega)
      have s4 : setO 4 (eLst []) [.fz (.list (rows.map wd)), .fz (pairD v (ws.map wd)), .un, .un, .un, .un, .un, .un] = .ok .nx [.fz (.list (rows.map wd)), .fz (pairD v (ws.map wd)), .un, .un, .ow false (.ls []), .un, .un, .un] := by simp
      have c4 : lcE (eIt (eV 4)) (tgN 5) yesT (e2 inD (.b 5) (.g (e2 ixD (.b 1) (.g (eC (.int 1)))))) [5] [.fz (.list (rows.map wd)), .fz (pairD v (ws.map wd)), x2, .un, .ow false (.ls ((due rows ws).map wd)), x5, .un, .un] = .ok (.ls ((due rows ws).map fun x => bl (decide (x ∈ ws)))) [.fz (.list (rows.map wd)), .fz (pairD v (ws.map wd)), x2, .un, .fz (.list ((due rows ws).map wd)), .un, .un, .un] := by
        refine lcE_map wd (fun x => bl (decide (x ∈ ws))) (due rows ws) (ρ1 := [.fz (.list (rows.map wd)), .fz (pairD v (ws.map wd)), x2, .un, .fz (.list ((due rows ws).map wd)), x5, .un, .un]) (by simp) rfl (by omega) fun x hx => ?_
        refine ⟨[.fz (.list (rows.map wd)), .fz (pairD v (ws.map wd)), x2, .un, .fz (.list ((due rows ws).map wd)), .fz (wd x), .un, .un], rfl, rfl, ?_⟩
        have t2 := inT_wd (od x hx) ok
        generalize (due rows ws).map wd = T2 at *
        generalize ws.map wd = T at *
        simp [-Option.bind_some, -Option.bind_none, i5, t2, bl]
      have f1 := ninF ((due rows ws).map fun x => decide (x ∈ ws))
      rw [List.map_map, List.all_map] at f1
      have f1 : notInD (.bool false) (.list ((due rows ws).map fun x => bl (decide (x ∈ ws)))) = some (.bool ((due rows ws).all fun x => decide (x ∈ ws))) := f1
      refine ⟨[.fz (.list (rows.map wd)), .fz (pairD v (ws.map wd)), x2, .un, .fz (.list ((due rows ws).map wd)), .un, .un, .un], ?_⟩
      rw [seqS_ap, ifS_ap, eOr_ap, c2, Res.bind_ok, if_neg (by simp), c3, Res.bind_ok, if_neg Bool.false_ne_true, nxS_ap, Res.bind_ok]
      dsimp only
      rw [seqS_ap, s4, Res.bind_ok]
      dsimp only
      rw [seqS_ap, e2', Res.bind_ok]
      dsimp only
      rw [seqS_ap, e5, Res.bind_ok]
      dsimp only
      have z2 : (!decide ([] ∈ ws) && (due rows ws).all fun x => decide (x ∈ ws)) = (due rows ws).all fun x => decide (x ∈ ws) := by simp [z]
      rw [z2]
      generalize ((due rows ws).map fun x => bl (decide (x ∈ ws))) = L at *
      generalize ((due rows ws).all fun x => decide (x ∈ ws)) = B at *
      generalize (due rows ws).map wd = T2 at *
      generalize ws.map wd = T at *
      simp [-lcE_ap, -Option.bind_some, -Option.bind_none, c4, f1]
  · have c : xs.all isW = false := by simpa using c
    rw [c] at c2
    have ea : accY rows xs = false := by unfold accY; rw [c]; rfl
    refine ⟨[.fz (.list (rows.map wd)), .fz (pairD v (xs.map itD)), .un, .un, .un, .un, .un, .un], ?_⟩
    unfold yesJ
    rw [seqS_ap, ifS_ap, eOr_ap, c2, ea]
    rfl
end K65
end
section
set_option autoImplicit false
set_option maxRecDepth 100000
set_option Elab.async false
set_option linter.all false
namespace K65
open PySem DL L2 SX
/-! ### papers -/
inductive Ppr where
  | nt (d : D)
  | one (d : D)
  | pr (v : Wd) (xs : List Itm)
  | bad (v : Wd) (d : D)
def pprD : Ppr → D
  | .nt d => d
  | .one d => .tuple [d]
  | .pr v xs => pairD v (xs.map itD)
  | .bad v d => .tuple [wd v, d]
def okP : Ppr → Prop
  | .nt d => isiD "tuple" d = some (.bool false)
  | .one _ => True
  | .pr v xs => okw v ∧ (∀ x ∈ xs, okI x) ∧ xs.length ≤ 100
  | .bad v d => okw v ∧ isiD "tuple" d = some (.bool false)
def pj (rows : List Wd) : Ppr → Bool
  | .pr v xs => acc rows v xs
  | _ => false
theorem judge_run {rows : List Wd} (h : OkR rows) {p : Ppr} (hp : okP p) : F_judge_code [.fz (.list (rows.map wd)), .fz (pprD p)] = .ok (.bool (pj rows p)) [.un, .un] := by
  have gj : g_judge_code = (seqS (ifS headJ (rtS (eC (.bool false))) nxS) (seqS (ifS (eT (e2 eqD (.g (e2 ixD (.b 1) (.g (eC (.int 0))))) (.g (eC (.str (Str.ofString "no")))))) noJ nxS) yesJ)) := rfl
  have key : ∃ r, g_judge_code [.fz (.list (rows.map wd)), .fz (pprD p), .un, .un, .un, .un, .un, .un] = .ok (.rt (.bool (pj rows p))) r := by
    rw [gj]
    cases p with
    | nt d =>
      have hp : isiD "tuple" d = some (.bool false) := hp
      refine ⟨[.fz (.list (rows.map wd)), .fz d, .un, .un, .un, .un, .un, .un], ?_⟩
      show _ = Res.ok (Fl.rt (.bool false)) _
      unfold headJ pprD
      simp [-Option.bind_some, -Option.bind_none, hp, truD]
    | one d =>
      refine ⟨[.fz (.list (rows.map wd)), .fz (.tuple [d]), .un, .un, .un, .un, .un, .un], ?_⟩
      show _ = Res.ok (Fl.rt (.bool false)) _
      have i1 : isiD "tuple" (.tuple [d]) = some (.bool true) := rfl
      have i3 : lenD (.tuple [d]) = some (.int 1) := rfl
      unfold headJ pprD
      simp [-Option.bind_some, -Option.bind_none, -len_tup, i1, i3, truD]
    | bad v d =>
      obtain ⟨hv, hd⟩ := hp
      refine ⟨[.fz (.list (rows.map wd)), .fz (.tuple [wd v, d]), .un, .un, .un, .un, .un, .un], ?_⟩
      show _ = Res.ok (Fl.rt (.bool false)) _
      have i1 : isiD "tuple" (.tuple [wd v, d]) = some (.bool true) := rfl
      have i3 : lenD (.tuple [wd v, d]) = some (.int 2) := rfl
      have i6 := ninT2 hv
      unfold headJ pprD
      by_cases c : v = yesW ∨ v = noW
      · simp only [c, decide_true, Bool.not_true] at i6
        simp [-Option.bind_some, -Option.bind_none, -len_tup, truD, i1, i3, i6, hd, yes_wd, no_wd]
      · simp only [c, decide_false, Bool.not_false] at i6
        simp [-Option.bind_some, -Option.bind_none, -len_tup, truD, i1, i3, i6, hd, yes_wd, no_wd]
    | pr v xs =>
      obtain ⟨hv, hx, hl⟩ := hp
      have e0 : pj rows (.pr v xs) = acc rows v xs := rfl
      have e9 : pprD (.pr v xs) = pairD v (xs.map itD) := rfl
      rw [e0, e9]
      have hh := headJ_run hv (xs.map itD) (.fz (.list (rows.map wd))) .un .un .un .un .un .un
      have i4 := ix_pair0 v (xs.map itD)
      have t1 := eq_wd hv ok_no
      have c2 : eT (e2 eqD (.g (e2 ixD (.b 1) (.g (eC (.int 0))))) (.g (eC (.str (Str.ofString "no"))))) [.fz (.list (rows.map wd)), .fz (pairD v (xs.map itD)), .un, .un, .un, .un, .un, .un] = .ok (decide (v = noW)) [.fz (.list (rows.map wd)), .fz (pairD v (xs.map itD)), .un, .un, .un, .un, .un, .un] := by
        generalize xs.map itD = T at *
        simp [-Option.bind_some, -Option.bind_none, no_wd, i4, t1]
      by_cases c1 : v = noW
      · obtain ⟨r, e⟩ := noJ_run h v hx hl
        refine ⟨r, ?_⟩
        have c0 : v = yesW ∨ v = noW := .inr c1
        simp only [c0, decide_true, Bool.not_true] at hh
        simp only [c1, decide_true] at c2
        have ea : acc rows v xs = accN rows xs := by unfold acc; rw [if_pos c1]
        rw [ea]
        subst c1
        rw [seqS_ap, ifS_ap, hh, Res.bind_ok, if_neg Bool.false_ne_true, nxS_ap, Res.bind_ok]
        dsimp only
        rw [seqS_ap, ifS_ap, c2, Res.bind_ok, if_pos rfl, e]
        rfl
      · by_cases c3 : v = yesW
        · obtain ⟨r, e⟩ := yesJ_run h v hx hl
          refine ⟨r, ?_⟩
          have c0 : v = yesW ∨ v = noW := .inl c3
          simp only [c0, decide_true, Bool.not_true] at hh
          simp only [c1, decide_false] at c2
          have ea : acc rows v xs = accY rows xs := by unfold acc; rw [if_neg c1, if_pos c3]
          rw [ea, seqS_ap, ifS_ap, hh, Res.bind_ok, if_neg Bool.false_ne_true, nxS_ap, Res.bind_ok]
          dsimp only
          rw [seqS_ap, ifS_ap, c2, Res.bind_ok, if_neg Bool.false_ne_true, nxS_ap, Res.bind_ok]
          exact e
        · refine ⟨[.fz (.list (rows.map wd)), .fz (pairD v (xs.map itD)), .un, .un, .un, .un, .un, .un], ?_⟩
          have c0 : ¬ (v = yesW ∨ v = noW) := fun z => z.elim c3 c1
          simp only [c0, decide_false, Bool.not_false] at hh
          have ea : acc rows v xs = false := by unfold acc; rw [if_neg c1, if_neg c3]
          rw [ea, seqS_ap, ifS_ap, hh, Res.bind_ok, if_pos rfl]
          rfl
  exact frun (ds := [.list (rows.map wd), pprD p]) key
end K65
end
section
set_option autoImplicit false
set_option maxRecDepth 100000
set_option Elab.async false
set_option linter.all false
namespace K65
open PySem DL L2 SX
theorem ne_nilD {L : List D} (h : ∀ d ∈ L, okN 62 d) : neD (.list L) (.list []) = some (.bool (!L.isEmpty)) := by
  rw [neD_ok ((ok_list h).mono (by omega)) ((ok_list (n := 0) (ds := []) fun d hd => by simp at hd).mono (by omega))]
  cases L <;> rfl
theorem eq_nilD {L : List D} (h : ∀ d ∈ L, okN 62 d) : eqD (.list L) (.list []) = some (.bool L.isEmpty) := by
  rw [eqD_ok ((ok_list h).mono (by omega)) ((ok_list (n := 0) (ds := []) fun d hd => by simp at hd).mono (by omega))]
  cases L <;> rfl
def headA : Ev Bool := (eOr (eNot (e1 truD (.g (e1 (isiD "tuple") (.b 1))))) (eOr (eT (e2 neD (.g (e1 lenD (.b 1))) (.g (eC (.int 2))))) (eOr (eT (e2 notInD (.g (e2 ixD (.b 1) (.g (eC (.int 0))))) (.g (eFz (eLst [(eC (.str (Str.ofString "yes"))), (eC (.str (Str.ofString "no")))]))))) (eNot (e1 truD (.g (e1 (isiD "tuple") (.g (e2 ixD (.b 1) (.g (eC (.int 1))))))))))))
theorem headA_run {v : Wd} (hv : okw v) (T : List D) (R x2 x3 x4 x5 x6 x7 x8 : Sl) : headA [R, .fz (pairD v T), x2, x3, x4, x5, x6, x7, x8] = .ok (!decide (v = yesW ∨ v = noW)) [R, .fz (pairD v T), x2, x3, x4, x5, x6, x7, x8] := by
  have i1 : isiD "tuple" (pairD v T) = some (.bool true) := rfl
  have i2 : isiD "tuple" (.tuple T) = some (.bool true) := rfl
  have i3 : lenD (pairD v T) = some (.int 2) := rfl
  have i4 := ix_pair0 v T
  have i5 := ix_pair1 v T
  have i6 := ninL2 hv
  unfold headA
  by_cases c : v = yesW ∨ v = noW
  · simp only [c, decide_true, Bool.not_true] at i6 ⊢
    simp [-Option.bind_some, -Option.bind_none, truD, i1, i2, i3, i4, i5, i6, yes_wd, no_wd]
  · simp only [c, decide_false, Bool.not_false] at i6 ⊢
    simp [-Option.bind_some, -Option.bind_none, truD, i1, i2, i3, i4, i5, i6, yes_wd, no_wd]
def noA : Ev Fl := (seqS (ifS (eOr (eT (e2 neD (.g (e1 lenD (.g (e2 ixD (.b 1) (.g (eC (.int 1))))))) (.g (eC (.int 2))))) (eT (e2 neD (.g (eFz (lcE (eIt (e2 ixD (.b 1) (.g (eC (.int 1))))) (tgN 2) (eNot (e1 truD (.g (e1 (isiD "tuple") (.b 2))))) (eV 2) [2]))) (.g (eFz (eLst []))))))
    (rtS (eC (.bool false)))
    nxS)
    (seqS (forS (eIt (e2 ixD (.b 1) (.g (eC (.int 1))))) (tgN 2) B__law_accepts_1)
    (seqS (setO 3 (lcE (eIt (e2 ixD (.b 1) (.g (eC (.int 1))))) (tgN 2) yesT (eM1 joinD (eC (.str (Str.ofString ""))) (.g (eFz (lcE (eIt (eV 2)) (tgN 7) yesT (e2 ixD (.b 0) (.b 7)) [7])))) [2]))
    (rtS (eAndV (e2 eqD (.g (e2 ixD (.b 3) (.g (eC (.int 0))))) (.g (e2 ixD (.b 3) (.g (eC (.int 1)))))) (e2 neD (.g (e2 ixD (.g (e2 ixD (.b 1) (.g (eC (.int 1))))) (.g (eC (.int 0))))) (.g (e2 ixD (.g (e2 ixD (.b 1) (.g (eC (.int 1))))) (.g (eC (.int 1)))))))))))
theorem txtA_run {rows : List Wd} (h : OkR rows) {l : List Int} (hl : l.length ≤ 1000) (hr : l.all (inR rows.length) = true) (x1 x3 x4 x5 x6 x8 : Sl) : eM1 joinD (eC (.str (Str.ofString ""))) (.g (eFz (lcE (eIt (eV 2)) (tgN 7) yesT (e2 ixD (.b 0) (.b 7)) [7]))) [.fz (.list (rows.map wd)), x1, .fz (.tuple (l.map PyData.int)), x3, x4, x5, x6, .un, x8] = .ok (wd (txt rows l)) [.fz (.list (rows.map wd)), x1, .fz (.tuple (l.map PyData.int)), x3, x4, x5, x6, .un, x8] := by
  have c1 : lcE (eIt (eV 2)) (tgN 7) yesT (e2 ixD (.b 0) (.b 7)) [7] [.fz (.list (rows.map wd)), x1, .fz (.tuple (l.map PyData.int)), x3, x4, x5, x6, .un, x8] = .ok (.ls (l.map fun i => wd (rows.getD i.toNat []))) [.fz (.list (rows.map wd)), x1, .fz (.tuple (l.map PyData.int)), x3, x4, x5, x6, .un, x8] := by
    refine lcE_map PyData.int (fun i => wd (rows.getD i.toNat [])) l (ρ1 := [.fz (.list (rows.map wd)), x1, .fz (.tuple (l.map PyData.int)), x3, x4, x5, x6, .un, x8]) (by simp) rfl (by omega) fun i hi => ?_
    obtain ⟨w, q1, q2, _⟩ := at_row (List.all_eq_true.mp hr i hi)
    refine ⟨[.fz (.list (rows.map wd)), x1, .fz (.tuple (l.map PyData.int)), x3, x4, x5, x6, .fz (.int i), x8], rfl, rfl, ?_⟩
    show _ = Res.ok (wd (rows.getD i.toNat [])) _
    rw [q2]
    simp [-Option.bind_some, -Option.bind_none, -DL.ix_list, q1]
  have sl := txt_len h hr
  have j1 := join_wd (l.map fun i => rows.getD i.toNat []) (by omega)
  rw [List.map_map] at j1
  have j1 : joinD (Str.ofString "") (.list (l.map fun i => wd (rows.getD i.toNat []))) = some (wd (txt rows l)) := j1
  generalize (l.map fun i => wd (rows.getD i.toNat [])) = L at *
  simp [-lcE_ap, -Option.bind_some, -Option.bind_none, c1, j1]
theorem filt_all {α : Type} (p : α → Bool) (f : α → D) : ∀ l : List α, ((l.filter fun i => !p i).map f).isEmpty = l.all p
  | [] => rfl
  | i :: l => by
    cases c : p i with
    | true =>
      rw [List.filter_cons_of_neg (by simp [c]), List.all_cons, c, Bool.true_and]
      exact filt_all p f l
    | false =>
      rw [List.filter_cons_of_pos (by simp [c]), List.all_cons, c]
      rfl
/-- a way is looked at -/
theorem wayA_run {rows : List Wd} {l : List Int} (hl : l.length ≤ 1000) (x1 x3 x4 x5 x6 x8 : Sl) : B__law_accepts_1 [.fz (.list (rows.map wd)), x1, .fz (.tuple (l.map PyData.int)), x3, x4, x5, x6, .un, x8] = .ok (if l.all (inR rows.length) = true then .nx else .rt (.bool false)) [.fz (.list (rows.map wd)), x1, .fz (.tuple (l.map PyData.int)), x3, x4, x5, x6, .un, x8] := by
  have c1 : lcE (eIt (eV 2)) (tgN 7) (eNot (e1 truD (.g (callE (F__law_is_number) [.g (eV 7), .g (e1 lenD (.b 0))])))) (eV 7) [7] [.fz (.list (rows.map wd)), x1, .fz (.tuple (l.map PyData.int)), x3, x4, x5, x6, .un, x8] = .ok (.ls ((l.filter fun i => !inR rows.length i).map PyData.int)) [.fz (.list (rows.map wd)), x1, .fz (.tuple (l.map PyData.int)), x3, x4, x5, x6, .un, x8] := by
    refine lcE_pure PyData.int (fun i => !inR rows.length i) PyData.int l (ρ1 := [.fz (.list (rows.map wd)), x1, .fz (.tuple (l.map PyData.int)), x3, x4, x5, x6, .un, x8]) (by simp) rfl (by omega) fun i hi => ?_
    have cl := call2 (F := F__law_is_number) (ga := eV 7) (gb := e1 lenD (.b 0)) (a := .int i) (b := .int (rows.length : Int)) (ρ := [.fz (.list (rows.map wd)), x1, .fz (.tuple (l.map PyData.int)), x3, x4, x5, x6, .fz (.int i), x8]) rfl (by simp [-Option.bind_some, -Option.bind_none]) (is_number_run rows.length i)
    refine ⟨[.fz (.list (rows.map wd)), x1, .fz (.tuple (l.map PyData.int)), x3, x4, x5, x6, .fz (.int i), x8], rfl, rfl, ?_, fun _ => by simp⟩
    simp [-callE_ap, -Option.bind_some, -Option.bind_none, cl, truD]
  have nn := ne_nilD (L := (l.filter fun i => !inR rows.length i).map PyData.int) fun d hd => by
    obtain ⟨i, _, rfl⟩ := List.mem_map.mp hd
    exact (ok_int i).mono (by omega)
  have em := filt_all (inR rows.length) PyData.int l
  rw [em] at nn
  unfold B__law_accepts_1
  generalize ((l.filter fun i => !inR rows.length i).map PyData.int) = L at *
  generalize l.all (inR rows.length) = B at *
  cases B with
  | true => simp [-lcE_ap, -Option.bind_some, -Option.bind_none, c1, nn]
  | false => simp [-lcE_ap, -Option.bind_some, -Option.bind_none, c1, nn]
theorem noA_run {rows : List Wd} (h : OkR rows) (v : Wd) {xs : List Itm} (hx : ∀ x ∈ xs, okI x) (hl : xs.length ≤ 100) : ∃ r, noA [.fz (.list (rows.map wd)), .fz (pairD v (xs.map itD)), .un, .un, .un, .un, .un, .un, .un] = .ok (.rt (.bool (accN rows xs))) r := by
  have i5 := ix_pair1 v (xs.map itD)
  by_cases c : xs.length = 2
  · obtain ⟨a, b, rfl⟩ : ∃ a b, xs = [a, b] := by
      match xs, c with
      | [a, b], _ => exact ⟨a, b, rfl⟩
    have c1 : lcE (eIt (e2 ixD (.b 1) (.g (eC (.int 1))))) (tgN 2) (eNot (e1 truD (.g (e1 (isiD "tuple") (.b 2))))) (eV 2) [2] [.fz (.list (rows.map wd)), .fz (pairD v ([a, b].map itD)), .un, .un, .un, .un, .un, .un, .un] = .ok (.ls (([a, b].filter fun x => !isT x).map itD)) [.fz (.list (rows.map wd)), .fz (pairD v ([a, b].map itD)), .un, .un, .un, .un, .un, .un, .un] := by
      refine lcE_pure itD (fun x => !isT x) itD [a, b] (ρ1 := [.fz (.list (rows.map wd)), .fz (pairD v ([a, b].map itD)), .un, .un, .un, .un, .un, .un, .un]) (by simp only [eIt_ap, e2_ap, opd_b, opd_g, eC_ap, Res.bind_ok, pk_ap, List.getElem?_cons_succ, List.getElem?_cons_zero, obind, pkf, fin_v, fin_d, ofO_some, i5, it_tup]) rfl (by simp) fun x _ => ?_
      have it := isi_tup x
      generalize [a, b].map itD = T at *
      refine ⟨[.fz (.list (rows.map wd)), .fz (pairD v T), .fz (itD x), .un, .un, .un, .un, .un, .un], rfl, rfl, ?_, fun _ => by simp⟩
      simp [-Option.bind_some, -Option.bind_none, it, truD]
    have nn := ne_nilD (L := ([a, b].filter fun x => !isT x).map itD) fun d hd => by
      obtain ⟨x, mx, rfl⟩ := List.mem_map.mp hd
      exact (ok_itD (hx x (List.mem_filter.mp mx).1)).mono (by omega)
    have em := filt_all isT itD [a, b]
    rw [em] at nn
    have c0 : eT (e2 neD (.g (e1 lenD (.g (e2 ixD (.b 1) (.g (eC (.int 1))))))) (.g (eC (.int 2)))) [.fz (.list (rows.map wd)), .fz (pairD v ([a, b].map itD)), .un, .un, .un, .un, .un, .un, .un] = .ok false [.fz (.list (rows.map wd)), .fz (pairD v ([a, b].map itD)), .un, .un, .un, .un, .un, .un, .un] := by
      have l2 : lenD (.tuple ([a, b].map itD)) = some (.int 2) := rfl
      generalize ([a, b].map itD) = T at *
      simp [-Option.bind_some, -Option.bind_none, -len_tup, i5, l2]
    have c2 : eT (e2 neD (.g (eFz (lcE (eIt (e2 ixD (.b 1) (.g (eC (.int 1))))) (tgN 2) (eNot (e1 truD (.g (e1 (isiD "tuple") (.b 2))))) (eV 2) [2]))) (.g (eFz (eLst [])))) [.fz (.list (rows.map wd)), .fz (pairD v ([a, b].map itD)), .un, .un, .un, .un, .un, .un, .un] = .ok (!([a, b].all isT)) [.fz (.list (rows.map wd)), .fz (pairD v ([a, b].map itD)), .un, .un, .un, .un, .un, .un, .un] := by
      generalize ([a, b].filter fun x => !isT x).map itD = L at *
      generalize ([a, b].map itD) = T at *
      generalize [a, b].all isT = B at *
      simp [-lcE_ap, -Option.bind_some, -Option.bind_none, c1, nn]
    unfold noA
    by_cases q : [a, b].all isT = true
    · rw [q] at c2
      obtain ⟨l, m, rfl, rfl⟩ : ∃ l m, a = .tup l ∧ b = .tup m := by
        cases a with
        | tup l =>
          cases b with
          | tup m => exact ⟨l, m, rfl, rfl⟩
          | int _ => cases q
          | w _ => cases q
          | non => cases q
          | ls _ => cases q
        | int _ => cases q
        | w _ => cases q
        | non => cases q
        | ls _ => cases q
      have hl1 : l.length ≤ 1000 := hx (.tup l) (by simp)
      have hm1 : m.length ≤ 1000 := hx (.tup m) (by simp)
      have i1 : eIt (e2 ixD (.b 1) (.g (eC (.int 1)))) [.fz (.list (rows.map wd)), .fz (pairD v ([Itm.tup l, Itm.tup m].map itD)), .un, .un, .un, .un, .un, .un, .un] = .ok [.tuple (l.map PyData.int), .tuple (m.map PyData.int)] [.fz (.list (rows.map wd)), .fz (pairD v ([Itm.tup l, Itm.tup m].map itD)), .un, .un, .un, .un, .un, .un, .un] := by
        simp only [eIt_ap, e2_ap, opd_b, opd_g, eC_ap, Res.bind_ok, pk_ap, List.getElem?_cons_succ, List.getElem?_cons_zero, obind, pkf, fin_v, fin_d, ofO_some, i5, it_tup]
        rfl
      have w1 := wayA_run (rows := rows) hl1 (.fz (pairD v ([Itm.tup l, Itm.tup m].map itD))) .un .un .un .un .un
      have w2 := wayA_run (rows := rows) hm1 (.fz (pairD v ([Itm.tup l, Itm.tup m].map itD))) .un .un .un .un .un
      have lp : forS (eIt (e2 ixD (.b 1) (.g (eC (.int 1))))) (tgN 2) B__law_accepts_1 [.fz (.list (rows.map wd)), .fz (pairD v ([Itm.tup l, Itm.tup m].map itD)), .un, .un, .un, .un, .un, .un, .un] = (B__law_accepts_1 [.fz (.list (rows.map wd)), .fz (pairD v ([Itm.tup l, Itm.tup m].map itD)), .fz (.tuple (l.map PyData.int)), .un, .un, .un, .un, .un, .un]).bind fun f r2 => match f with
        | .nx => loopS (tgN 2) B__law_accepts_1 [.tuple (m.map PyData.int)] r2
        | .ct => loopS (tgN 2) B__law_accepts_1 [.tuple (m.map PyData.int)] r2
        | .bk => .ok .nx r2
        | .rt v => .ok (.rt v) r2 := by
        rw [forS_ap, i1, Res.bind_ok]
        rfl
      rw [seqS_ap, ifS_ap, eOr_ap, c0, Res.bind_ok, if_neg Bool.false_ne_true, c2, Res.bind_ok, if_neg (by simp), nxS_ap, Res.bind_ok]
      dsimp only
      rw [seqS_ap, lp, w1]
      cases qa : l.all (inR rows.length) with
      | false =>
        refine ⟨[.fz (.list (rows.map wd)), .fz (pairD v ([Itm.tup l, Itm.tup m].map itD)), .fz (.tuple (l.map PyData.int)), .un, .un, .un, .un, .un, .un], ?_⟩
        have e : accN rows [.tup l, .tup m] = false := by simp [accN, qa]
        rw [e, if_neg Bool.false_ne_true]
        rfl
      | true =>
        rw [if_pos rfl, Res.bind_ok]
        have lp2 : loopS (tgN 2) B__law_accepts_1 [.tuple (m.map PyData.int)] [.fz (.list (rows.map wd)), .fz (pairD v ([Itm.tup l, Itm.tup m].map itD)), .fz (.tuple (l.map PyData.int)), .un, .un, .un, .un, .un, .un] = (B__law_accepts_1 [.fz (.list (rows.map wd)), .fz (pairD v ([Itm.tup l, Itm.tup m].map itD)), .fz (.tuple (m.map PyData.int)), .un, .un, .un, .un, .un, .un]).bind fun f r2 => match f with
          | .nx => .ok .nx r2
          | .ct => .ok .nx r2
          | .bk => .ok .nx r2
          | .rt v => .ok (.rt v) r2 := rfl
        dsimp only
        rw [lp2, w2]
        cases qb : m.all (inR rows.length) with
        | false =>
          refine ⟨[.fz (.list (rows.map wd)), .fz (pairD v ([Itm.tup l, Itm.tup m].map itD)), .fz (.tuple (m.map PyData.int)), .un, .un, .un, .un, .un, .un], ?_⟩
          have e : accN rows [.tup l, .tup m] = false := by simp [accN, qb]
          rw [e, if_neg Bool.false_ne_true]
          rfl
        | true =>
          rw [if_pos rfl, Res.bind_ok]
          dsimp only
          rw [Res.bind_ok]
          dsimp only
          have c4 : lcE (eIt (e2 ixD (.b 1) (.g (eC (.int 1))))) (tgN 2) yesT (eM1 joinD (eC (.str (Str.ofString ""))) (.g (eFz (lcE (eIt (eV 2)) (tgN 7) yesT (e2 ixD (.b 0) (.b 7)) [7])))) [2] [.fz (.list (rows.map wd)), .fz (pairD v ([Itm.tup l, Itm.tup m].map itD)), .fz (.tuple (m.map PyData.int)), .un, .un, .un, .un, .un, .un] = .ok (.ls ([l, m].map fun l => wd (txt rows l))) [.fz (.list (rows.map wd)), .fz (pairD v ([Itm.tup l, Itm.tup m].map itD)), .un, .un, .un, .un, .un, .un, .un] := by
            refine lcE_map (fun l : List Int => PyData.tuple (l.map PyData.int)) (fun l => wd (txt rows l)) [l, m] (ρ1 := [.fz (.list (rows.map wd)), .fz (pairD v ([Itm.tup l, Itm.tup m].map itD)), .fz (.tuple (m.map PyData.int)), .un, .un, .un, .un, .un, .un]) (by simp only [eIt_ap, e2_ap, opd_b, opd_g, eC_ap, Res.bind_ok, pk_ap, List.getElem?_cons_succ, List.getElem?_cons_zero, obind, pkf, fin_v, fin_d, ofO_some, i5, it_tup]; rfl) rfl (by simp) fun k hk => ?_
            have hk2 : k.length ≤ 1000 ∧ k.all (inR rows.length) = true := by
              simp only [List.mem_cons, List.not_mem_nil, or_false] at hk
              rcases hk with rfl | rfl
              · exact ⟨hl1, qa⟩
              · exact ⟨hm1, qb⟩
            exact ⟨[.fz (.list (rows.map wd)), .fz (pairD v ([Itm.tup l, Itm.tup m].map itD)), .fz (.tuple (k.map PyData.int)), .un, .un, .un, .un, .un, .un], rfl, rfl, txtA_run h hk2.1 hk2.2 _ _ _ _ _ _⟩
          have s3 : setO 3 (lcE (eIt (e2 ixD (.b 1) (.g (eC (.int 1))))) (tgN 2) yesT (eM1 joinD (eC (.str (Str.ofString ""))) (.g (eFz (lcE (eIt (eV 2)) (tgN 7) yesT (e2 ixD (.b 0) (.b 7)) [7])))) [2]) [.fz (.list (rows.map wd)), .fz (pairD v ([Itm.tup l, Itm.tup m].map itD)), .fz (.tuple (m.map PyData.int)), .un, .un, .un, .un, .un, .un] = .ok .nx [.fz (.list (rows.map wd)), .fz (pairD v ([Itm.tup l, Itm.tup m].map itD)), .un, .ow false (.ls [wd (txt rows l), wd (txt rows m)]), .un, .un, .un, .un, .un] := by
            rw [setO_ap, c4]
            rfl
          have t2 := eq_long (txt_cp h qa) (txt_cp h qb)
          have t3 := ne_tup l m
          refine ⟨[.fz (.list (rows.map wd)), .fz (pairD v ([Itm.tup l, Itm.tup m].map itD)), .un, .ow false (.ls [wd (txt rows l), wd (txt rows m)]), .un, .un, .un, .un, .un], ?_⟩
          rw [seqS_ap, s3, Res.bind_ok]
          dsimp only
          have x0 : ixD (.tuple ([Itm.tup l, Itm.tup m].map itD)) (.int 0) = some (.tuple (l.map PyData.int)) := rfl
          have x1 : ixD (.tuple ([Itm.tup l, Itm.tup m].map itD)) (.int 1) = some (.tuple (m.map PyData.int)) := rfl
          have y0 : ixD (.list [wd (txt rows l), wd (txt rows m)]) (.int 0) = some (wd (txt rows l)) := rfl
          have y1 : ixD (.list [wd (txt rows l), wd (txt rows m)]) (.int 1) = some (wd (txt rows m)) := rfl
          have e : accN rows [.tup l, .tup m] = (!decide (l = m) && decide (txt rows l = txt rows m)) := by simp [accN, qa, qb]
          rw [e]
          generalize ([Itm.tup l, Itm.tup m].map itD) = T at *
          clear c4 s3
          generalize txt rows l = A at *
          generalize txt rows m = B at *
          by_cases z : A = B
          · subst z
            simp only [decide_true, Bool.and_true] at t2 ⊢
            simp [-Option.bind_some, -Option.bind_none, -DL.ix_tup, -DL.ix_list, i5, x0, x1, y0, y1, t2, t3]
          · simp only [z, decide_false, Bool.and_false] at t2 ⊢
            simp [-Option.bind_some, -Option.bind_none, -DL.ix_tup, -DL.ix_list, i5, x0, x1, y0, y1, t2, t3]
    · have q : [a, b].all isT = false := by simpa using q
      rw [q] at c2
      have e : accN rows [a, b] = false := by
        cases a with
        | tup l =>
          cases b with
          | tup m => cases q
          | int _ => rfl
          | w _ => rfl
          | non => rfl
          | ls _ => rfl
        | int _ => rfl
        | w _ => rfl
        | non => rfl
        | ls _ => rfl
      refine ⟨[.fz (.list (rows.map wd)), .fz (pairD v ([a, b].map itD)), .un, .un, .un, .un, .un, .un, .un], ?_⟩
      rw [seqS_ap, ifS_ap, eOr_ap, c0, Res.bind_ok, if_neg Bool.false_ne_true, c2, e]
      rfl
  · have e : accN rows xs = false := by
      unfold accN
      split
      · exact absurd rfl c
      · rfl
    have c0 : eT (e2 neD (.g (e1 lenD (.g (e2 ixD (.b 1) (.g (eC (.int 1))))))) (.g (eC (.int 2)))) [.fz (.list (rows.map wd)), .fz (pairD v (xs.map itD)), .un, .un, .un, .un, .un, .un, .un] = .ok true [.fz (.list (rows.map wd)), .fz (pairD v (xs.map itD)), .un, .un, .un, .un, .un, .un, .un] := by
      have l2 : lenD (.tuple (xs.map itD)) = some (.int (xs.length : Int)) := by rw [len_tup, List.length_map]
      have l3 : ¬ ((xs.length : Int) = 2) := by omega
      simp [-Option.bind_some, -Option.bind_none, -len_tup, i5, l2, l3]
    refine ⟨[.fz (.list (rows.map wd)), .fz (pairD v (xs.map itD)), .un, .un, .un, .un, .un, .un, .un], ?_⟩
    unfold noA
    rw [seqS_ap, ifS_ap, eOr_ap, c0, e]
    rfl
end K65
end
section
set_option autoImplicit false
set_option maxRecDepth 100000
set_option Elab.async false
set_option linter.all false
namespace K65
open PySem DL L2 SX
def yesA : Ev Fl := (seqS (ifS (eT (e2 neD (.g (eFz (lcE (eIt (e2 ixD (.b 1) (.g (eC (.int 1))))) (tgN 6) (eOr (eNot (e1 truD (.g (e1 (isiD "str") (.b 6))))) (eT (e2 eqD (.b 6) (.g (eC (.str (Str.ofString ""))))))) (eV 6) [6]))) (.g (eFz (eLst [])))))
    (rtS (eC (.bool false)))
    nxS)
    (seqS (setO 4 (eLst []))
    (seqS (forS (eIt (eV 0)) (tgN 5) B__law_accepts_2)
    (seqS (forS (eIt (e2 ixD (.b 1) (.g (eC (.int 1))))) (tgN 6) B__law_accepts_3)
    (rtS (e2 eqD (.g (eFz (lcE (eIt (eV 4)) (tgN 6) (eT (e2 notInD (.b 6) (.g (e2 ixD (.b 1) (.g (eC (.int 1))))))) (eV 6) [6]))) (.g (eFz (eLst [])))))))))
def goodI : Itm → Bool
  | .w w => !decide (w = [])
  | _ => false
theorem goodI_all (xs : List Itm) : xs.all goodI = (xs.all isW && !decide ([] ∈ wds xs)) := by
  induction xs with
  | nil => rfl
  | cons x xs ih =>
    rw [List.all_cons, ih, List.all_cons]
    cases x with
    | w w =>
      have e : wds (.w w :: xs) = w :: wds xs := rfl
      rw [e]
      show (!decide (w = []) && _) = (true && xs.all isW && _)
      by_cases c : w = []
      · simp [c]
      · have c2 : ¬ [] = w := fun z => c z.symm
        simp [c, c2]
    | int _ => rfl
    | non => rfl
    | tup _ => rfl
    | ls _ => rfl
theorem aloop1 {rows : List Wd} (h : OkR rows) (P : Sl) : ∃ x, Loose x ∧ forS (eIt (eV 0)) (tgN 5) B__law_accepts_2 [.fz (.list (rows.map wd)), P, .un, .un, .ow false (.ls []), .un, .un, .un, .un] = .ok .nx [.fz (.list (rows.map wd)), P, .un, .un, .ow false (.ls ((ini rows).map wd)), x, .un, .un, .un] := by
  have n5 := h.few
  obtain ⟨ρ', e, x, lx, rfl⟩ := loop_pre (t := tgN 5) (b := B__law_accepts_2) wd (fun d ρ => ∃ x, Loose x ∧ ρ = [.fz (.list (rows.map wd)), P, .un, .un, .ow false (.ls ((iniP rows d).map wd)), x, .un, .un, .un]) rows [] [.fz (.list (rows.map wd)), P, .un, .un, .ow false (.ls []), .un, .un, .un, .un] ⟨.un, .un, rfl⟩ fun d a rr ρ q i => by
    obtain ⟨x, lx, rfl⟩ := i
    have q : rows = d ++ a :: rr := q
    have ha : a ∈ rows := by rw [q]; simp
    have oa := h.ok ha
    have ld : d.length ≤ 5 := by rw [q] at n5; simp at n5; omega
    have lf := iniP_len h d ld
    have o1 := oa.1
    refine ⟨[.fz (.list (rows.map wd)), P, .un, .un, .ow false (.ls ((iniP rows d).map wd)), .fz (wd a), .un, .un, .un], [.fz (.list (rows.map wd)), P, .un, .un, .ow false (.ls ((iniP rows (d ++ [a])).map wd)), .fz (wd a), .un, .un, .un], ?_, ?_, .fz (wd a), .fz _, rfl⟩
    · show sto _ 5 _ = _
      rw [sto_loose (x := x) (Eq.trans rfl rfl) lx]
      rfl
    · have c1 : ∀ y, lcE (eIt (eV 0)) (tgN 8) (eAnd (eT (e2 neD (.b 8) (.b 5))) (eT (e2 eqD (.g (eSl slD (.b 8) none (some (e1 lenD (.b 5))))) (.b 5)))) (eSl slD (.b 8) (some (e1 lenD (.b 5))) none) [8] [.fz (.list (rows.map wd)), P, .un, .un, y, .fz (wd a), .un, .un, .un] = .ok (.ls ((rows.filter fun b => !decide (b = a) && decide (a <+: b)).map fun b => wd (b.drop a.length))) [.fz (.list (rows.map wd)), P, .un, .un, y, .fz (wd a), .un, .un, .un] := fun y => by
        refine lcE_pure wd (fun b => !decide (b = a) && decide (a <+: b)) (fun b => wd (b.drop a.length)) rows (ρ1 := [.fz (.list (rows.map wd)), P, .un, .un, y, .fz (wd a), .un, .un, .un]) (by simp) rfl (by omega) fun b hb => ?_
        have ob := h.ok hb
        have o2 := ob.1
        have t1 := ne_wd ob oa
        have t2 := sl_to b a.length (by omega)
        have t3 := sl_from b a.length (by omega)
        have t4 := len_wd a (by omega)
        have t5 := eq_wd (ob.take a.length) oa
        rw [pre_take] at t5
        refine ⟨[.fz (.list (rows.map wd)), P, .un, .un, y, .fz (wd a), .un, .un, .fz (wd b)], rfl, rfl, ?_, fun q => ?_⟩
        · by_cases c : b = a
          · simp [-Option.bind_some, -Option.bind_none, t1, c]
            rw [c] at t1
            simp [t1]
          · simp [-Option.bind_some, -Option.bind_none, t1, c, eSl, optE, t2, t4, t5]
        · simp [-Option.bind_some, -Option.bind_none, t3, t4, eSl, optE]
      have em : (iniP rows (d ++ [a])).map wd = (iniP rows d).map wd ++ (rows.filter fun b => !decide (b = a) && decide (a <+: b)).map fun b => wd (b.drop a.length) := by
        unfold iniP; simp [Function.comp_def]
      have l2 : (rows.filter fun b => !decide (b = a) && decide (a <+: b)).length ≤ rows.length := List.length_filter_le _ _
      have lz : (iniP rows d).length + (rows.filter fun b => !decide (b = a) && decide (a <+: b)).length ≤ 16777216 := by omega
      rw [em]
      unfold B__law_accepts_2
      generalize (rows.filter fun b => !decide (b = a) && decide (a <+: b)) = F at *
      simp [-lcE_ap, -Option.bind_some, -Option.bind_none, c1, catO, lz]
  refine ⟨x, lx, ?_⟩
  have i1 : eIt (eV 0) [.fz (.list (rows.map wd)), P, .un, .un, .ow false (.ls []), .un, .un, .un, .un] = .ok (rows.map wd) [.fz (.list (rows.map wd)), P, .un, .un, .ow false (.ls []), .un, .un, .un, .un] := by simp
  rw [forS_ap, i1, Res.bind_ok]
  exact e
def dueL (rows : List Wd) (ws : List Wd) : List Wd := ini rows ++ (ws.map (rstL rows)).flatten
theorem mem_dueL {rows ws : List Wd} {x : Wd} : x ∈ dueL rows ws ↔ x ∈ due rows ws := by
  unfold dueL due
  simp only [List.mem_append, List.mem_flatten, List.mem_map]
  constructor
  · rintro (q | ⟨_, ⟨r, hr, rfl⟩, q⟩)
    · exact .inl q
    · exact .inr ⟨_, ⟨r, hr, rfl⟩, mem_rstL.mp q⟩
  · rintro (q | ⟨_, ⟨r, hr, rfl⟩, q⟩)
    · exact .inl q
    · exact .inr ⟨_, ⟨r, hr, rfl⟩, mem_rstL.mpr q⟩
theorem aloop2 {rows : List Wd} (h : OkR rows) (v : Wd) {ws : List Wd} (hw : ∀ w ∈ ws, okw w) (hl : ws.length ≤ 100) (x5 : Sl) : ∃ x, Loose x ∧ forS (eIt (e2 ixD (.b 1) (.g (eC (.int 1))))) (tgN 6) B__law_accepts_3 [.fz (.list (rows.map wd)), .fz (pairD v (ws.map wd)), .un, .un, .ow false (.ls ((ini rows).map wd)), x5, .un, .un, .un] = .ok .nx [.fz (.list (rows.map wd)), .fz (pairD v (ws.map wd)), .un, .un, .ow false (.ls ((dueL rows ws).map wd)), x5, x, .un, .un] := by
  have n5 := h.few
  have li := iniP_len h rows h.few
  rw [iniP_rows] at li
  obtain ⟨ρ', e, x, lx, rfl⟩ := loop_pre (t := tgN 6) (b := B__law_accepts_3) wd (fun d ρ => ∃ x, Loose x ∧ ρ = [.fz (.list (rows.map wd)), .fz (pairD v (ws.map wd)), .un, .un, .ow false (.ls ((dueL rows d).map wd)), x5, x, .un, .un]) ws [] [.fz (.list (rows.map wd)), .fz (pairD v (ws.map wd)), .un, .un, .ow false (.ls ((ini rows).map wd)), x5, .un, .un, .un] ⟨.un, .un, by simp [dueL]⟩ fun d a rr ρ q i => by
    obtain ⟨x, lx, rfl⟩ := i
    have q : ws = d ++ a :: rr := q
    have ha : a ∈ ws := by rw [q]; simp
    have ld : d.length ≤ 100 := by rw [q] at hl; simp at hl; omega
    have rr := law_rests_run h (hw a ha)
    have l2 := rstL_len h a
    have lf := flat_len (rstL rows) 10 (rstL_len h) d
    have em : dueL rows (d ++ [a]) = dueL rows d ++ rstL rows a := by unfold dueL; simp
    have lz : (dueL rows d).length + (rstL rows a).length ≤ 16777216 := by unfold dueL; rw [List.length_append]; omega
    rw [em]
    generalize dueL rows d = C at *
    have ecall := call2 (F := F__law_rests) (ga := eV 0) (gb := eV 6) (ρ := [.fz (.list (rows.map wd)), .fz (pairD v (ws.map wd)), .un, .un, .ow false (.ls (C.map wd)), x5, .fz (wd a), .un, .un]) rfl rfl rr
    refine ⟨[.fz (.list (rows.map wd)), .fz (pairD v (ws.map wd)), .un, .un, .ow false (.ls (C.map wd)), x5, .fz (wd a), .un, .un], [.fz (.list (rows.map wd)), .fz (pairD v (ws.map wd)), .un, .un, .ow false (.ls ((C ++ rstL rows a).map wd)), x5, .fz (wd a), .un, .un], ?_, ?_, .fz (wd a), .fz _, rfl⟩
    · show sto _ 6 _ = _
      rw [sto_loose (x := x) (Eq.trans rfl rfl) lx]
      rfl
    · unfold B__law_accepts_3
      rw [List.map_append]
      simp [-callE_ap, -Option.bind_some, -Option.bind_none, ecall, catO, lz]
  refine ⟨x, lx, ?_⟩
  have i5 := ix_pair1 v (ws.map wd)
  have i1 : eIt (e2 ixD (.b 1) (.g (eC (.int 1)))) [.fz (.list (rows.map wd)), .fz (pairD v (ws.map wd)), .un, .un, .ow false (.ls ((ini rows).map wd)), x5, .un, .un, .un] = .ok (ws.map wd) [.fz (.list (rows.map wd)), .fz (pairD v (ws.map wd)), .un, .un, .ow false (.ls ((ini rows).map wd)), x5, .un, .un, .un] := by
    simp only [eIt_ap, e2_ap, opd_b, opd_g, eC_ap, Res.bind_ok, pk_ap, List.getElem?_cons_succ, List.getElem?_cons_zero, obind, pkf, fin_v, fin_d, ofO_some, i5, it_tup]
  rw [forS_ap, i1, Res.bind_ok]
  exact e
theorem ninT_wd {a : Wd} {l : List Wd} (h1 : okw a) (h2 : ∀ x ∈ l, okw x) : notInD (wd a) (.tuple (l.map wd)) = some (.bool (!decide (a ∈ l))) := by
  have hx : ∀ x ∈ l.map wd, okN 63 x := fun x hx => by
    obtain ⟨y, hy, rfl⟩ := List.mem_map.mp hx
    exact (ok_wd (h2 y hy)).mono (by omega)
  rw [ninT_ok ((ok_wd h1).mono (by omega)) hx, inAny_mem enc_wd _ _ inferInstance]
theorem yesA_run {rows : List Wd} (h : OkR rows) (v : Wd) {xs : List Itm} (hx : ∀ x ∈ xs, okI x) (hl : xs.length ≤ 100) : ∃ r, yesA [.fz (.list (rows.map wd)), .fz (pairD v (xs.map itD)), .un, .un, .un, .un, .un, .un, .un] = .ok (.rt (.bool (accY rows xs))) r := by
  have i5 := ix_pair1 v (xs.map itD)
  have c1 : lcE (eIt (e2 ixD (.b 1) (.g (eC (.int 1))))) (tgN 6) (eOr (eNot (e1 truD (.g (e1 (isiD "str") (.b 6))))) (eT (e2 eqD (.b 6) (.g (eC (.str (Str.ofString ""))))))) (eV 6) [6] [.fz (.list (rows.map wd)), .fz (pairD v (xs.map itD)), .un, .un, .un, .un, .un, .un, .un] = .ok (.ls ((xs.filter fun x => !goodI x).map itD)) [.fz (.list (rows.map wd)), .fz (pairD v (xs.map itD)), .un, .un, .un, .un, .un, .un, .un] := by
    refine lcE_pure itD (fun x => !goodI x) itD xs (ρ1 := [.fz (.list (rows.map wd)), .fz (pairD v (xs.map itD)), .un, .un, .un, .un, .un, .un, .un]) (by simp only [eIt_ap, e2_ap, opd_b, opd_g, eC_ap, Res.bind_ok, pk_ap, List.getElem?_cons_succ, List.getElem?_cons_zero, obind, pkf, fin_v, fin_d, ofO_some, i5, it_tup]) rfl (by omega) fun x hx' => ?_
    refine ⟨[.fz (.list (rows.map wd)), .fz (pairD v (xs.map itD)), .un, .un, .un, .un, .fz (itD x), .un, .un], rfl, rfl, ?_, fun _ => by simp⟩
    have it := isi_str x
    generalize xs.map itD = T at *
    cases x with
    | w w =>
      have t1 := eq_wd (hx _ hx' : okw w) (⟨by simp, fun c hc => by simp at hc⟩ : okw [])
      have it : isiD "str" (wd w) = some (.bool true) := it
      show _ = Res.ok (!(!decide (w = []))) _
      simp [-Option.bind_some, -Option.bind_none, itD, it, t1, truD, em_wd]
    | int i =>
      have it : isiD "str" (.int i) = some (.bool false) := it
      show _ = Res.ok true _
      simp [-Option.bind_some, -Option.bind_none, itD, it, truD]
    | non =>
      have it : isiD "str" .none = some (.bool false) := it
      show _ = Res.ok true _
      simp [-Option.bind_some, -Option.bind_none, itD, it, truD]
    | tup l =>
      have it : isiD "str" (.tuple (l.map PyData.int)) = some (.bool false) := it
      show _ = Res.ok true _
      simp [-Option.bind_some, -Option.bind_none, itD, it, truD]
    | ls ds =>
      have it : isiD "str" (.list ds) = some (.bool false) := it
      show _ = Res.ok true _
      simp [-Option.bind_some, -Option.bind_none, itD, it, truD]
  have nn := ne_nilD (L := (xs.filter fun x => !goodI x).map itD) fun d hd => by
    obtain ⟨x, mx, rfl⟩ := List.mem_map.mp hd
    exact (ok_itD (hx x (List.mem_filter.mp mx).1)).mono (by omega)
  rw [filt_all goodI itD xs] at nn
  have c2 : eT (e2 neD (.g (eFz (lcE (eIt (e2 ixD (.b 1) (.g (eC (.int 1))))) (tgN 6) (eOr (eNot (e1 truD (.g (e1 (isiD "str") (.b 6))))) (eT (e2 eqD (.b 6) (.g (eC (.str (Str.ofString ""))))))) (eV 6) [6]))) (.g (eFz (eLst [])))) [.fz (.list (rows.map wd)), .fz (pairD v (xs.map itD)), .un, .un, .un, .un, .un, .un, .un] = .ok (!xs.all goodI) [.fz (.list (rows.map wd)), .fz (pairD v (xs.map itD)), .un, .un, .un, .un, .un, .un, .un] := by
    generalize (xs.filter fun x => !goodI x).map itD = L at *
    generalize xs.map itD = T at *
    generalize xs.all goodI = B at *
    simp [-lcE_ap, -Option.bind_some, -Option.bind_none, c1, nn]
  have ga := goodI_all xs
  by_cases c : xs.all goodI = true
  · rw [c] at c2
    have c' := c
    rw [ga, Bool.and_eq_true] at c'
    obtain ⟨cw, cn⟩ := c'
    have ok := wds_ok hx
    have ll := wds_len xs
    have ex := wds_all cw
    have ea : accY rows xs = (due rows (wds xs)).all fun x => decide (x ∈ wds xs) := by unfold accY; rw [cw, cn]; rfl
    rw [ea]
    rw [ex] at c2 i5 ⊢
    clear c1 ea ga nn
    generalize wds xs = ws at *
    obtain ⟨x5, _, e2'⟩ := aloop1 h (.fz (pairD v (ws.map wd)))
    obtain ⟨x6, l6, e5⟩ := aloop2 h v ok (by omega) x5
    have od : ∀ x ∈ dueL rows ws, okw x := fun x hx => due_ok h ok x (mem_dueL.mp hx)
    have ld : (dueL rows ws).length ≤ 1025 := by
      have li := iniP_len h rows h.few
      rw [iniP_rows] at li
      have := flat_len (rstL rows) 10 (rstL_len h) ws
      unfold dueL
      rw [List.length_append]
      omega
    have s4 : setO 4 (eLst []) [.fz (.list (rows.map wd)), .fz (pairD v (ws.map wd)), .un, .un, .un, .un, .un, .un, .un] = .ok .nx [.fz (.list (rows.map wd)), .fz (pairD v (ws.map wd)), .un, .un, .ow false (.ls []), .un, .un, .un, .un] := by simp
    have c4 : lcE (eIt (eV 4)) (tgN 6) (eT (e2 notInD (.b 6) (.g (e2 ixD (.b 1) (.g (eC (.int 1))))))) (eV 6) [6] [.fz (.list (rows.map wd)), .fz (pairD v (ws.map wd)), .un, .un, .ow false (.ls ((dueL rows ws).map wd)), x5, x6, .un, .un] = .ok (.ls (((dueL rows ws).filter fun x => !decide (x ∈ ws)).map wd)) [.fz (.list (rows.map wd)), .fz (pairD v (ws.map wd)), .un, .un, .fz (.list ((dueL rows ws).map wd)), x5, .un, .un, .un] := by
      refine lcE_pure wd (fun x => !decide (x ∈ ws)) wd (dueL rows ws) (ρ1 := [.fz (.list (rows.map wd)), .fz (pairD v (ws.map wd)), .un, .un, .fz (.list ((dueL rows ws).map wd)), x5, x6, .un, .un]) (by simp) rfl (by omega) fun x hx => ?_
      refine ⟨[.fz (.list (rows.map wd)), .fz (pairD v (ws.map wd)), .un, .un, .fz (.list ((dueL rows ws).map wd)), x5, .fz (wd x), .un, .un], rfl, rfl, ?_, fun _ => by simp⟩
      have t2 := ninT_wd (od x hx) ok
      generalize (dueL rows ws).map wd = T2 at *
      generalize ws.map wd = T at *
      simp [-Option.bind_some, -Option.bind_none, i5, t2]
    have en := eq_nilD (L := ((dueL rows ws).filter fun x => !decide (x ∈ ws)).map wd) fun d hd => by
      obtain ⟨x, mx, rfl⟩ := List.mem_map.mp hd
      exact (ok_wd (od x (List.mem_filter.mp mx).1)).mono (by omega)
    rw [filt_all (fun x => decide (x ∈ ws)) wd (dueL rows ws)] at en
    have eq : ((dueL rows ws).all fun x => decide (x ∈ ws)) = (due rows ws).all fun x => decide (x ∈ ws) := by
      rw [Bool.eq_iff_iff, List.all_eq_true, List.all_eq_true]
      exact ⟨fun q x hx => q x (mem_dueL.mpr hx), fun q x hx => q x (mem_dueL.mp hx)⟩
    rw [eq] at en
    refine ⟨[.fz (.list (rows.map wd)), .fz (pairD v (ws.map wd)), .un, .un, .fz (.list ((dueL rows ws).map wd)), x5, .un, .un, .un], ?_⟩
    unfold yesA
    rw [seqS_ap, ifS_ap, c2, Res.bind_ok, if_neg (by simp), nxS_ap, Res.bind_ok]
    dsimp only
    rw [seqS_ap, s4, Res.bind_ok]
    dsimp only
    rw [seqS_ap, e2', Res.bind_ok]
    dsimp only
    rw [seqS_ap, e5, Res.bind_ok]
    dsimp only
    generalize ((dueL rows ws).filter fun x => !decide (x ∈ ws)).map wd = L at *
    generalize ((due rows ws).all fun x => decide (x ∈ ws)) = B at *
    generalize (dueL rows ws).map wd = T2 at *
    generalize ws.map wd = T at *
    simp [-lcE_ap, -Option.bind_some, -Option.bind_none, c4, en]
  · have c : xs.all goodI = false := by simpa using c
    rw [c] at c2
    have ea : accY rows xs = false := by unfold accY; rw [← ga, c]; rfl
    refine ⟨[.fz (.list (rows.map wd)), .fz (pairD v (xs.map itD)), .un, .un, .un, .un, .un, .un, .un], ?_⟩
    unfold yesA
    rw [seqS_ap, ifS_ap, c2, ea]
    rfl
theorem accepts_run {rows : List Wd} (h : OkR rows) {p : Ppr} (hp : okP p) : F__law_accepts [.fz (.list (rows.map wd)), .fz (pprD p)] = .ok (.bool (pj rows p)) [.un, .un] := by
  have gj : g__law_accepts = (seqS (ifS headA (rtS (eC (.bool false))) nxS) (seqS (ifS (eT (e2 eqD (.g (e2 ixD (.b 1) (.g (eC (.int 0))))) (.g (eC (.str (Str.ofString "no")))))) noA nxS) yesA)) := rfl
  have key : ∃ r, g__law_accepts [.fz (.list (rows.map wd)), .fz (pprD p), .un, .un, .un, .un, .un, .un, .un] = .ok (.rt (.bool (pj rows p))) r := by
    rw [gj]
    cases p with
    | nt d =>
      have hp : isiD "tuple" d = some (.bool false) := hp
      refine ⟨[.fz (.list (rows.map wd)), .fz d, .un, .un, .un, .un, .un, .un, .un], ?_⟩
      show _ = Res.ok (Fl.rt (.bool false)) _
      unfold headA pprD
      simp [-Option.bind_some, -Option.bind_none, hp, truD]
    | one d =>
      refine ⟨[.fz (.list (rows.map wd)), .fz (.tuple [d]), .un, .un, .un, .un, .un, .un, .un], ?_⟩
      show _ = Res.ok (Fl.rt (.bool false)) _
      have i1 : isiD "tuple" (.tuple [d]) = some (.bool true) := rfl
      have i3 : lenD (.tuple [d]) = some (.int 1) := rfl
      unfold headA pprD
      simp [-Option.bind_some, -Option.bind_none, -len_tup, i1, i3, truD]
    | bad v d =>
      obtain ⟨hv, hd⟩ := hp
      refine ⟨[.fz (.list (rows.map wd)), .fz (.tuple [wd v, d]), .un, .un, .un, .un, .un, .un, .un], ?_⟩
      show _ = Res.ok (Fl.rt (.bool false)) _
      have i1 : isiD "tuple" (.tuple [wd v, d]) = some (.bool true) := rfl
      have i3 : lenD (.tuple [wd v, d]) = some (.int 2) := rfl
      have i6 := ninL2 hv
      unfold headA pprD
      by_cases c : v = yesW ∨ v = noW
      · simp only [c, decide_true, Bool.not_true] at i6
        simp [-Option.bind_some, -Option.bind_none, -len_tup, truD, i1, i3, i6, hd, yes_wd, no_wd]
      · simp only [c, decide_false, Bool.not_false] at i6
        simp [-Option.bind_some, -Option.bind_none, -len_tup, truD, i1, i3, i6, hd, yes_wd, no_wd]
    | pr v xs =>
      obtain ⟨hv, hx, hl⟩ := hp
      have e0 : pj rows (.pr v xs) = acc rows v xs := rfl
      have e9 : pprD (.pr v xs) = pairD v (xs.map itD) := rfl
      rw [e0, e9]
      have hh := headA_run hv (xs.map itD) (.fz (.list (rows.map wd))) .un .un .un .un .un .un .un
      have i4 := ix_pair0 v (xs.map itD)
      have t1 := eq_wd hv ok_no
      have c2 : eT (e2 eqD (.g (e2 ixD (.b 1) (.g (eC (.int 0))))) (.g (eC (.str (Str.ofString "no"))))) [.fz (.list (rows.map wd)), .fz (pairD v (xs.map itD)), .un, .un, .un, .un, .un, .un, .un] = .ok (decide (v = noW)) [.fz (.list (rows.map wd)), .fz (pairD v (xs.map itD)), .un, .un, .un, .un, .un, .un, .un] := by
        generalize xs.map itD = T at *
        simp [-Option.bind_some, -Option.bind_none, no_wd, i4, t1]
      by_cases c1 : v = noW
      · obtain ⟨r, e⟩ := noA_run h v hx hl
        refine ⟨r, ?_⟩
        have c0 : v = yesW ∨ v = noW := .inr c1
        simp only [c0, decide_true, Bool.not_true] at hh
        simp only [c1, decide_true] at c2
        have ea : acc rows v xs = accN rows xs := by unfold acc; rw [if_pos c1]
        rw [ea]
        subst c1
        rw [seqS_ap, ifS_ap, hh, Res.bind_ok, if_neg Bool.false_ne_true, nxS_ap, Res.bind_ok]
        dsimp only
        rw [seqS_ap, ifS_ap, c2, Res.bind_ok, if_pos rfl, e]
        rfl
      · by_cases c3 : v = yesW
        · obtain ⟨r, e⟩ := yesA_run h v hx hl
          refine ⟨r, ?_⟩
          have c0 : v = yesW ∨ v = noW := .inl c3
          simp only [c0, decide_true, Bool.not_true] at hh
          simp only [c1, decide_false] at c2
          have ea : acc rows v xs = accY rows xs := by unfold acc; rw [if_neg c1, if_pos c3]
          rw [ea, seqS_ap, ifS_ap, hh, Res.bind_ok, if_neg Bool.false_ne_true, nxS_ap, Res.bind_ok]
          dsimp only
          rw [seqS_ap, ifS_ap, c2, Res.bind_ok, if_neg Bool.false_ne_true, nxS_ap, Res.bind_ok]
          exact e
        · refine ⟨[.fz (.list (rows.map wd)), .fz (pairD v (xs.map itD)), .un, .un, .un, .un, .un, .un, .un], ?_⟩
          have c0 : ¬ (v = yesW ∨ v = noW) := fun z => z.elim c3 c1
          simp only [c0, decide_false, Bool.not_false] at hh
          have ea : acc rows v xs = false := by unfold acc; rw [if_neg c1, if_neg c3]
          rw [ea, seqS_ap, ifS_ap, hh, Res.bind_ok, if_pos rfl]
          rfl
  exact frun (ds := [.list (rows.map wd), pprD p]) key
end K65
end
section
set_option autoImplicit false
set_option maxRecDepth 100000
set_option Elab.async false
set_option linter.all false
namespace K65
open PySem DL L2 SX
/-! ### the same as itself -/
def Atom (d : D) : Prop := d = .none ∨ (∃ b, d = .bool b) ∨ (∃ i, d = .int i) ∨ ∃ z, d = .str z ∧ okN 0 (.str z)
def okS : Nat → D → Prop
  | 0, d => Atom d
  | n + 1, d => Atom d ∨ ∃ ds, (d = .list ds ∨ d = .tuple ds) ∧ ds.length ≤ 1000000 ∧ ∀ x ∈ ds, okS n x
theorem fin2 (a b : Sl) (ha : ∀ o, a ≠ .ow true o) (hb : ∀ o, b ≠ .ow true o) : ∀ ρ : Rho, outOf [a, b] ρ = [.un, .un] := fun ρ => by
  have ka : ∀ x, keepO a x = .un := fun x => by
    cases a with
    | un => rfl
    | fz d => rfl
    | ow t o =>
      cases t with
      | true => exact absurd rfl (ha o)
      | false => rfl
  have kb : ∀ x, keepO b x = .un := fun x => by
    cases b with
    | un => rfl
    | fz d => rfl
    | ow t o =>
      cases t with
      | true => exact absurd rfl (hb o)
      | false => rfl
  match ρ with
  | [] => rfl
  | [x] => show [keepO a x, .un] = _; rw [ka]
  | x :: y :: ρ => show [keepO a x, keepO b y] = _; rw [ka, kb]
theorem same_atom (d : D) (h : Atom d) (m : Nat) : F__law_same (m + 1) [.fz d, .fz d] = .ok (.bool true) [.un, .un] := by
  have ff := fin2 (.fz d) (.fz d) (fun _ z => by cases z) (fun _ z => by cases z)
  show bodyF 3 (g__law_same (F__law_same m)) _ = _
  have refl : ∀ d : D, okN 0 d → eqD d d = some (.bool true) := fun d hd => by rw [eqD_ok (hd.mono (by omega)) (hd.mono (by omega)), eqv_refl d hd.1]
  rcases h with rfl | ⟨b, rfl⟩ | ⟨i, rfl⟩ | ⟨z, rfl, hz⟩
  · refine bodyF_rt (ρ0 := [.fz .none, .fz .none, .un]) (r := [.fz .none, .fz .none, .un]) rfl ?_ (ff _)
    have e : isND .none .none = some (.bool true) := rfl
    unfold g__law_same
    simp [-Option.bind_some, -Option.bind_none, e]
  · refine bodyF_rt (ρ0 := [.fz (.bool b), .fz (.bool b), .un]) (r := [.fz (.bool b), .fz (.bool b), .un]) rfl ?_ (ff _)
    have e : isND (.bool b) .none = some (.bool false) := rfl
    have i1 : isiD "bool" (.bool b) = some (.bool true) := rfl
    have q := refl _ (ok_bool b)
    unfold g__law_same
    simp [-Option.bind_some, -Option.bind_none, e, i1, truD, q]
  · refine bodyF_rt (ρ0 := [.fz (.int i), .fz (.int i), .un]) (r := [.fz (.int i), .fz (.int i), .un]) rfl ?_ (ff _)
    have e : isND (.int i) .none = some (.bool false) := rfl
    have i1 : isiD "bool" (.int i) = some (.bool false) := rfl
    have i2 : isiD "int" (.int i) = some (.bool true) := rfl
    unfold g__law_same
    simp [-Option.bind_some, -Option.bind_none, e, i1, i2, truD]
  · refine bodyF_rt (ρ0 := [.fz (.str z), .fz (.str z), .un]) (r := [.fz (.str z), .fz (.str z), .un]) rfl ?_ (ff _)
    have e : isND (.str z) .none = some (.bool false) := rfl
    have i1 : isiD "bool" (.str z) = some (.bool false) := rfl
    have i2 : isiD "int" (.str z) = some (.bool false) := rfl
    have i3 : isiD "str" (.str z) = some (.bool true) := rfl
    have q := refl _ hz
    unfold g__law_same
    simp [-Option.bind_some, -Option.bind_none, e, i1, i2, i3, truD, q]
theorem same_refl : ∀ (n : Nat) (d : D) (m : Nat), okS n d → n < m → F__law_same m [.fz d, .fz d] = .ok (.bool true) [.un, .un]
  | 0, d, m, h, hm => by
    obtain ⟨m, rfl⟩ : ∃ k, m = k + 1 := ⟨m - 1, by omega⟩
    exact same_atom d h m
  | n + 1, d, m, h, hm => by
    obtain ⟨m, rfl⟩ : ∃ k, m = k + 1 := ⟨m - 1, by omega⟩
    rcases h with h | ⟨ds, hd, hl, hx⟩
    · exact same_atom d h m
    · have ff := fin2 (.fz d) (.fz d) (fun _ z => by cases z) (fun _ z => by cases z)
      show bodyF 3 (g__law_same (F__law_same m)) _ = _
      have e : isND d .none = some (.bool false) := by rcases hd with rfl | rfl <;> rfl
      have i1 : isiD "bool" d = some (.bool false) := by rcases hd with rfl | rfl <;> rfl
      have i2 : isiD "int" d = some (.bool false) := by rcases hd with rfl | rfl <;> rfl
      have i3 : isiD "str" d = some (.bool false) := by rcases hd with rfl | rfl <;> rfl
      have ln : lenD d = some (.int (ds.length : Int)) := by rcases hd with rfl | rfl <;> rfl
      have ixk : ∀ k : Nat, (hk : k < ds.length) → ixD d (.int (k : Int)) = some ds[k] := fun k hk => by
        rcases hd with rfl | rfl
        · show atI ds (k : Int) = _
          rw [atI_n, List.getElem?_eq_getElem hk]
        · show atI ds (k : Int) = _
          rw [atI_n, List.getElem?_eq_getElem hk]
      have rg := rg1_n ds.length (by omega)
      -- the loop
      have lp : ∀ (j i : Nat) (x : Sl), i + j = ds.length → Loose x → ∃ x', loopS (tgN 2) (B__law_same_1 (F__law_same m)) ((List.range' i j).map I) [.fz d, .fz d, x] = .ok .nx [.fz d, .fz d, x'] := by
        intro j
        induction j with
        | zero => intro i x _ _; exact ⟨x, Eq.trans rfl rfl⟩
        | succ j ih =>
          intro i x hi lx
          have hk : i < ds.length := by omega
          have sm := same_refl n ds[i] m (hx _ (List.getElem_mem hk)) (by omega)
          have ik := ixk i hk
          obtain ⟨x', e'⟩ := ih (i + 1) (.fz (I i)) (by omega) (.inr (.inl ⟨_, rfl⟩))
          refine ⟨x', ?_⟩
          have t : (tgN 2).f (I i) [.fz d, .fz d, x] = some [.fz d, .fz d, .fz (I i)] := by
            show sto _ 2 _ = _
            rw [sto_loose (x := x) (Eq.trans rfl rfl) lx]
            exact Eq.trans rfl rfl
          have b : B__law_same_1 (F__law_same m) [.fz d, .fz d, .fz (I i)] = .ok .nx [.fz d, .fz d, .fz (I i)] := by
            unfold B__law_same_1 I
            simp [-Option.bind_some, -Option.bind_none, ik, callR, slots, mk, sm, put, truD]
          rw [List.range'_succ, List.map_cons]
          unfold loopS
          rw [t]
          simp only [b, Res.bind_ok, e']
      obtain ⟨x', el⟩ := lp ds.length 0 .un (by omega) (.inl rfl)
      have fo : forS (e1 rg1D (.g (e1 lenD (.b 1)))) (tgN 2) (B__law_same_1 (F__law_same m)) [.fz d, .fz d, .un] = .ok .nx [.fz d, .fz d, x'] := by
        have g1 : e1 rg1D (.g (e1 lenD (.b 1))) [.fz d, .fz d, .un] = .ok ((List.range' 0 ds.length).map I) [.fz d, .fz d, .un] := by
          simp [-Option.bind_some, -Option.bind_none, ln, rg, ← List.range_eq_range']
        rw [forS_ap, g1, Res.bind_ok]
        exact el
      refine bodyF_rt (ρ0 := [.fz d, .fz d, .un]) (r := [.fz d, .fz d, x']) rfl ?_ (ff _)
      unfold g__law_same
      generalize hB : B__law_same_1 (F__law_same m) = B at fo
      have t1 : ifS (eAnd (e1 truD (.g (e1 (isiD "tuple") (.b 1)))) (eNot (e1 truD (.g (e1 (isiD "tuple") (.b 0)))))) (rtS (eC (.bool false))) nxS [.fz d, .fz d, .un] = .ok .nx [.fz d, .fz d, .un] := by
        rcases hd with rfl | rfl
        · have it : isiD "tuple" (.list ds) = some (.bool false) := rfl
          simp [-Option.bind_some, -Option.bind_none, it, truD]
        · have it : isiD "tuple" (.tuple ds) = some (.bool true) := rfl
          simp [-Option.bind_some, -Option.bind_none, it, truD]
      have t2 : ifS (eAnd (e1 truD (.g (e1 (isiD "list") (.b 1)))) (eNot (e1 truD (.g (e1 (isiD "list") (.b 0)))))) (rtS (eC (.bool false))) nxS [.fz d, .fz d, .un] = .ok .nx [.fz d, .fz d, .un] := by
        rcases hd with rfl | rfl
        · have it : isiD "list" (.list ds) = some (.bool true) := rfl
          simp [-Option.bind_some, -Option.bind_none, it, truD]
        · have it : isiD "list" (.tuple ds) = some (.bool false) := rfl
          simp [-Option.bind_some, -Option.bind_none, it, truD]
      have s1 : ifS (eT (e2 isND (.b 1) (.g (eC .none)))) (rtS (e2 isND (.b 0) (.g (eC .none)))) nxS [.fz d, .fz d, .un] = .ok .nx [.fz d, .fz d, .un] := by simp [-Option.bind_some, -Option.bind_none, e]
      have s2 : ifS (e1 truD (.g (e1 (isiD "bool") (.b 1)))) (rtS (eAndV (e1 (isiD "bool") (.b 0)) (e2 eqD (.b 0) (.b 1)))) nxS [.fz d, .fz d, .un] = .ok .nx [.fz d, .fz d, .un] := by simp [-Option.bind_some, -Option.bind_none, i1, truD]
      have s3 : ifS (e1 truD (.g (e1 (isiD "int") (.b 1)))) (rtS (eAndV (e1 (isiD "int") (.b 0)) (eAndV (eNotV (e1 (isiD "bool") (.b 0))) (e2 eqD (.b 0) (.b 1))))) nxS [.fz d, .fz d, .un] = .ok .nx [.fz d, .fz d, .un] := by simp [-Option.bind_some, -Option.bind_none, i2, truD]
      have s4 : ifS (e1 truD (.g (e1 (isiD "str") (.b 1)))) (rtS (eAndV (e1 (isiD "str") (.b 0)) (e2 eqD (.b 0) (.b 1)))) nxS [.fz d, .fz d, .un] = .ok .nx [.fz d, .fz d, .un] := by simp [-Option.bind_some, -Option.bind_none, i3, truD]
      have s5 : ifS (eT (e2 neD (.g (e1 lenD (.b 0))) (.g (e1 lenD (.b 1))))) (rtS (eC (.bool false))) nxS [.fz d, .fz d, .un] = .ok .nx [.fz d, .fz d, .un] := by simp [-Option.bind_some, -Option.bind_none, ln]
      simp only [seqS_ap, s1, s2, s3, s4, t1, t2, s5, fo, Res.bind_ok]
      simp [-Option.bind_some, -Option.bind_none]
/-! ### what is told is right -/
theorem wds_w (ws : List Wd) : wds (ws.map Itm.w) = ws := by
  induction ws with
  | nil => rfl
  | cons w ws ih =>
    show w :: wds (ws.map Itm.w) = _
    rw [ih]
theorem itD_w (ws : List Wd) : (ws.map Itm.w).map itD = ws.map wd := by
  rw [List.map_map]
  rfl
theorem told_yes {rows ws : List Wd} (f : Found rows none) (hw : ∀ x, x ∈ ws ↔ Cl rows x) : accY rows (ws.map .w) = true := by
  have n0 : [] ∉ ws := fun z => by
    obtain ⟨t, q⟩ := cl_rc.mp ((hw []).mp z)
    exact f t q
  unfold accY
  rw [wds_w]
  have a1 : (ws.map Itm.w).all isW = true := by
    rw [List.all_eq_true]
    intro x hx
    obtain ⟨w, _, rfl⟩ := List.mem_map.mp hx
    rfl
  have a2 : ((due rows ws).all fun x => decide (x ∈ ws)) = true := by
    rw [List.all_eq_true]
    intro x hx
    rw [decide_eq_true_eq, hw]
    unfold due at hx
    rcases List.mem_append.mp hx with q | q
    · exact .ini q
    · obtain ⟨s, hs, q⟩ := List.mem_flatten.mp q
      obtain ⟨r, hr, rfl⟩ := List.mem_map.mp hs
      exact .step ((hw r).mp hr) (fun z => n0 (z ▸ hr)) q
  rw [a1, a2]
  simp [n0]
def tupN (u : List Nat) : Itm := .tup (u.map fun n : Nat => (n : Int))
theorem itD_tupN (u : List Nat) : itD (tupN u) = tupI u := (tupI_int u).symm
theorem txt_n {rows : List Wd} (u : List Nat) : txt rows (u.map fun n : Nat => (n : Int)) = (wOf rows u).flatten := by
  unfold txt wOf
  rw [List.map_map]
  rfl
theorem inR_n {n : Nat} {u : List Nat} (h : ∀ i ∈ u, i < n) : (u.map fun n : Nat => (n : Int)).all (inR n) = true := by
  rw [List.all_eq_true]
  intro x hx
  obtain ⟨i, hi, rfl⟩ := List.mem_map.mp hx
  have := h i hi
  unfold inR
  simp
  omega
theorem fac_pair {rows : List Wd} (h : OkR rows) {t : Wd} (f : Found rows (some t)) : ∃ a b, (fac rows t).take 2 = [a, b] ∧ a ≠ b ∧ a ∈ fac rows t ∧ b ∈ fac rows t := by
  have two := (fac_two h).mpr (rc_dbl f.1)
  have pw := pw_fac h.ne t
  match e : fac rows t with
  | [] => rw [e] at two; simp at two
  | [_] => rw [e] at two; simp at two
  | a :: b :: r =>
    rw [e] at pw
    have lt : a < b := (List.pairwise_cons.mp pw).1 b (by simp)
    exact ⟨a, b, rfl, fun z => List.lt_irrefl b (z ▸ lt), by simp, by simp⟩
theorem told_no {rows : List Wd} (h : OkR rows) {t : Wd} {a b : List Nat} (ne : a ≠ b) (ha : a ∈ fac rows t) (hb : b ∈ fac rows t) : accN rows [tupN a, tupN b] = true := by
  obtain ⟨a1, a2⟩ := (mem_fac h.ne).mp ha
  obtain ⟨b1, b2⟩ := (mem_fac h.ne).mp hb
  have nn : ¬ (a.map (fun n : Nat => (n : Int)) = b.map fun n : Nat => (n : Int)) := fun z => ne ((List.map_inj_right (f := fun n : Nat => (n : Int)) (fun x y q => Int.ofNat.inj q)).mp z)
  show ((a.map fun n : Nat => (n : Int)).all (inR rows.length) && (b.map fun n : Nat => (n : Int)).all (inR rows.length) && !decide (a.map (fun n : Nat => (n : Int)) = b.map fun n : Nat => (n : Int)) && decide (txt rows (a.map fun n : Nat => (n : Int)) = txt rows (b.map fun n : Nat => (n : Int)))) = true
  rw [inR_n a1, inR_n b1, txt_n, txt_n, a2, b2]
  simp [nn]
end K65
end
section
set_option autoImplicit false
set_option maxRecDepth 100000
set_option Elab.async false
set_option linter.all false
namespace K65
open PySem DL L2 SX
theorem nextE (ns : List Int) (s : S4) {ρ : Rho} {i : Nat} {b : Bool} {ga : Ev D} {n : Nat} (h : ρ[i]? = some (.ow b (obS ns s))) (ha : ga ρ = .ok (.int (n : Int)) ρ) (h1 : 1 ≤ n) (h2 : n ≤ 1000) : ∃ (v : Nat) (s' : S4), v < n ∧ callE F__law_next [.s i, .g ga] ρ = .ok (I v) (ρ.set i (.ow b (obS ns s'))) := by
  obtain ⟨v, s', v1, v2, e⟩ := next_run ns s (n : Int) (by omega) (by omega)
  obtain ⟨p, rfl⟩ := Int.eq_ofNat_of_zero_le v1
  exact ⟨p, s', by omega, callS1 h ha e⟩
theorem it_sign {cs : Wd} {v : Nat} (h : v < cs.length) (hl : cs.length ≤ 1000) : ixD (wd cs) (I v) = some (wd [cs[v]]) := ix_str cs v _ (by omega) (List.getElem?_eq_getElem h)
/-- a word's signs -/
theorem word_loop (ns : List Int) (cs : Wd) (hc : 1 ≤ cs.length) (hl : cs.length ≤ 4) : ∀ (l : List Nat) (s : S4) (m : Nat), m + l.length ≤ 16777216 →
    ∃ (w : Wd) (s' : S4), w.length = l.length ∧ (∀ c ∈ w, c ∈ cs) ∧ lcLoop (tgN 3) yesT (e2 ixD (.b 1) (.g (callE F__law_next [.s 0, .g (e1 lenD (.b 1))]))) [3] (l.map I) m [.ow true (obS ns s), .fz (wd cs), .fz (.int 4), .un] = .ok (w.map fun c => wd [c]) [.ow true (obS ns s'), .fz (wd cs), .fz (.int 4), .un]
  | [], s, m, _ => ⟨[], s, rfl, fun _ h => by simp at h, rfl⟩
  | i :: l, s, m, hm => by
    simp only [List.length_cons] at hm
    have tl := len_wd cs (by omega)
    obtain ⟨v, s1, v1, e⟩ := nextE ns s (i := 0) (b := true) (ga := e1 lenD (.b 1)) (n := cs.length) (ρ := [.ow true (obS ns s), .fz (wd cs), .fz (.int 4), .fz (I i)]) rfl (by simp [-Option.bind_some, -Option.bind_none, tl]) hc (by omega)
    obtain ⟨w, s2, w1, w2, e2'⟩ := word_loop ns cs hc hl l s1 (m + 1) (by omega)
    refine ⟨cs[v] :: w, s2, by simp [w1], fun c hc => ?_, ?_⟩
    · rcases List.mem_cons.mp hc with q | q
      · rw [q]; exact List.getElem_mem v1
      · exact w2 c q
    · have tx := it_sign v1 (by omega)
      have t : (tgN 3).f (I i) [.ow true (obS ns s), .fz (wd cs), .fz (.int 4), .un] = some [.ow true (obS ns s), .fz (wd cs), .fz (.int 4), .fz (I i)] := rfl
      have te : e2 ixD (.b 1) (.g (callE F__law_next [.s 0, .g (e1 lenD (.b 1))])) [.ow true (obS ns s), .fz (wd cs), .fz (.int 4), .fz (I i)] = .ok (wd [cs[v]]) [.ow true (obS ns s1), .fz (wd cs), .fz (.int 4), .fz (I i)] := by
        generalize (e1 lenD (.b 1)) = G at *
        simp [-callE_ap, -Option.bind_some, -Option.bind_none, e, tx]
      have lm : m < 16777216 := by omega
      rw [List.map_cons]
      unfold lcLoop
      rw [t]
      simp only [yesT_ap, noEr_ok, Res.bind_ok, if_true, te, lm]
      have wp : wipeR [.ow true (obS ns s1), .fz (wd cs), .fz (.int 4), .fz (I i)] [3] = [.ow true (obS ns s1), .fz (wd cs), .fz (.int 4), .un] := rfl
      rw [wp, e2']
      rfl
theorem word_run (ns : List Int) (s : S4) {cs : Wd} (hc : 1 ≤ cs.length) (hl : cs.length ≤ 4) : ∃ (w : Wd) (s' : S4), 1 ≤ w.length ∧ w.length ≤ 4 ∧ (∀ c ∈ w, c ∈ cs) ∧ F__law_word [.ow true (obS ns s), .fz (wd cs), .fz (.int 4)] = .ok (wd w) [.ow true (obS ns s'), .un, .un] := by
  obtain ⟨v, s1, v1, e⟩ := nextE ns s (i := 0) (b := true) (ga := eV 2) (n := 4) (ρ := [.ow true (obS ns s), .fz (wd cs), .fz (.int 4), .un]) rfl rfl (by omega) (by omega)
  obtain ⟨w, s2, w1, w2, el⟩ := word_loop ns cs hc hl (List.range (1 + v)) s1 0 (by rw [List.length_range]; omega)
  rw [List.length_range] at w1
  refine ⟨w, s2, by omega, by omega, w2, ?_⟩
  refine bodyF_rt (n := 4) (g := g__law_word) (r := [.ow true (obS ns s2), .fz (wd cs), .fz (.int 4), .un]) rfl ?_ rfl
  show g__law_word [.ow true (obS ns s), .fz (wd cs), .fz (.int 4), .un] = _
  unfold g__law_word
  have e : callE F__law_next [.s 0, .g (eV 2)] [.ow true (obS ns s), .fz (wd cs), .fz (.int 4), .un] = .ok (I v) [.ow true (obS ns s1), .fz (wd cs), .fz (.int 4), .un] := e
  have r1 := rg1_n (1 + v) (by omega)
  rw [Int.natCast_add] at r1
  have r1 : rg1D (.int (1 + (v : Int))) = _ := r1
  have g1 : e1 rg1D (.g (e2 addD (.g (eC (.int 1))) (.g (callE F__law_next [.s 0, .g (eV 2)])))) [.ow true (obS ns s), .fz (wd cs), .fz (.int 4), .un] = .ok ((List.range (1 + v)).map I) [.ow true (obS ns s1), .fz (wd cs), .fz (.int 4), .un] := by
    generalize (eV 2) = G at *
    simp only [e1_ap, opd_g, e2_ap, eC_ap, Res.bind_ok, e, fin_d, obind, I, add_int, ofO_some, r1]
  have lc : lcE (e1 rg1D (.g (e2 addD (.g (eC (.int 1))) (.g (callE F__law_next [.s 0, .g (eV 2)]))))) (tgN 3) yesT (e2 ixD (.b 1) (.g (callE F__law_next [.s 0, .g (e1 lenD (.b 1))]))) [3] [.ow true (obS ns s), .fz (wd cs), .fz (.int 4), .un] = .ok (.ls (w.map fun c => wd [c])) [.ow true (obS ns s2), .fz (wd cs), .fz (.int 4), .un] := by
    rw [lcE_ap, g1, Res.bind_ok]
    have wp : wipeR [.ow true (obS ns s1), .fz (wd cs), .fz (.int 4), .un] [3] = [.ow true (obS ns s1), .fz (wd cs), .fz (.int 4), .un] := rfl
    rw [wp, el]
    rfl
  have j1 := join_wd (w.map fun c => [c]) (by
    rw [List.map_map]
    have : ∀ l : Wd, (l.map (List.length ∘ fun c => [c])).sum = l.length := fun l => by
      induction l with
      | nil => rfl
      | cons c l ih => simp only [List.map_cons, List.sum_cons, ih, Function.comp_apply, List.length_cons, List.length_nil]; omega
    rw [this]; omega)
  have fl : (w.map fun c => [c]).flatten = w := by
    clear lc el j1 w1 w2
    induction w with
    | nil => rfl
    | cons c w ih => rw [List.map_cons, List.flatten_cons, ih]; rfl
  rw [fl, List.map_map] at j1
  have j1 : joinD (Str.ofString "") (.list (w.map fun c => wd [c])) = some (wd w) := j1
  generalize (w.map fun c => wd [c]) = L at *
  rw [rtS_ap, eM1_ap, eC_ap, Res.bind_ok]
  dsimp only
  rw [opd_g, eFz_ap, lc]
  simp only [Res.bind_ok, fin_d, obind, j1, ofO_some]
end K65
end
section
set_option autoImplicit false
set_option maxRecDepth 100000
set_option Elab.async false
set_option linter.all false
namespace K65
open PySem DL L2 SX
structure RW (l : List Wd) : Prop where
  nd : l.Nodup
  ne : ∀ w ∈ l, w ≠ []
  lb : ∀ (i : Nat) (w : Wd), l[i]? = some w → w.length ≤ 4 + 2 * i
  cp : ∀ w ∈ l, ∀ c ∈ w, c < 123
theorem RW.le {l : List Wd} (r : RW l) {w : Wd} (h : w ∈ l) : w.length + 2 ≤ 4 + 2 * l.length := by
  obtain ⟨i, hi, rfl⟩ := List.mem_iff_getElem.mp h
  have := r.lb i _ (List.getElem?_eq_getElem hi)
  omega
theorem RW.okw {l : List Wd} (r : RW l) (hl : l.length ≤ 5) {w : Wd} (h : w ∈ l) : okw w := ⟨by have := r.le h; omega, r.cp w h⟩
theorem sq_le {a n : Nat} (h : a ≤ n) : a * (a + 1) ≤ n * (n + 1) := Nat.mul_le_mul h (by omega)
theorem RW.ok {l : List Wd} (r : RW l) (hl : l.length ≤ 5) : OkR l := by
  refine ⟨r.nd, r.ne, fun w hw => by have := r.le hw; omega, r.cp, hl, ?_⟩
  have key : ∀ (l : List Wd) (k : Nat), k + l.length ≤ 5 → (∀ (i : Nat) (w : Wd), l[i]? = some w → w.length ≤ 4 + 2 * (k + i)) → (l.map fun w => w.length * (w.length + 1)).sum + (match k with | 0 => 0 | 1 => 20 | 2 => 62 | 3 => 134 | 4 => 244 | _ => 400) ≤ 400 := by
    intro l
    induction l with
    | nil =>
      intro k hk _
      simp only [List.map_nil, List.sum_nil, Nat.zero_add]
      split <;> omega
    | cons w l ih =>
      intro k hk hb
      simp only [List.length_cons] at hk
      have ih := ih (k + 1) (by omega) fun i u hu => by
        have := hb (i + 1) u (by simpa using hu)
        omega
      have q := sq_le (hb 0 w rfl)
      rw [List.map_cons, List.sum_cons]
      match k, hk, ih, q with
      | 0, _, ih, q => simp only at ih q ⊢; omega
      | 1, _, ih, q => simp only at ih q ⊢; omega
      | 2, _, ih, q => simp only at ih q ⊢; omega
      | 3, _, ih, q => simp only at ih q ⊢; omega
      | 4, _, ih, q => simp only at ih q ⊢; omega
      | k + 5, hk, _, _ => omega
  have := key l 0 (by omega) fun i w hw => by have := r.lb i w hw; omega
  simpa using this
theorem RW.push {l : List Wd} (r : RW l) {w : Wd} (n : w ∉ l) (ne : w ≠ []) (b : w.length ≤ 4 + 2 * l.length) (c : ∀ x ∈ w, x < 123) : RW (l ++ [w]) := by
  refine ⟨?_, fun u hu => ?_, fun i u hu => ?_, fun u hu => ?_⟩
  · rw [List.nodup_append]
    refine ⟨r.nd, by simp, fun a ha b hb z => ?_⟩
    rw [List.mem_singleton.mp hb] at z
    exact n (z ▸ ha)
  · rcases List.mem_append.mp hu with q | q
    · exact r.ne u q
    · rw [List.mem_singleton.mp q]; exact ne
  · rcases Nat.lt_or_ge i l.length with q | q
    · rw [List.getElem?_append_left q] at hu
      exact r.lb i u hu
    · rw [List.getElem?_append_right q] at hu
      have : i - l.length = 0 := by
        have := (List.getElem?_eq_some_iff.mp hu).1
        simp at this
        omega
      rw [this] at hu
      cases hu
      omega
  · rcases List.mem_append.mp hu with q | q
    · exact r.cp u q
    · rw [List.mem_singleton.mp q]; exact c
theorem row_mid (ns : List Int) (s : S4) {cs : Wd} {l : List Wd} (r : RW l) (hl : l.length ≤ 5) {k : Nat} {w : Wd} (w1 : 1 ≤ w.length) (w4 : w.length ≤ 4) (wc : ∀ c ∈ w, c < 123) (x3 : Sl) :
    ∃ (u : Wd) (s' : S4), u ≠ [] ∧ u.length ≤ 4 + 2 * l.length ∧ (∀ c ∈ u, c < 123) ∧ (ifS (eAnd (eT (e2 neD (.b 2) (.g (eFz (eLst []))))) (eT (e2 eqD (.b 4) (.g (eC (.int 0))))))
    (setS 5 (e2 addD (.g (e2 ixD (.b 2) (.g (callE (F__law_next) [.s 0, .g (e1 lenD (.b 2))])))) (.g (eSl slD (.b 5) none (some (eC (.int 2)))))))
    (ifS (eAnd (eT (e2 neD (.b 2) (.g (eFz (eLst []))))) (eT (e2 eqD (.b 4) (.g (eC (.int 1))))))
    (setS 5 (e2 addD (.g (eSl slD (.b 5) none (some (eC (.int 1))))) (.g (e2 ixD (.b 2) (.g (callE (F__law_next) [.s 0, .g (e1 lenD (.b 2))]))))))
    nxS)) [.ow true (obS ns s), .fz (wd cs), .ow false (.ls (l.map wd)), x3, .fz (I k), .fz (wd w)] = .ok .nx [.ow true (obS ns s'), .fz (wd cs), .ow false (.ls (l.map wd)), x3, .fz (I k), .fz (wd u)] := by
  have nn := ne_nilD (L := l.map wd) fun d hd => by
    obtain ⟨x, mx, rfl⟩ := List.mem_map.mp hd
    exact (ok_wd (r.okw hl mx)).mono (by omega)
  rw [List.isEmpty_map] at nn
  have wn : w ≠ [] := fun z => by rw [z] at w1; simp at w1
  have t1 : ∀ (s : S4), eT (e2 neD (.b 2) (.g (eFz (eLst [])))) [.ow true (obS ns s), .fz (wd cs), .ow false (.ls (l.map wd)), x3, .fz (I k), .fz (wd w)] = .ok (!l.isEmpty) [.ow true (obS ns s), .fz (wd cs), .ow false (.ls (l.map wd)), x3, .fz (I k), .fz (wd w)] := fun s => by
    generalize l.map wd = L at *
    generalize l.isEmpty = B at *
    simp [-Option.bind_some, -Option.bind_none, nn]
  have t2 : ∀ (j : Nat), eT (e2 eqD (.b 4) (.g (eC (.int (j : Int))))) [.ow true (obS ns s), .fz (wd cs), .ow false (.ls (l.map wd)), x3, .fz (I k), .fz (wd w)] = .ok (decide (k = j)) [.ow true (obS ns s), .fz (wd cs), .ow false (.ls (l.map wd)), x3, .fz (I k), .fz (wd w)] := fun j => by
    have q : eqD (I k) (.int (j : Int)) = some (.bool (decide (k = j))) := by
      show eqD (.int (k : Int)) (.int (j : Int)) = _
      rw [eq_int]
      congr 2
      exact decide_eq_decide.mpr (by omega)
    generalize l.map wd = L at *
    simp [-Option.bind_some, -Option.bind_none, q]
  have t20 : eT (e2 eqD (.b 4) (.g (eC (.int 0)))) [.ow true (obS ns s), .fz (wd cs), .ow false (.ls (l.map wd)), x3, .fz (I k), .fz (wd w)] = .ok (decide (k = 0)) [.ow true (obS ns s), .fz (wd cs), .ow false (.ls (l.map wd)), x3, .fz (I k), .fz (wd w)] := t2 0
  have t21 : eT (e2 eqD (.b 4) (.g (eC (.int 1)))) [.ow true (obS ns s), .fz (wd cs), .ow false (.ls (l.map wd)), x3, .fz (I k), .fz (wd w)] = .ok (decide (k = 1)) [.ow true (obS ns s), .fz (wd cs), .ow false (.ls (l.map wd)), x3, .fz (I k), .fz (wd w)] := t2 1
  by_cases c : l = []
  · refine ⟨w, s, wn, by omega, wc, ?_⟩
    have e0 : (!l.isEmpty) = false := by simp [c]
    rw [e0] at t1
    rw [ifS_ap, eAnd_ap, t1, Res.bind_ok, if_neg Bool.false_ne_true, Res.bind_ok, if_neg Bool.false_ne_true, ifS_ap, eAnd_ap, t1, Res.bind_ok, if_neg Bool.false_ne_true, Res.bind_ok, if_neg Bool.false_ne_true]
    rfl
  · have e0 : (!l.isEmpty) = true := by simp [c]
    have l1 : 1 ≤ l.length := List.length_pos_iff.mpr c
    rw [e0] at t1
    obtain ⟨v, s', v1, e⟩ := nextE ns s (i := 0) (b := true) (ga := e1 lenD (.b 2)) (n := l.length) (ρ := [.ow true (obS ns s), .fz (wd cs), .ow false (.ls (l.map wd)), x3, .fz (I k), .fz (wd w)]) rfl (by simp [-Option.bind_some, -Option.bind_none]) l1 (by omega)
    have ev : l[v]? = some l[v] := List.getElem?_eq_getElem v1
    have mv : l[v] ∈ l := List.getElem_mem v1
    generalize l[v] = z at ev mv
    have zl := r.le mv
    have okz := r.okw hl mv
    have zn := r.ne z mv
    have z1 : 1 ≤ z.length := List.length_pos_iff.mpr zn
    have e : callE F__law_next [.s 0, .g (e1 lenD (.b 2))] [.ow true (obS ns s), .fz (wd cs), .ow false (.ls (l.map wd)), x3, .fz (I k), .fz (wd w)] = .ok (I v) [.ow true (obS ns s'), .fz (wd cs), .ow false (.ls (l.map wd)), x3, .fz (I k), .fz (wd w)] := e
    have ix : ixD (.list (l.map wd)) (I v) = some (wd z) := by
      show ixD (.list (l.map wd)) (.int (v : Int)) = _
      rw [DL.ix_list, atI_n, List.getElem?_map, ev]
      rfl
    have sl2 := sl_to w 2 (by omega)
    have sl1 := sl_to w 1 (by omega)
    have sl2 : slD (wd w) none (some (2 : Int)) = some (wd (w.take 2)) := sl2
    have sl1 : slD (wd w) none (some (1 : Int)) = some (wd (w.take 1)) := sl1
    have a2 := add_wd z (w.take 2) (by rw [List.length_take]; omega)
    have a1 := add_wd (w.take 1) z (by rw [List.length_take]; omega)
    have gx : e2 ixD (.b 2) (.g (callE (F__law_next) [.s 0, .g (e1 lenD (.b 2))])) [.ow true (obS ns s), .fz (wd cs), .ow false (.ls (l.map wd)), x3, .fz (I k), .fz (wd w)] = .ok (wd z) [.ow true (obS ns s'), .fz (wd cs), .ow false (.ls (l.map wd)), x3, .fz (I k), .fz (wd w)] := by
      generalize (e1 lenD (.b 2)) = G at *
      generalize l.map wd = L at *
      simp [-callE_ap, -DL.ix_list, -Option.bind_some, -Option.bind_none, e, ix]
    by_cases k0 : k = 0
    · refine ⟨z ++ w.take 2, s', fun q => zn (List.append_eq_nil_iff.mp q).1, by rw [List.length_append, List.length_take]; omega, fun x hx => ?_, ?_⟩
      · rcases List.mem_append.mp hx with q | q
        · exact okz.2 x q
        · exact wc x (List.mem_of_mem_take q)
      · have s5 : setS 5 (e2 addD (.g (e2 ixD (.b 2) (.g (callE (F__law_next) [.s 0, .g (e1 lenD (.b 2))])))) (.g (eSl slD (.b 5) none (some (eC (.int 2)))))) [.ow true (obS ns s), .fz (wd cs), .ow false (.ls (l.map wd)), x3, .fz (I k), .fz (wd w)] = .ok .nx [.ow true (obS ns s'), .fz (wd cs), .ow false (.ls (l.map wd)), x3, .fz (I k), .fz (wd (z ++ w.take 2))] := by
          generalize (e2 ixD (.b 2) (.g (callE (F__law_next) [.s 0, .g (e1 lenD (.b 2))]))) = G at *
          generalize l.map wd = L at *
          simp [-Option.bind_some, -Option.bind_none, gx, eSl, optE, sl2, a2]
        simp only [k0, decide_true] at t20
        subst k0
        rw [ifS_ap, eAnd_ap, t1, Res.bind_ok, if_pos rfl, t20, Res.bind_ok, if_pos rfl, s5]
    · simp only [k0, decide_false] at t20
      by_cases k1 : k = 1
      · refine ⟨w.take 1 ++ z, s', fun q => zn (List.append_eq_nil_iff.mp q).2, by rw [List.length_append, List.length_take]; omega, fun x hx => ?_, ?_⟩
        · rcases List.mem_append.mp hx with q | q
          · exact wc x (List.mem_of_mem_take q)
          · exact okz.2 x q
        · have s5 : setS 5 (e2 addD (.g (eSl slD (.b 5) none (some (eC (.int 1))))) (.g (e2 ixD (.b 2) (.g (callE (F__law_next) [.s 0, .g (e1 lenD (.b 2))]))))) [.ow true (obS ns s), .fz (wd cs), .ow false (.ls (l.map wd)), x3, .fz (I k), .fz (wd w)] = .ok .nx [.ow true (obS ns s'), .fz (wd cs), .ow false (.ls (l.map wd)), x3, .fz (I k), .fz (wd (w.take 1 ++ z))] := by
            generalize (e2 ixD (.b 2) (.g (callE (F__law_next) [.s 0, .g (e1 lenD (.b 2))]))) = G at *
            generalize l.map wd = L at *
            simp [-Option.bind_some, -Option.bind_none, gx, eSl, optE, sl1, a1]
          simp only [k1, decide_true] at t21
          subst k1
          rw [ifS_ap, eAnd_ap, t1, Res.bind_ok, if_pos rfl, t20, Res.bind_ok, if_neg Bool.false_ne_true, ifS_ap, eAnd_ap, t1, Res.bind_ok, if_pos rfl, t21, Res.bind_ok, if_pos rfl, s5]
      · simp only [k1, decide_false] at t21
        refine ⟨w, s, wn, by omega, wc, ?_⟩
        rw [ifS_ap, eAnd_ap, t1, Res.bind_ok, if_pos rfl, t20, Res.bind_ok, if_neg Bool.false_ne_true, ifS_ap, eAnd_ap, t1, Res.bind_ok, if_pos rfl, t21, Res.bind_ok, if_neg Bool.false_ne_true]
        rfl
theorem rows_run (ns : List Int) (s : S4) {cs : Wd} (hc : 1 ≤ cs.length) (hl : cs.length ≤ 4) (hb : ∀ c ∈ cs, c < 123) : ∃ (l : List Wd) (s' : S4), RW l ∧ l.length ≤ 5 ∧ F__law_rows [.ow true (obS ns s), .fz (wd cs)] = .ok (.list (l.map wd)) [.ow true (obS ns s'), .un] := by
  obtain ⟨v, s1, v1, e⟩ := nextE ns s (i := 0) (b := true) (ga := eC (.int 5)) (n := 5) (ρ := [.ow true (obS ns s), .fz (wd cs), .ow false (.ls []), .un, .un, .un]) rfl rfl (by omega) (by omega)
  have e : callE F__law_next [.s 0, .g (eC (.int 5))] [.ow true (obS ns s), .fz (wd cs), .ow false (.ls []), .un, .un, .un] = .ok (I v) [.ow true (obS ns s1), .fz (wd cs), .ow false (.ls []), .un, .un, .un] := e
  obtain ⟨ρ', el, l, s2, x3, x4, x5, r, ll, _, _, _, rfl⟩ := loop_pre (t := tgN 3) (b := B__law_rows_1) I (fun d ρ => ∃ (l : List Wd) (s : S4) (x3 x4 x5 : Sl), RW l ∧ l.length ≤ d.length ∧ Loose x3 ∧ Loose x4 ∧ Loose x5 ∧ ρ = [.ow true (obS ns s), .fz (wd cs), .ow false (.ls (l.map wd)), x3, x4, x5]) (List.range (1 + v)) [] [.ow true (obS ns s1), .fz (wd cs), .ow false (.ls []), .un, .un, .un] ⟨[], s1, .un, .un, .un, ⟨.nil, fun _ h => by simp at h, fun i w h => by simp at h, fun _ h => by simp at h⟩, Nat.le_refl _, .un, .un, .un, rfl⟩ fun d j rr ρ q i => by
    obtain ⟨l, s, x3, x4, x5, r, ll, l3, l4, l5, rfl⟩ := i
    have q : List.range (1 + v) = d ++ j :: rr := q
    have ld : d.length ≤ 4 := by
      have := congrArg List.length q
      rw [List.length_range] at this
      simp at this
      omega
    obtain ⟨k, s1, _, ea⟩ := nextE ns s (i := 0) (b := true) (ga := eC (.int 4)) (n := 4) (ρ := [.ow true (obS ns s), .fz (wd cs), .ow false (.ls (l.map wd)), .fz (I j), x4, x5]) rfl rfl (by omega) (by omega)
    obtain ⟨w, s2, w1, w4, wc, eb⟩ := word_run ns s1 hc hl
    have eb' := callS2 (F := F__law_word) (i := 0) (b := true) (ga := eV 1) (gb := eC (.int 4)) (ρ := [.ow true (obS ns s1), .fz (wd cs), .ow false (.ls (l.map wd)), .fz (I j), .fz (I k), x5]) rfl rfl rfl eb
    obtain ⟨u, s3, un, ul, uc, em⟩ := row_mid ns s2 (cs := cs) r (by omega) (k := k) w1 w4 (fun c hc => hb c (wc c hc)) (.fz (I j))
    have oku : okw u := ⟨by omega, uc⟩
    have t1 := nin_wd oku (fun x hx => r.okw (by omega) hx)
    have s4 : setS 4 (callE F__law_next [.s 0, .g (eC (.int 4))]) [.ow true (obS ns s), .fz (wd cs), .ow false (.ls (l.map wd)), .fz (I j), x4, x5] = .ok .nx [.ow true (obS ns s1), .fz (wd cs), .ow false (.ls (l.map wd)), .fz (I j), .fz (I k), x5] := by
      have ea : callE F__law_next [.s 0, .g (eC (.int 4))] [.ow true (obS ns s), .fz (wd cs), .ow false (.ls (l.map wd)), .fz (I j), x4, x5] = .ok (I k) [.ow true (obS ns s1), .fz (wd cs), .ow false (.ls (l.map wd)), .fz (I j), x4, x5] := ea
      rw [setS_ap, ea, Res.bind_ok, sto_loose (x := x4) (Eq.trans rfl rfl) l4]
      rfl
    have s5 : setS 5 (callE F__law_word [.s 0, .g (eV 1), .g (eC (.int 4))]) [.ow true (obS ns s1), .fz (wd cs), .ow false (.ls (l.map wd)), .fz (I j), .fz (I k), x5] = .ok .nx [.ow true (obS ns s2), .fz (wd cs), .ow false (.ls (l.map wd)), .fz (I j), .fz (I k), .fz (wd w)] := by
      have eb' : callE F__law_word [.s 0, .g (eV 1), .g (eC (.int 4))] [.ow true (obS ns s1), .fz (wd cs), .ow false (.ls (l.map wd)), .fz (I j), .fz (I k), x5] = .ok (wd w) [.ow true (obS ns s2), .fz (wd cs), .ow false (.ls (l.map wd)), .fz (I j), .fz (I k), x5] := eb'
      rw [setS_ap, eb', Res.bind_ok, sto_loose (x := x5) (Eq.trans rfl rfl) l5]
      rfl
    have tt : (tgN 3).f (I j) [.ow true (obS ns s), .fz (wd cs), .ow false (.ls (l.map wd)), x3, x4, x5] = some [.ow true (obS ns s), .fz (wd cs), .ow false (.ls (l.map wd)), .fz (I j), x4, x5] := by
      show sto _ 3 _ = _
      rw [sto_loose (x := x3) (Eq.trans rfl rfl) l3]
      rfl
    have t2 : eT (e2 notInD (.b 5) (.b 2)) [.ow true (obS ns s3), .fz (wd cs), .ow false (.ls (l.map wd)), .fz (I j), .fz (I k), .fz (wd u)] = .ok (!decide (u ∈ l)) [.ow true (obS ns s3), .fz (wd cs), .ow false (.ls (l.map wd)), .fz (I j), .fz (I k), .fz (wd u)] := by
      generalize l.map wd = L at *
      simp [-Option.bind_some, -Option.bind_none, t1]
    unfold B__law_rows_1
    by_cases c : u ∈ l
    · refine ⟨_, [.ow true (obS ns s3), .fz (wd cs), .ow false (.ls (l.map wd)), .fz (I j), .fz (I k), .fz (wd u)], tt, ?_, l, s3, _, _, _, r, by rw [List.length_append]; omega, .fz (I j), .fz (I k), .fz (wd u), rfl⟩
      simp only [c, decide_true, Bool.not_true] at t2
      rw [seqS_ap, s4, Res.bind_ok]
      dsimp only
      rw [seqS_ap, s5, Res.bind_ok]
      dsimp only
      rw [seqS_ap, em, Res.bind_ok]
      dsimp only
      rw [ifS_ap, t2, Res.bind_ok, if_neg Bool.false_ne_true, nxS_ap]
    · refine ⟨_, [.ow true (obS ns s3), .fz (wd cs), .ow false (.ls ((l ++ [u]).map wd)), .fz (I j), .fz (I k), .fz (wd u)], tt, ?_, l ++ [u], s3, _, _, _, r.push c un ul uc, by rw [List.length_append, List.length_append]; simp; omega, .fz (I j), .fz (I k), .fz (wd u), rfl⟩
      simp only [c, decide_false, Bool.not_false] at t2
      have la : (l.map wd).length < 16777216 := by rw [List.length_map]; omega
      have ma := mutS_run (f := appF) (i := 2) (g := eV 5) (ρ := [.ow true (obS ns s3), .fz (wd cs), .ow false (.ls (l.map wd)), .fz (I j), .fz (I k), .fz (wd u)]) (b := false) (xs := l.map wd) (ys := l.map wd ++ [wd u]) (d := wd u) rfl rfl (b' := false) (xs' := l.map wd) rfl (by rw [app_ap, if_pos la])
      rw [seqS_ap, s4, Res.bind_ok]
      dsimp only
      rw [seqS_ap, s5, Res.bind_ok]
      dsimp only
      rw [seqS_ap, em, Res.bind_ok]
      dsimp only
      rw [ifS_ap, t2, Res.bind_ok, if_pos rfl, ma, List.map_append]
      rfl
  have ll : l.length ≤ 1 + v := by simpa using ll
  refine ⟨l, s2, r, by omega, ?_⟩
  refine bodyF_rt (n := 6) (g := g__law_rows) (r := [.ow true (obS ns s2), .fz (wd cs), .fz (.list (l.map wd)), x3, x4, x5]) rfl ?_ rfl
  show g__law_rows [.ow true (obS ns s), .fz (wd cs), .un, .un, .un, .un] = _
  unfold g__law_rows
  have s1' : setO 2 (eLst []) [.ow true (obS ns s), .fz (wd cs), .un, .un, .un, .un] = .ok .nx [.ow true (obS ns s), .fz (wd cs), .ow false (.ls []), .un, .un, .un] := by simp
  have r1 := rg1_n (1 + v) (by omega)
  rw [Int.natCast_add] at r1
  have r1 : rg1D (.int (1 + (v : Int))) = _ := r1
  have g1 : e1 rg1D (.g (e2 addD (.g (eC (.int 1))) (.g (callE F__law_next [.s 0, .g (eC (.int 5))])))) [.ow true (obS ns s), .fz (wd cs), .ow false (.ls []), .un, .un, .un] = .ok ((List.range (1 + v)).map I) [.ow true (obS ns s1), .fz (wd cs), .ow false (.ls []), .un, .un, .un] := by
    generalize (eC (.int 5)) = G at *
    simp only [e1_ap, opd_g, e2_ap, eC_ap, Res.bind_ok, e, fin_d, obind, I, add_int, ofO_some, r1]
  rw [seqS_ap, s1', Res.bind_ok]
  dsimp only
  rw [seqS_ap, forS_ap, g1, Res.bind_ok]
  have el : loopS (tgN 3) B__law_rows_1 ((List.range (1 + v)).map I) [.ow true (obS ns s1), .fz (wd cs), .ow false (.ls []), .un, .un, .un] = .ok .nx [.ow true (obS ns s2), .fz (wd cs), .ow false (.ls (l.map wd)), x3, x4, x5] := el
  rw [el, Res.bind_ok]
  dsimp only
  rw [rtS_ap, eV_ap]
  rfl
end K65
end
section
set_option autoImplicit false
set_option maxRecDepth 100000
set_option Elab.async false
set_option linter.all false
namespace K65
open PySem DL L2 SX
def okJ : Itm → Prop
  | .w w => w.length ≤ 900 ∧ ∀ c ∈ w, c < 123
  | .tup l => l.length ≤ 900
  | _ => False
theorem okJ.ok {x : Itm} (h : okJ x) : okI x := by
  cases x with
  | w w => exact ⟨by have := h.1; omega, h.2⟩
  | tup l => show l.length ≤ 1000; have : l.length ≤ 900 := h; omega
  | int _ => exact h.elim
  | non => exact h.elim
  | ls _ => exact h.elim
theorem cutL_from {α : Type} (xs : List α) (k : Nat) : cutL xs (some (k : Int)) none = xs.drop k := by
  unfold cutL
  rw [HT.sIx_none, HT.sIx_nat]
  by_cases q : k ≤ xs.length
  · rw [Nat.min_eq_left q, List.take_of_length_le (by rw [List.length_drop]; omega)]
  · rw [Nat.min_eq_right (by omega), List.drop_of_length_le (Nat.le_refl _), List.drop_of_length_le (by omega), List.take_nil]
theorem slT_to (T : List D) (k : Nat) : slD (.tuple T) none (some (k : Int)) = some (.tuple (T.take k)) := by
  show some (PyData.tuple (cutL T none (some (k : Int)))) = _
  rw [cutL_to]
theorem slT_from (T : List D) (k : Nat) : slD (.tuple T) (some (k : Int)) none = some (.tuple (T.drop k)) := by
  show some (PyData.tuple (cutL T (some (k : Int)) none)) = _
  rw [cutL_from]
theorem addT (T U : List D) (h : T.length + U.length ≤ 16777216) : addD (.tuple T) (.tuple U) = some (.tuple (T ++ U)) := if_pos h
/-- one of four -/
theorem pick4 {v : Nat} (h : v < 4) (y : Fin 4 → Itm) : ixD (.list [itD (y 0), itD (y 1), itD (y 2), itD (y 3)]) (I v) = some (itD (y ⟨v, h⟩)) := by
  match v, h with
  | 0, _ => rfl
  | 1, _ => rfl
  | 2, _ => rfl
  | 3, _ => rfl
def midT : Ev D := (e2 addD (.g (eSl slD (.b 2) none (some (eV 4)))) (.g (eSl slD (.b 2) (some (e2 addD (.b 4) (.g (eC (.int 1))))) none)))
def putT (L : Ev D) : Ev D := (e2 addD (.g (e2 addD (.g (eSl slD (.b 2) none (some (eV 4)))) (.g (eTup [L])))) (.g (eSl slD (.b 2) (some (e2 addD (.b 4) (.g (eC (.int 1))))) none)))
theorem midT_run {T : List D} {v : Nat} (hT : T.length ≤ 1000) (R x1 x3 : Sl) : midT [R, x1, .fz (.tuple T), x3, .fz (I v)] = .ok (.tuple (T.take v ++ T.drop (v + 1))) [R, x1, .fz (.tuple T), x3, .fz (I v)] := by
  have s1 := slT_to T v
  have s2 := slT_from T (v + 1)
  rw [Int.natCast_add] at s2
  have s2 : slD (.tuple T) (some ((v : Int) + 1)) none = _ := s2
  have a1 := addT (T.take v) (T.drop (v + 1)) (by rw [List.length_take, List.length_drop]; omega)
  unfold midT I
  simp [-Option.bind_some, -Option.bind_none, eSl, optE, s1, s2, a1]
theorem putT_run {T : List D} {v : Nat} {L : Ev D} {d : D} (hT : T.length ≤ 1000) (R x1 x3 : Sl) (hL : L [R, x1, .fz (.tuple T), x3, .fz (I v)] = .ok d [R, x1, .fz (.tuple T), x3, .fz (I v)]) : putT L [R, x1, .fz (.tuple T), x3, .fz (I v)] = .ok (.tuple (T.take v ++ [d] ++ T.drop (v + 1))) [R, x1, .fz (.tuple T), x3, .fz (I v)] := by
  have s1 := slT_to T v
  have s2 := slT_from T (v + 1)
  rw [Int.natCast_add] at s2
  have s2 : slD (.tuple T) (some ((v : Int) + 1)) none = _ := s2
  have a1 := addT (T.take v) [d] (by rw [List.length_take]; simp; omega)
  have a2 := addT (T.take v ++ [d]) (T.drop (v + 1)) (by rw [List.length_append, List.length_take, List.length_drop]; simp; omega)
  have hA : e2 addD (.g (eSl slD (.b 2) none (some (eV 4)))) (.g (eTup [L])) [R, x1, .fz (.tuple T), x3, .fz (I v)] = .ok (.tuple (T.take v ++ [d])) [R, x1, .fz (.tuple T), x3, .fz (I v)] := by
    have h1 : eSl slD (.b 2) none (some (eV 4)) [R, x1, .fz (.tuple T), x3, .fz (I v)] = .ok (.tuple (T.take v)) [R, x1, .fz (.tuple T), x3, .fz (I v)] := by
      unfold I
      simp [-Option.bind_some, -Option.bind_none, eSl, optE, s1]
    have h2 : eTup [L] [R, x1, .fz (.tuple T), x3, .fz (I v)] = .ok (.tuple [d]) [R, x1, .fz (.tuple T), x3, .fz (I v)] := by simp [hL]
    simp only [e2_ap, opd_g, h1, h2, Res.bind_ok, fin_d, obind, a1, ofO_some]
  have hB : eSl slD (.b 2) (some (e2 addD (.b 4) (.g (eC (.int 1))))) none [R, x1, .fz (.tuple T), x3, .fz (I v)] = .ok (.tuple (T.drop (v + 1))) [R, x1, .fz (.tuple T), x3, .fz (I v)] := by
    unfold I
    simp [-Option.bind_some, -Option.bind_none, eSl, optE, s2]
  unfold putT
  rw [e2_ap, opd_g, hA, Res.bind_ok, Res.bind_ok, opd_g, hB]
  simp only [Res.bind_ok, fin_d, obind, a2, ofO_some]
def LE : Ev D := (e2 ixD (.g (eFz (eLst [(eC .none), (e2 addD (.g (e2 ixD (.b 2) (.b 4))) (.g (eTup [(eC (.int 0))]))), (eSl slD (.g (e2 ixD (.b 2) (.b 4))) (some (eC (.int 1))) none), (e2 addD (.g (e2 ixD (.b 2) (.b 4))) (.g (eTup [(eC (.int 9))])))]))) (.g (e2 subD (.b 3) (.g (eC (.int 2))))))
def LF : Ev D := (e2 ixD (.g (eFz (eLst [(e2 addD (.g (e2 ixD (.b 2) (.b 4))) (.g (e2 ixD (.b 1) (.g (eC (.int 0)))))), (eSl slD (.g (e2 ixD (.b 2) (.b 4))) (some (eC (.int 1))) none), (eC (.int 5)), (eC .none)]))) (.g (e2 subD (.b 3) (.g (eC (.int 2))))))
def restT : Ev Fl := (seqS (ifS (eT (e2 eqD (.b 3) (.g (eC (.int 1))))) (rtS midT) nxS) (seqS (ifS (eT (e2 eqD (.b 3) (.g (eC (.int 2))))) (rtS (e1 revD (.b 2))) nxS) (seqS (ifS (e1 truD (.g (e1 (isiD "tuple") (.g (e2 ixD (.b 2) (.b 4)))))) (rtS (putT LE)) nxS) (rtS (putT LF)))))
theorem gT : g__law_turned = seqS (setS 3 (callE (F__law_next) [.s 0, .g (eC (.int 6))])) (seqS (ifS (eOr (eT (e2 eqD (.b 2) (.g (eTup [])))) (eT (e2 eqD (.b 3) (.g (eC (.int 0))))))
    (rtS (e2 addD (.b 2) (.g (eTup [(e2 ixD (.g (eFz (eLst [(eTup [(eC (.int 0))]), (eC (.str (Str.ofString "a"))), (eV 1), (eC (.int 5))]))) (.g (callE (F__law_next) [.s 0, .g (eC (.int 4))])))]))))
    nxS) (seqS (setS 4 (callE (F__law_next) [.s 0, .g (e1 lenD (.b 2))])) restT)) := rfl
theorem LE_run {l : List Int} (hl : l.length ≤ 900) {T : List D} {k v : Nat} (ix : ixD (.tuple T) (I v) = some (.tuple (l.map PyData.int))) (k3 : 3 ≤ k) (k6 : k < 6) (R x1 : Sl) : ∃ y, okI y ∧ LE [R, x1, .fz (.tuple T), .fz (I k), .fz (I v)] = .ok (itD y) [R, x1, .fz (.tuple T), .fz (I k), .fz (I v)] := by
  have a0 := addT (l.map PyData.int) [.int 0] (by simp; omega)
  have a9 := addT (l.map PyData.int) [.int 9] (by simp; omega)
  have s1 : slD (.tuple (l.map PyData.int)) (some (1 : Int)) none = some (.tuple ((l.map PyData.int).drop 1)) := slT_from (l.map PyData.int) 1
  let y : Fin 4 → Itm := fun j => match j with | 0 => .non | 1 => .tup (l ++ [0]) | 2 => .tup (l.drop 1) | 3 => .tup (l ++ [9])
  have oy : ∀ j, okI (y j) := fun j => match j with
    | 0 => trivial
    | 1 => by show (l ++ [0]).length ≤ 1000; simp; omega
    | 2 => by show (l.drop 1).length ≤ 1000; simp; omega
    | 3 => by show (l ++ [9]).length ≤ 1000; simp; omega
  have k4 : k - 2 < 4 := by omega
  have pk := pick4 k4 y
  have e1' : itD (y 1) = .tuple (l.map PyData.int ++ [.int 0]) := by show PyData.tuple ((l ++ [0]).map PyData.int) = _; simp
  have e2' : itD (y 2) = .tuple ((l.map PyData.int).drop 1) := by show PyData.tuple ((l.drop 1).map PyData.int) = _; rw [List.map_drop]
  have e3' : itD (y 3) = .tuple (l.map PyData.int ++ [.int 9]) := by show PyData.tuple ((l ++ [9]).map PyData.int) = _; simp
  have e0' : itD (y 0) = .none := rfl
  rw [e0', e1', e2', e3'] at pk
  have ks : (k : Int) - 2 = ((k - 2 : Nat) : Int) := by omega
  refine ⟨y ⟨k - 2, k4⟩, oy _, ?_⟩
  generalize itD (y ⟨k - 2, k4⟩) = dy at *
  generalize l.map PyData.int = lD at *
  have hl4 : eLst [(eC .none), (e2 addD (.g (e2 ixD (.b 2) (.b 4))) (.g (eTup [(eC (.int 0))]))), (eSl slD (.g (e2 ixD (.b 2) (.b 4))) (some (eC (.int 1))) none), (e2 addD (.g (e2 ixD (.b 2) (.b 4))) (.g (eTup [(eC (.int 9))])))] [R, x1, .fz (.tuple T), .fz (I k), .fz (I v)] = .ok (.ls [.none, .tuple (lD ++ [.int 0]), .tuple (lD.drop 1), .tuple (lD ++ [.int 9])]) [R, x1, .fz (.tuple T), .fz (I k), .fz (I v)] := by
    simp [-DL.ix_tup, -Option.bind_some, -Option.bind_none, eSl, optE, ix, a0, a9, s1]
  have hs : e2 subD (.b 3) (.g (eC (.int 2))) [R, x1, .fz (.tuple T), .fz (I k), .fz (I v)] = .ok (I (k - 2)) [R, x1, .fz (.tuple T), .fz (I k), .fz (I v)] := by
    show _ = Res.ok (PyData.int ((k - 2 : Nat) : Int)) _
    rw [← ks]
    simp [-Option.bind_some, -Option.bind_none, I]
  unfold LE
  rw [e2_ap, opd_g, eFz_ap, hl4]
  simp only [Res.bind_ok, opd_g, hs, fin_d, obind, pk, ofO_some]
theorem LF_run {w cs : Wd} (ow : w.length ≤ 900 ∧ ∀ c ∈ w, c < 123) (hc : 1 ≤ cs.length) (hl : cs.length ≤ 4) (hb : ∀ c ∈ cs, c < 123) {T : List D} {k v : Nat} (ix : ixD (.tuple T) (I v) = some (wd w)) (k3 : 3 ≤ k) (k6 : k < 6) (R : Sl) : ∃ y, okI y ∧ LF [R, .fz (wd cs), .fz (.tuple T), .fz (I k), .fz (I v)] = .ok (itD y) [R, .fz (wd cs), .fz (.tuple T), .fz (I k), .fz (I v)] := by
  have c0 := it_sign (cs := cs) (v := 0) (by omega) (by omega)
  have mc : cs[0] < 123 := hb _ (List.getElem_mem _)
  have c0 : ixD (wd cs) (.int 0) = some (wd [cs[0]]) := c0
  generalize cs[0] = c at c0 mc
  have a0 := add_wd w [c] (by simp; omega)
  have s1 : slD (wd w) (some (1 : Int)) none = some (wd (w.drop 1)) := sl_from w 1 (by omega)
  let y : Fin 4 → Itm := fun j => match j with | 0 => .w (w ++ [c]) | 1 => .w (w.drop 1) | 2 => .int 5 | 3 => .non
  have oy : ∀ j, okI (y j) := fun j => match j with
    | 0 => ⟨by rw [List.length_append]; simp; omega, fun x hx => by
        rcases List.mem_append.mp hx with q | q
        · exact ow.2 x q
        · rw [List.mem_singleton.mp q]; exact mc⟩
    | 1 => ⟨by rw [List.length_drop]; omega, fun x hx => ow.2 x (List.mem_of_mem_drop hx)⟩
    | 2 => trivial
    | 3 => trivial
  have k4 : k - 2 < 4 := by omega
  have pk := pick4 k4 y
  have pk : ixD (.list [wd (w ++ [c]), wd (w.drop 1), .int 5, .none]) (I (k - 2)) = some (itD (y ⟨k - 2, k4⟩)) := pk
  have ks : (k : Int) - 2 = ((k - 2 : Nat) : Int) := by omega
  refine ⟨y ⟨k - 2, k4⟩, oy _, ?_⟩
  generalize itD (y ⟨k - 2, k4⟩) = dy at *
  have hl4 : eLst [(e2 addD (.g (e2 ixD (.b 2) (.b 4))) (.g (e2 ixD (.b 1) (.g (eC (.int 0)))))), (eSl slD (.g (e2 ixD (.b 2) (.b 4))) (some (eC (.int 1))) none), (eC (.int 5)), (eC .none)] [R, .fz (wd cs), .fz (.tuple T), .fz (I k), .fz (I v)] = .ok (.ls [wd (w ++ [c]), wd (w.drop 1), .int 5, .none]) [R, .fz (wd cs), .fz (.tuple T), .fz (I k), .fz (I v)] := by
    simp [-DL.ix_tup, -Option.bind_some, -Option.bind_none, eSl, optE, ix, a0, s1, c0]
  have hs : e2 subD (.b 3) (.g (eC (.int 2))) [R, .fz (wd cs), .fz (.tuple T), .fz (I k), .fz (I v)] = .ok (I (k - 2)) [R, .fz (wd cs), .fz (.tuple T), .fz (I k), .fz (I v)] := by
    show _ = Res.ok (PyData.int ((k - 2 : Nat) : Int)) _
    rw [← ks]
    simp [-Option.bind_some, -Option.bind_none, I]
  unfold LF
  rw [e2_ap, opd_g, eFz_ap, hl4]
  simp only [Res.bind_ok, opd_g, hs, fin_d, obind, pk, ofO_some]
theorem turned_run (ns : List Int) (s : S4) {cs : Wd} (hc : 1 ≤ cs.length) (hl : cs.length ≤ 4) (hb : ∀ c ∈ cs, c < 123) {xs : List Itm} (hx : ∀ x ∈ xs, okJ x) (lx : xs.length ≤ 90) :
    ∃ (ys : List Itm) (s' : S4), (∀ y ∈ ys, okI y) ∧ ys.length ≤ 100 ∧ F__law_turned [.ow true (obS ns s), .fz (wd cs), .fz (.tuple (xs.map itD))] = .ok (.tuple (ys.map itD)) [.ow true (obS ns s'), .un, .un] := by
  obtain ⟨k, s1, k6, ek⟩ := nextE ns s (i := 0) (b := true) (ga := eC (.int 6)) (n := 6) (ρ := [.ow true (obS ns s), .fz (wd cs), .fz (.tuple (xs.map itD)), .un, .un]) rfl rfl (by omega) (by omega)
  have ek : callE F__law_next [.s 0, .g (eC (.int 6))] [.ow true (obS ns s), .fz (wd cs), .fz (.tuple (xs.map itD)), .un, .un] = .ok (I k) [.ow true (obS ns s1), .fz (wd cs), .fz (.tuple (xs.map itD)), .un, .un] := ek
  have s3 : setS 3 (callE F__law_next [.s 0, .g (eC (.int 6))]) [.ow true (obS ns s), .fz (wd cs), .fz (.tuple (xs.map itD)), .un, .un] = .ok .nx [.ow true (obS ns s1), .fz (wd cs), .fz (.tuple (xs.map itD)), .fz (I k), .un] := by
    rw [setS_ap, ek, Res.bind_ok]
    rfl
  have okT : ∀ d ∈ xs.map itD, okN 2 d := fun d hd => by
    obtain ⟨x, mx, rfl⟩ := List.mem_map.mp hd
    exact ok_itD (hx x mx).ok
  have lT : (xs.map itD).length = xs.length := List.length_map ..
  have okx : ∀ x ∈ xs, okI x := fun x hx' => (hx x hx').ok
  have oks : okw cs := ⟨by omega, hb⟩
  have hk : ∀ (s1 : S4) (x4 : Sl) (j : Nat), eT (e2 eqD (.b 3) (.g (eC (.int (j : Int))))) [.ow true (obS ns s1), .fz (wd cs), .fz (.tuple (xs.map itD)), .fz (I k), x4] = .ok (decide (k = j)) [.ow true (obS ns s1), .fz (wd cs), .fz (.tuple (xs.map itD)), .fz (I k), x4] := fun s1 x4 j => by
    have q : eqD (I k) (.int (j : Int)) = some (.bool (decide (k = j))) := by
      show eqD (.int (k : Int)) (.int (j : Int)) = _
      rw [eq_int]
      congr 2
      exact decide_eq_decide.mpr (by omega)
    generalize xs.map itD = T at *
    simp [-Option.bind_some, -Option.bind_none, q]
  have he : eqD (.tuple (xs.map itD)) (.tuple []) = some (.bool xs.isEmpty) := by
    rw [eqD_ok ((ok_tup okT).mono (by omega)) ((ok_tup (n := 0) (ds := []) fun d hd => by simp at hd).mono (by omega))]
    cases xs <;> rfl
  have c1 : eOr (eT (e2 eqD (.b 2) (.g (eTup [])))) (eT (e2 eqD (.b 3) (.g (eC (.int 0))))) [.ow true (obS ns s1), .fz (wd cs), .fz (.tuple (xs.map itD)), .fz (I k), .un] = .ok (xs.isEmpty || decide (k = 0)) [.ow true (obS ns s1), .fz (wd cs), .fz (.tuple (xs.map itD)), .fz (I k), .un] := by
    have h0 : eT (e2 eqD (.b 3) (.g (eC (.int 0)))) [.ow true (obS ns s1), .fz (wd cs), .fz (.tuple (xs.map itD)), .fz (I k), .un] = _ := hk s1 .un 0
    have h1 : eT (e2 eqD (.b 2) (.g (eTup []))) [.ow true (obS ns s1), .fz (wd cs), .fz (.tuple (xs.map itD)), .fz (I k), .un] = .ok xs.isEmpty [.ow true (obS ns s1), .fz (wd cs), .fz (.tuple (xs.map itD)), .fz (I k), .un] := by
      generalize xs.map itD = T at *
      generalize xs.isEmpty = B at *
      simp [-Option.bind_some, -Option.bind_none, he]
    rw [eOr_ap, h1, Res.bind_ok, h0]
    cases xs.isEmpty <;> rfl
  suffices hs : ∃ (ys : List Itm) (s' : S4), (∀ y ∈ ys, okI y) ∧ ys.length ≤ 100 ∧ ∃ x4, g__law_turned [.ow true (obS ns s), .fz (wd cs), .fz (.tuple (xs.map itD)), .un, .un] = .ok (.rt (.tuple (ys.map itD))) [.ow true (obS ns s'), .fz (wd cs), .fz (.tuple (xs.map itD)), .fz (I k), x4] by
    obtain ⟨ys, s', o1, o2, x4, e⟩ := hs
    exact ⟨ys, s', o1, o2, bodyF_rt (n := 5) (g := g__law_turned) rfl e rfl⟩
  by_cases cc : (xs.isEmpty || decide (k = 0)) = true
  · rw [cc] at c1
    obtain ⟨v, s2, v4, ev⟩ := nextE ns s1 (i := 0) (b := true) (ga := eC (.int 4)) (n := 4) (ρ := [.ow true (obS ns s1), .fz (wd cs), .fz (.tuple (xs.map itD)), .fz (I k), .un]) rfl rfl (by omega) (by omega)
    have ev : callE F__law_next [.s 0, .g (eC (.int 4))] [.ow true (obS ns s1), .fz (wd cs), .fz (.tuple (xs.map itD)), .fz (I k), .un] = .ok (I v) [.ow true (obS ns s2), .fz (wd cs), .fz (.tuple (xs.map itD)), .fz (I k), .un] := ev
    let y : Fin 4 → Itm := fun j => match j with | 0 => .tup [0] | 1 => .w [97] | 2 => .w cs | 3 => .int 5
    have oy : ∀ j, okI (y j) := fun j => match j with
      | 0 => by show ([0] : List Int).length ≤ 1000; simp
      | 1 => ⟨by simp, by simp⟩
      | 2 => oks
      | 3 => trivial
    have pk := pick4 v4 y
    have pk : ixD (.list [.tuple [.int 0], wd [97], wd cs, .int 5]) (I v) = some (itD (y ⟨v, v4⟩)) := pk
    have ea : PyData.str (Str.ofString "a") = wd [97] := congrArg PyData.str (show Str.ofString "a" = S [97] by decide +kernel)
    refine ⟨xs ++ [y ⟨v, v4⟩], s2, fun z hz => ?_, by rw [List.length_append]; simp; omega, .un, ?_⟩
    · rcases List.mem_append.mp hz with q | q
      · exact okx z q
      · rw [List.mem_singleton.mp q]; exact oy _
    · rw [List.map_append, List.map_cons, List.map_nil]
      generalize itD (y ⟨v, v4⟩) = dy at pk
      have hp : e2 ixD (.g (eFz (eLst [(eTup [(eC (.int 0))]), (eC (.str (Str.ofString "a"))), (eV 1), (eC (.int 5))]))) (.g (callE (F__law_next) [.s 0, .g (eC (.int 4))])) [.ow true (obS ns s1), .fz (wd cs), .fz (.tuple (xs.map itD)), .fz (I k), .un] = .ok dy [.ow true (obS ns s2), .fz (wd cs), .fz (.tuple (xs.map itD)), .fz (I k), .un] := by
        generalize xs.map itD = T at *
        generalize hG : (eC (.int 4)) = G at ev
        simp [-callE_ap, -DL.ix_list, -Option.bind_some, -Option.bind_none, hG, ev, ea, pk]
      have a1 := addT (xs.map itD) [dy] (by rw [lT]; simp; omega)
      have ht : eTup [(e2 ixD (.g (eFz (eLst [(eTup [(eC (.int 0))]), (eC (.str (Str.ofString "a"))), (eV 1), (eC (.int 5))]))) (.g (callE (F__law_next) [.s 0, .g (eC (.int 4))])))] [.ow true (obS ns s1), .fz (wd cs), .fz (.tuple (xs.map itD)), .fz (I k), .un] = .ok (.tuple [dy]) [.ow true (obS ns s2), .fz (wd cs), .fz (.tuple (xs.map itD)), .fz (I k), .un] := by
        rw [eTup_ap, eL_cons, hp, Res.bind_ok, eL_nil, Res.bind_ok, Res.bind_ok]
        rfl
      unfold g__law_turned
      rw [seqS_ap, s3, Res.bind_ok]
      dsimp only
      rw [seqS_ap, ifS_ap, c1, Res.bind_ok, if_pos rfl, rtS_ap, e2_ap, opd_b]
      simp only [pk_ap, List.getElem?_cons_succ, List.getElem?_cons_zero, obind, pkf, ofO_some, Res.bind_ok, opd_g, ht, fin_v, fin_d, a1]
  · have cc : (xs.isEmpty || decide (k = 0)) = false := by simpa using cc
    rw [cc] at c1
    simp only [Bool.or_eq_false_iff, decide_eq_false_iff_not] at cc
    obtain ⟨cx, ck⟩ := cc
    have l1 : 1 ≤ xs.length := by
      cases xs with
      | nil => cases cx
      | cons x xs => simp
    obtain ⟨v, s2, vl, ev⟩ := nextE ns s1 (i := 0) (b := true) (ga := e1 lenD (.b 2)) (n := xs.length) (ρ := [.ow true (obS ns s1), .fz (wd cs), .fz (.tuple (xs.map itD)), .fz (I k), .un]) rfl (by simp [-Option.bind_some, -Option.bind_none]) l1 (by omega)
    have ev : callE F__law_next [.s 0, .g (e1 lenD (.b 2))] [.ow true (obS ns s1), .fz (wd cs), .fz (.tuple (xs.map itD)), .fz (I k), .un] = .ok (I v) [.ow true (obS ns s2), .fz (wd cs), .fz (.tuple (xs.map itD)), .fz (I k), .un] := ev
    have s4 : setS 4 (callE F__law_next [.s 0, .g (e1 lenD (.b 2))]) [.ow true (obS ns s1), .fz (wd cs), .fz (.tuple (xs.map itD)), .fz (I k), .un] = .ok .nx [.ow true (obS ns s2), .fz (wd cs), .fz (.tuple (xs.map itD)), .fz (I k), .fz (I v)] := by
      rw [setS_ap, ev, Res.bind_ok]
      rfl
    have h1 : eT (e2 eqD (.b 3) (.g (eC (.int 1)))) [.ow true (obS ns s2), .fz (wd cs), .fz (.tuple (xs.map itD)), .fz (I k), .fz (I v)] = _ := hk s2 (.fz (I v)) 1
    have h2 : eT (e2 eqD (.b 3) (.g (eC (.int 2)))) [.ow true (obS ns s2), .fz (wd cs), .fz (.tuple (xs.map itD)), .fz (I k), .fz (I v)] = _ := hk s2 (.fz (I v)) 2
    have ex : xs[v]? = some xs[v] := List.getElem?_eq_getElem vl
    have mx : xs[v] ∈ xs := List.getElem_mem vl
    generalize xs[v] = x at ex mx
    have ix : ixD (.tuple (xs.map itD)) (I v) = some (itD x) := by
      show ixD (.tuple (xs.map itD)) (.int (v : Int)) = _
      rw [DL.ix_tup, atI_n, List.getElem?_map, ex]
      rfl
    have jx := hx x mx
    have tk : ∀ z ∈ xs.take v, okI z := fun z hz => okx z (List.mem_of_mem_take hz)
    have dr : ∀ z ∈ xs.drop (v + 1), okI z := fun z hz => okx z (List.mem_of_mem_drop hz)
    have lx2 : (xs.map itD).length ≤ 1000 := by rw [lT]; omega
    suffices hs : ∃ ys : List Itm, (∀ y ∈ ys, okI y) ∧ ys.length ≤ 100 ∧ restT [.ow true (obS ns s2), .fz (wd cs), .fz (.tuple (xs.map itD)), .fz (I k), .fz (I v)] = .ok (.rt (.tuple (ys.map itD))) [.ow true (obS ns s2), .fz (wd cs), .fz (.tuple (xs.map itD)), .fz (I k), .fz (I v)] by
      obtain ⟨ys, o1, o2, e⟩ := hs
      refine ⟨ys, s2, o1, o2, .fz (I v), ?_⟩
      rw [gT, seqS_ap, s3, Res.bind_ok]
      dsimp only
      rw [seqS_ap, ifS_ap, c1, Res.bind_ok, if_neg Bool.false_ne_true, nxS_ap, Res.bind_ok]
      dsimp only
      rw [seqS_ap, s4, Res.bind_ok]
      exact e
    have put_ok : ∀ (L : Ev D) (y : Itm), okI y → L [.ow true (obS ns s2), .fz (wd cs), .fz (.tuple (xs.map itD)), .fz (I k), .fz (I v)] = .ok (itD y) [.ow true (obS ns s2), .fz (wd cs), .fz (.tuple (xs.map itD)), .fz (I k), .fz (I v)] → ∃ ys : List Itm, (∀ y ∈ ys, okI y) ∧ ys.length ≤ 100 ∧ putT L [.ow true (obS ns s2), .fz (wd cs), .fz (.tuple (xs.map itD)), .fz (I k), .fz (I v)] = .ok (.tuple (ys.map itD)) [.ow true (obS ns s2), .fz (wd cs), .fz (.tuple (xs.map itD)), .fz (I k), .fz (I v)] := fun L y oy e => by
      refine ⟨xs.take v ++ [y] ++ xs.drop (v + 1), fun z hz => ?_, by simp; omega, ?_⟩
      · rcases List.mem_append.mp hz with q | q
        · rcases List.mem_append.mp q with q | q
          · exact tk z q
          · rw [List.mem_singleton.mp q]; exact oy
        · exact dr z q
      · rw [putT_run lx2 _ _ _ e, List.map_append, List.map_append, List.map_take, List.map_drop]
        rfl
    unfold restT
    by_cases k1 : k = 1
    · refine ⟨xs.take v ++ xs.drop (v + 1), fun z hz => (List.mem_append.mp hz).elim (tk z) (dr z), by simp; omega, ?_⟩
      simp only [k1, decide_true] at h1
      subst k1
      rw [seqS_ap, ifS_ap, h1, Res.bind_ok, if_pos rfl, rtS_ap, midT_run lx2, List.map_append, List.map_take, List.map_drop]
      rfl
    · simp only [k1, decide_false] at h1
      by_cases k2 : k = 2
      · refine ⟨xs.reverse, fun z hz => okx z (List.mem_reverse.mp hz), by simp; omega, ?_⟩
        simp only [k2, decide_true] at h2
        subst k2
        have rv : revD (.tuple (xs.map itD)) = some (.tuple (xs.reverse.map itD)) := by rw [List.map_reverse]; rfl
        rw [seqS_ap, ifS_ap, h1, Res.bind_ok, if_neg Bool.false_ne_true, nxS_ap, Res.bind_ok]
        dsimp only
        rw [seqS_ap, ifS_ap, h2, Res.bind_ok, if_pos rfl, rtS_ap, e1_ap, opd_b]
        simp only [pk_ap, List.getElem?_cons_succ, List.getElem?_cons_zero, obind, pkf, ofO_some, Res.bind_ok, fin_v, rv]
      · simp only [k2, decide_false] at h2
        have it := isi_tup x
        have ht : e1 truD (.g (e1 (isiD "tuple") (.g (e2 ixD (.b 2) (.b 4))))) [.ow true (obS ns s2), .fz (wd cs), .fz (.tuple (xs.map itD)), .fz (I k), .fz (I v)] = .ok (isT x) [.ow true (obS ns s2), .fz (wd cs), .fz (.tuple (xs.map itD)), .fz (I k), .fz (I v)] := by
          generalize xs.map itD = T at *
          simp [-DL.ix_tup, -Option.bind_some, -Option.bind_none, ix, it, truD]
        cases x with
        | tup l =>
          obtain ⟨y, oy, e⟩ := LE_run (l := l) jx ix (k := k) (by omega) k6 (.ow true (obS ns s2)) (.fz (wd cs))
          obtain ⟨ys, o1, o2, e⟩ := put_ok LE y oy e
          refine ⟨ys, o1, o2, ?_⟩
          rw [seqS_ap, ifS_ap, h1, Res.bind_ok, if_neg Bool.false_ne_true, nxS_ap, Res.bind_ok]
          dsimp only
          rw [seqS_ap, ifS_ap, h2, Res.bind_ok, if_neg Bool.false_ne_true, nxS_ap, Res.bind_ok]
          dsimp only
          rw [seqS_ap, ifS_ap, ht, Res.bind_ok, if_pos (show isT (Itm.tup l) = true from rfl), rtS_ap, e]
          rfl
        | w w =>
          obtain ⟨y, oy, e⟩ := LF_run (w := w) (cs := cs) jx hc hl hb ix (k := k) (by omega) k6 (.ow true (obS ns s2))
          obtain ⟨ys, o1, o2, e⟩ := put_ok LF y oy e
          refine ⟨ys, o1, o2, ?_⟩
          rw [seqS_ap, ifS_ap, h1, Res.bind_ok, if_neg Bool.false_ne_true, nxS_ap, Res.bind_ok]
          dsimp only
          rw [seqS_ap, ifS_ap, h2, Res.bind_ok, if_neg Bool.false_ne_true, nxS_ap, Res.bind_ok]
          dsimp only
          rw [seqS_ap, ifS_ap, ht, Res.bind_ok, if_neg (by simp [isT]), nxS_ap, Res.bind_ok]
          dsimp only
          rw [rtS_ap, e]
          rfl
        | int _ => exact jx.elim
        | non => exact jx.elim
        | ls _ => exact jx.elim
end K65
end
section
set_option autoImplicit false
set_option maxRecDepth 100000
set_option Elab.async false
set_option linter.all false
namespace K65
open PySem DL L2 SX
/-! ### what a turn draws, what is due -/
structure TD (cs : Wd) (rows ws : List Wd) (o : Option Wd) (v : Wd) (X : List Itm) : Prop where
  c1 : 1 ≤ cs.length
  c4 : cs.length ≤ 4
  cb : ∀ c ∈ cs, c < 123
  ok : OkR rows
  mw : ∀ x, x ∈ ws ↔ Cl rows x
  lw : ws.length ≤ 65
  fo : Found rows o
  lo : ∀ t, o = some t → okw t ∧ t.length ≤ 212
  hv : okw v
  tx : ∀ x ∈ X, okJ x
  lx : X.length ≤ 90
  ac : acc rows v X = true
  du : pairD v (X.map itD) = codeD rows (ws.map wd) o
  co : F_code [.fz (.list (rows.map wd))] = .ok (pairD v (X.map itD)) [.un]
  re : F_remainders [.fz (.list (rows.map wd))] = .ok (.list (ws.map wd)) [.un]
  lf : F__law_left_over [.fz (.list (rows.map wd))] = .ok (.list (ws.map wd)) [.un]
  ld : F__law_least_double [.fz (.list (rows.map wd))] = .ok (oD o) [.un]
theorem td {cs : Wd} {rows : List Wd} (c1 : 1 ≤ cs.length) (c4 : cs.length ≤ 4) (cb : ∀ c ∈ cs, c < 123) (h : OkR rows) : ∃ ws o v X, TD cs rows ws o v X := by
  obtain ⟨l1, m1, e1'⟩ := left_over_run h
  obtain ⟨ws, es, nd, mw⟩ := srt_wd l1
  obtain ⟨l2, _, m2, e2'⟩ := remainders_run h
  obtain ⟨o, f, e3'⟩ := law_least_double_run h
  obtain ⟨o', l3, f', lo, m3, e4'⟩ := code_run h
  have eo : o' = o := found_eq f' f
  subst eo
  have s2 : srt l2 = ws.map wd := (srt_ext fun x => (m2 x).trans (m1 x).symm).trans es
  have s3 : srt l3 = ws.map wd := (srt_ext fun x => (m3 x).trans (m1 x).symm).trans es
  rw [es] at e1'
  rw [s2] at e2'
  rw [s3] at e4'
  have mw : ∀ x, x ∈ ws ↔ Cl rows x := fun x => (mw x).trans (m1 x)
  have lw : ws.length ≤ 65 := by
    have := nodup_sub_len nd fun x hx => cl_ends ((mw x).mp hx)
    have := ends_len h
    omega
  cases o' with
  | none =>
    have ed : pairD yesW ((ws.map Itm.w).map itD) = codeD rows (ws.map wd) none := by
      rw [itD_w]
      show _ = PyData.tuple [.str (Str.ofString "yes"), .tuple (ws.map wd)]
      rw [yes_wd]
      rfl
    have ac : acc rows yesW (ws.map Itm.w) = true := by
      unfold acc
      rw [if_neg (by decide), if_pos rfl]
      exact told_yes f mw
    refine ⟨ws, none, yesW, ws.map .w, c1, c4, cb, h, mw, lw, f, (fun t z => nomatch z), ok_yes, fun x hx => ?_, (by rw [List.length_map]; omega), ac, ed, ed ▸ e4', e2', e1', e3'⟩
    obtain ⟨w, hw, rfl⟩ := List.mem_map.mp hx
    have q := ends_ok h (cl_ends ((mw w).mp hw))
    exact ⟨by have := q.2; omega, q.1.2⟩
  | some t =>
    obtain ⟨lt, okt⟩ := lo t rfl
    obtain ⟨a, b, et, ne, ma, mb⟩ := fac_pair h f
    have ed : pairD noW ([tupN a, tupN b].map itD) = codeD rows (ws.map wd) (some t) := by
      show pairD noW [itD (tupN a), itD (tupN b)] = PyData.tuple [.str (Str.ofString "no"), .tuple (((fac rows t).take 2).map tupI)]
      rw [et, itD_tupN, itD_tupN, no_wd]
      rfl
    have ac : acc rows noW [tupN a, tupN b] = true := by
      unfold acc
      rw [if_pos rfl]
      exact told_no h ne ma mb
    refine ⟨ws, some t, noW, [tupN a, tupN b], c1, c4, cb, h, mw, lw, f, (fun u z => by cases z; exact ⟨okt, lt⟩), ok_no, fun x hx => ?_, (by simp), ac, ed, ed ▸ e4', e2', e1', e3'⟩
    have la := fac_len h.ne ma
    have lb := fac_len h.ne mb
    simp only [List.mem_cons, List.not_mem_nil, or_false] at hx
    rcases hx with rfl | rfl
    · show (a.map fun n : Nat => (n : Int)).length ≤ 900
      rw [List.length_map]; omega
    · show (b.map fun n : Nat => (n : Int)).length ≤ 900
      rw [List.length_map]; omega
/-- the law's slots -/
def LS (ns : List Int) (s : S4) (x0 x2 x3 x4 x5 x6 x7 x8 x9 x10 x11 x12 x13 x14 x15 : Sl) : Rho := [x0, .ow false (obS ns s), x2, x3, x4, x5, x6, x7, x8, x9, x10, x11, x12, x13, x14, x15]
theorem setS_at {g : Ev D} {d : D} {ρ r : Rho} {i : Nat} {x : Sl} (hg : g ρ = .ok d r) (h : r[i]? = some x) (l : Loose x) : setS i g ρ = .ok .nx (r.set i (.fz d)) := by
  rw [setS_ap, hg, Res.bind_ok, sto_loose h l]
  rfl
theorem setO_at {g : Ev Ob} {d : Ob} {ρ r : Rho} {i : Nat} {x : Sl} (hg : g ρ = .ok d r) (h : r[i]? = some x) (l : Loose x) : setO i g ρ = .ok .nx (r.set i (.ow false d)) := by
  rw [setO_ap, hg, Res.bind_ok, sto_loose h l]
  rfl
section
variable (ns : List Int) (s : S4) (x0 x2 x3 x4 x5 x6 x7 x8 x9 x10 x11 x12 x13 x14 x15 : Sl)
theorem la_signs (l3 : Loose x3) : ∃ (cs : Wd) (s' : S4), 1 ≤ cs.length ∧ cs.length ≤ 4 ∧ (∀ c ∈ cs, c < 123) ∧ setS 3 (callE F__law_signs [.s 1]) (LS ns s x0 x2 x3 x4 x5 x6 x7 x8 x9 x10 x11 x12 x13 x14 x15) = .ok .nx (LS ns s' x0 x2 (.fz (wd cs)) x4 x5 x6 x7 x8 x9 x10 x11 x12 x13 x14 x15) := by
  obtain ⟨cs, s', _, h2, h4, hb, e⟩ := signs_run ns s
  have c := callS0 (F := F__law_signs) (i := 1) (b := false) (o := obS ns s) (ρ := LS ns s x0 x2 x3 x4 x5 x6 x7 x8 x9 x10 x11 x12 x13 x14 x15) rfl e
  exact ⟨cs, s', by omega, h4, hb, (setS_at c (x := x3) rfl l3).trans rfl⟩
theorem la_rows {cs : Wd} (c1 : 1 ≤ cs.length) (c4 : cs.length ≤ 4) (cb : ∀ c ∈ cs, c < 123) (l4 : Loose x4) : ∃ (rows : List Wd) (s' : S4), OkR rows ∧ setS 4 (callE F__law_rows [.s 1, .g (eV 3)]) (LS ns s x0 x2 (.fz (wd cs)) x4 x5 x6 x7 x8 x9 x10 x11 x12 x13 x14 x15) = .ok .nx (LS ns s' x0 x2 (.fz (wd cs)) (.fz (.list (rows.map wd))) x5 x6 x7 x8 x9 x10 x11 x12 x13 x14 x15) := by
  obtain ⟨rows, s', r, hl, e⟩ := rows_run ns s c1 c4 cb
  have c := callS1 (F := F__law_rows) (i := 1) (b := false) (o := obS ns s) (ga := eV 3) (ρ := LS ns s x0 x2 (.fz (wd cs)) x4 x5 x6 x7 x8 x9 x10 x11 x12 x13 x14 x15) rfl rfl e
  exact ⟨rows, s', r.ok hl, (setS_at c (x := x4) rfl l4).trans rfl⟩
end
variable {ns : List Int} {s : S4} {x0 x2 x3 x4 x5 x6 x7 x8 x9 x10 x11 x12 x13 x14 x15 : Sl} {cs v : Wd} {rows ws : List Wd} {o : Option Wd} {X : List Itm}
theorem la_rest (t : TD cs rows ws o v X) (l5 : Loose x5) : setS 5 (callE F__law_left_over [.g (eV 4)]) (LS ns s x0 x2 (.fz (wd cs)) (.fz (.list (rows.map wd))) x5 x6 x7 x8 x9 x10 x11 x12 x13 x14 x15) = .ok .nx (LS ns s x0 x2 (.fz (wd cs)) (.fz (.list (rows.map wd))) (.fz (.list (ws.map wd))) x6 x7 x8 x9 x10 x11 x12 x13 x14 x15) :=
  (setS_at (call1 (ga := eV 4) rfl t.lf) (x := x5) rfl l5).trans rfl
theorem la_dbl (t : TD cs rows ws o v X) (l6 : Loose x6) : setS 6 (callE F__law_least_double [.g (eV 4)]) (LS ns s x0 x2 (.fz (wd cs)) (.fz (.list (rows.map wd))) (.fz (.list (ws.map wd))) x6 x7 x8 x9 x10 x11 x12 x13 x14 x15) = .ok .nx (LS ns s x0 x2 (.fz (wd cs)) (.fz (.list (rows.map wd))) (.fz (.list (ws.map wd))) (.fz (oD o)) x7 x8 x9 x10 x11 x12 x13 x14 x15) :=
  (setS_at (call1 (ga := eV 4) rfl t.ld) (x := x6) rfl l6).trans rfl
end K65
end
section
set_option autoImplicit false
set_option maxRecDepth 100000
set_option Elab.async false
set_option linter.all false
namespace K65
open PySem DL L2 SX
theorem call1' {F : Rho → Res D} {ga : Ev D} {a d : D} {ρ ρ' out : Rho} (ha : ga ρ = .ok a ρ') (hf : F [.fz a] = .ok d out) : callE F [.g ga] ρ = .ok d ρ' := by
  have ea : argsE [.g ga] ρ = .ok [.d a] ρ' := by simp only [args_cons_ap, argE_g, ha, Res.bind_ok, args_nil_ap]
  rw [callE_ap, ea, Res.bind_ok, callR_ok (avs := [.d a]) (as := [.fz a]) .nil rfl hf, put_d _ _ _ rfl]
theorem not_none (o : Option Wd) : notND (oD o) .none = some (.bool o.isSome) := by cases o <;> rfl
theorem ne_bool (a b : Bool) : neD (.bool a) (.bool b) = some (.bool (!decide (a = b))) := by
  rw [neD_ok ((ok_bool a).mono (by omega)) ((ok_bool b).mono (by omega))]
  cases a <;> cases b <;> rfl
theorem ne_self {d : D} (h : okN 64 d) : neD d d = some (.bool false) := by rw [neD_ok h h, eqv_refl d h.1]; rfl
theorem okS_itm {x : Itm} (h : okJ x) : okS 1 (itD x) := by
  cases x with
  | w w => exact .inl (.inr (.inr (.inr ⟨S w, rfl, ok_wd (okJ.ok h)⟩)))
  | tup l =>
    have hl : l.length ≤ 900 := h
    refine .inr ⟨l.map PyData.int, .inr rfl, by rw [List.length_map]; omega, fun d hd => ?_⟩
    obtain ⟨i, _, rfl⟩ := List.mem_map.mp hd
    exact .inr (.inr (.inl ⟨i, rfl⟩))
  | int _ => exact h.elim
  | non => exact h.elim
  | ls _ => exact h.elim
theorem okS_pair {v : Wd} (hv : okw v) {X : List Itm} (h : ∀ x ∈ X, okJ x) (hl : X.length ≤ 90) : okS 3 (pairD v (X.map itD)) := by
  refine .inr ⟨[wd v, .tuple (X.map itD)], .inr rfl, by simp, fun d hd => ?_⟩
  simp only [List.mem_cons, List.not_mem_nil, or_false] at hd
  rcases hd with rfl | rfl
  · exact .inl (.inr (.inr (.inr ⟨S v, rfl, ok_wd hv⟩)))
  · refine .inr ⟨X.map itD, .inr rfl, by rw [List.length_map]; omega, fun d hd => ?_⟩
    obtain ⟨x, mx, rfl⟩ := List.mem_map.mp hd
    exact okS_itm (h x mx)
theorem okS_words {ws : List Wd} (h : ∀ w ∈ ws, okw w) (hl : ws.length ≤ 100) : okS 1 (.list (ws.map wd)) := by
  refine .inr ⟨ws.map wd, .inl rfl, by rw [List.length_map]; omega, fun d hd => ?_⟩
  obtain ⟨w, mw, rfl⟩ := List.mem_map.mp hd
  exact .inr (.inr (.inr ⟨S w, rfl, ok_wd (h w mw)⟩))
theorem ok_words {ws : List Wd} (h : ∀ w ∈ ws, okw w) : okN 1 (.list (ws.map wd)) := ok_list fun d hd => by
  obtain ⟨w, mw, rfl⟩ := List.mem_map.mp hd
  exact ok_wd (h w mw)
theorem same2 {ga gb : Ev D} {d : D} {ρ : Rho} {n : Nat} (h : okS n d) (hn : n < 6) (ha : ga ρ = .ok d ρ) (hb : gb ρ = .ok d ρ) : e1 truD (.g (callE (F__law_same 6) [.g ga, .g gb])) ρ = .ok true ρ := by
  have c := call2 ha hb (same_refl n d 6 h hn)
  simp [-callE_ap, -Option.bind_some, -Option.bind_none, c, truD]
variable {ns : List Int} {s : S4} {x0 x2 x3 x4 x5 x6 x7 x8 x9 x10 x11 x12 x13 x14 x15 : Sl} {cs v : Wd} {rows ws : List Wd} {o : Option Wd} {X : List Itm}
theorem TD.okw (t : TD cs rows ws o v X) : ∀ w ∈ ws, okw w := fun w hw => (ends_ok t.ok (cl_ends ((t.mw w).mp hw))).1
theorem TD.em (t : TD cs rows ws o v X) : decide ([] ∈ ws) = o.isSome := by
  have f := t.fo
  cases o with
  | none =>
    rw [decide_eq_false]
    · rfl
    · intro z
      obtain ⟨u, q⟩ := cl_rc.mp ((t.mw []).mp z)
      exact f u q
  | some u =>
    rw [decide_eq_true]
    · rfl
    · exact (t.mw []).mpr (cl_rc.mpr ⟨u, f.1⟩)
theorem la_c1 (t : TD cs rows ws o v X) : (eOr (eT (e2 neD (.g (e2 inD (.g (eC (.str (Str.ofString "")))) (.b 5))) (.g (e2 notND (.b 6) (.g (eC .none)))))) (eAnd (eT (e2 notND (.b 6) (.g (eC .none)))) (eNot (e1 truD (.g (callE (F__law_no_lesser) [.g (eV 4), .g (eV 6), .g (eV 3)])))))) (LS ns s x0 x2 (.fz (wd cs)) (.fz (.list (rows.map wd))) (.fz (.list (ws.map wd))) (.fz (oD o)) x7 x8 x9 x10 x11 x12 x13 x14 x15) = .ok false (LS ns s x0 x2 (.fz (wd cs)) (.fz (.list (rows.map wd))) (.fz (.list (ws.map wd))) (.fz (oD o)) x7 x8 x9 x10 x11 x12 x13 x14 x15) := by
  have i1 := in_wd (a := []) (l := ws) ⟨by simp, fun c hc => by simp at hc⟩ t.okw
  rw [t.em] at i1
  have n1 := not_none o
  have n2 := ne_bool o.isSome o.isSome
  rw [decide_eq_true rfl] at n2
  have h2 : eT (e2 notND (.b 6) (.g (eC .none))) (LS ns s x0 x2 (.fz (wd cs)) (.fz (.list (rows.map wd))) (.fz (.list (ws.map wd))) (.fz (oD o)) x7 x8 x9 x10 x11 x12 x13 x14 x15) = .ok o.isSome (LS ns s x0 x2 (.fz (wd cs)) (.fz (.list (rows.map wd))) (.fz (.list (ws.map wd))) (.fz (oD o)) x7 x8 x9 x10 x11 x12 x13 x14 x15) := by
    generalize o.isSome = B at *
    unfold LS
    simp [-Option.bind_some, -Option.bind_none, n1]
  have h1 : eT (e2 neD (.g (e2 inD (.g (eC (.str (Str.ofString "")))) (.b 5))) (.g (e2 notND (.b 6) (.g (eC .none))))) (LS ns s x0 x2 (.fz (wd cs)) (.fz (.list (rows.map wd))) (.fz (.list (ws.map wd))) (.fz (oD o)) x7 x8 x9 x10 x11 x12 x13 x14 x15) = .ok false (LS ns s x0 x2 (.fz (wd cs)) (.fz (.list (rows.map wd))) (.fz (.list (ws.map wd))) (.fz (oD o)) x7 x8 x9 x10 x11 x12 x13 x14 x15) := by
    generalize ws.map wd = W at *
    generalize o.isSome = B at *
    unfold LS
    simp [-Option.bind_some, -Option.bind_none, em_wd, i1, n1, n2]
  have lo := t.lo
  have fo := t.fo
  cases o with
  | none =>
    rw [eOr_ap, h1, Res.bind_ok, if_neg Bool.false_ne_true, eAnd_ap, h2]
    rfl
  | some u =>
    obtain ⟨oku, _⟩ := lo u rfl
    have c := call3 (F := F__law_no_lesser) (ga := eV 4) (gb := eV 6) (gc := eV 3) (ρ := LS ns s x0 x2 (.fz (wd cs)) (.fz (.list (rows.map wd))) (.fz (.list (ws.map wd))) (.fz (oD (some u))) x7 x8 x9 x10 x11 x12 x13 x14 x15) rfl rfl rfl (no_lesser_run t.ok oku fo t.c4 t.cb)
    have h3 : e1 truD (.g (callE (F__law_no_lesser) [.g (eV 4), .g (eV 6), .g (eV 3)])) (LS ns s x0 x2 (.fz (wd cs)) (.fz (.list (rows.map wd))) (.fz (.list (ws.map wd))) (.fz (oD (some u))) x7 x8 x9 x10 x11 x12 x13 x14 x15) = .ok true (LS ns s x0 x2 (.fz (wd cs)) (.fz (.list (rows.map wd))) (.fz (.list (ws.map wd))) (.fz (oD (some u))) x7 x8 x9 x10 x11 x12 x13 x14 x15) := by
      rw [e1_ap, opd_g, c]
      rfl
    rw [eOr_ap, h1, Res.bind_ok, if_neg Bool.false_ne_true, eAnd_ap, h2, Res.bind_ok, if_pos (show (some u).isSome = true from rfl), eNot_ap, h3]
    rfl
/-- what is due, in slot 7 -/
theorem la_due (t : TD cs rows ws o v X) (l7 : Loose x7) : ∃ r, setS 7 (eTup [(eC (.str (Str.ofString "yes"))), (e1 tupD (.b 5))]) (LS ns s x0 x2 (.fz (wd cs)) (.fz (.list (rows.map wd))) (.fz (.list (ws.map wd))) (.fz (oD o)) x7 x8 x9 x10 x11 x12 x13 x14 x15) = .ok .nx r ∧
    ifS (eT (e2 notND (.b 6) (.g (eC .none)))) (setS 7 (eTup [(eC (.str (Str.ofString "no"))), (e1 tupD (.g (eFz (eSl slO (.g (callEO (F__law_ways 228) [.g (eV 4), .g (eV 6), .g (eC (.int 0))] newK)) none (some (eC (.int 2)))))))])) nxS r = .ok .nx (LS ns s x0 x2 (.fz (wd cs)) (.fz (.list (rows.map wd))) (.fz (.list (ws.map wd))) (.fz (oD o)) (.fz (pairD v (X.map itD))) x8 x9 x10 x11 x12 x13 x14 x15) := by
  have g1 : eTup [(eC (.str (Str.ofString "yes"))), (e1 tupD (.b 5))] (LS ns s x0 x2 (.fz (wd cs)) (.fz (.list (rows.map wd))) (.fz (.list (ws.map wd))) (.fz (oD o)) x7 x8 x9 x10 x11 x12 x13 x14 x15) = .ok (.tuple [.str (Str.ofString "yes"), .tuple (ws.map wd)]) (LS ns s x0 x2 (.fz (wd cs)) (.fz (.list (rows.map wd))) (.fz (.list (ws.map wd))) (.fz (oD o)) x7 x8 x9 x10 x11 x12 x13 x14 x15) := by
    unfold LS
    simp [-Option.bind_some, -Option.bind_none]
  have n1 := not_none o
  have h2 : ∀ y7, eT (e2 notND (.b 6) (.g (eC .none))) (LS ns s x0 x2 (.fz (wd cs)) (.fz (.list (rows.map wd))) (.fz (.list (ws.map wd))) (.fz (oD o)) y7 x8 x9 x10 x11 x12 x13 x14 x15) = .ok o.isSome (LS ns s x0 x2 (.fz (wd cs)) (.fz (.list (rows.map wd))) (.fz (.list (ws.map wd))) (.fz (oD o)) y7 x8 x9 x10 x11 x12 x13 x14 x15) := fun y7 => by
    generalize o.isSome = B at *
    unfold LS
    simp [-Option.bind_some, -Option.bind_none, n1]
  have lo := t.lo
  have fo := t.fo
  have du := t.du
  refine ⟨LS ns s x0 x2 (.fz (wd cs)) (.fz (.list (rows.map wd))) (.fz (.list (ws.map wd))) (.fz (oD o)) (.fz (.tuple [.str (Str.ofString "yes"), .tuple (ws.map wd)])) x8 x9 x10 x11 x12 x13 x14 x15, (setS_at g1 (x := x7) rfl l7).trans rfl, ?_⟩
  rw [ifS_ap, h2, Res.bind_ok]
  cases o with
  | none =>
    rw [du, if_neg (by simp)]
    rfl
  | some u =>
    obtain ⟨oku, lu⟩ := lo u rfl
    rw [if_pos (show (some u).isSome = true from rfl)]
    have cl := waysE t.ok oku (by omega) (ga := eV 4) (gb := eV 6) (ρ := LS ns s x0 x2 (.fz (wd cs)) (.fz (.list (rows.map wd))) (.fz (.list (ws.map wd))) (.fz (oD (some u))) (.fz (.tuple [.str (Str.ofString "yes"), .tuple (ws.map wd)])) x8 x9 x10 x11 x12 x13 x14 x15) rfl rfl
    have sl := slO_to ((fac rows u).take 3) 2
    rw [List.take_take, Nat.min_eq_left (by omega)] at sl
    have sl : slO (listT ((fac rows u).take 3)) none (some (2 : Int)) = some (.ls (((fac rows u).take 2).map tupI)) := sl
    have g2 : eTup [(eC (.str (Str.ofString "no"))), (e1 tupD (.g (eFz (eSl slO (.g (callEO (F__law_ways 228) [.g (eV 4), .g (eV 6), .g (eC (.int 0))] newK)) none (some (eC (.int 2)))))))] (LS ns s x0 x2 (.fz (wd cs)) (.fz (.list (rows.map wd))) (.fz (.list (ws.map wd))) (.fz (oD (some u))) (.fz (.tuple [.str (Str.ofString "yes"), .tuple (ws.map wd)])) x8 x9 x10 x11 x12 x13 x14 x15) = .ok (pairD v (X.map itD)) (LS ns s x0 x2 (.fz (wd cs)) (.fz (.list (rows.map wd))) (.fz (.list (ws.map wd))) (.fz (oD (some u))) (.fz (.tuple [.str (Str.ofString "yes"), .tuple (ws.map wd)])) x8 x9 x10 x11 x12 x13 x14 x15) := by
      rw [du]
      show _ = Res.ok (PyData.tuple [.str (Str.ofString "no"), .tuple (((fac rows u).take 2).map tupI)]) _
      have g3 : eSl slO (.g (callEO (F__law_ways 228) [.g (eV 4), .g (eV 6), .g (eC (.int 0))] newK)) none (some (eC (.int 2))) (LS ns s x0 x2 (.fz (wd cs)) (.fz (.list (rows.map wd))) (.fz (.list (ws.map wd))) (.fz (oD (some u))) (.fz (.tuple [.str (Str.ofString "yes"), .tuple (ws.map wd)])) x8 x9 x10 x11 x12 x13 x14 x15) = .ok (.ls (((fac rows u).take 2).map tupI)) (LS ns s x0 x2 (.fz (wd cs)) (.fz (.list (rows.map wd))) (.fz (.list (ws.map wd))) (.fz (oD (some u))) (.fz (.tuple [.str (Str.ofString "yes"), .tuple (ws.map wd)])) x8 x9 x10 x11 x12 x13 x14 x15) := by
        unfold eSl
        rw [opd_g, cl]
        simp only [Res.bind_ok, optE, eC_ap, fin_d, obind, sl, ofO_some]
      have tp : tupD (.list (((fac rows u).take 2).map tupI)) = some (.tuple (((fac rows u).take 2).map tupI)) := rfl
      rw [eTup_ap, eL_cons, eC_ap, Res.bind_ok, eL_cons, e1_ap, opd_g, eFz_ap, g3]
      simp only [Res.bind_ok, fin_d, obind, tp, ofO_some, eL_nil, List.length_cons, List.length_nil]
      rfl
    exact (setS_at g2 (x := .fz (.tuple [.str (Str.ofString "yes"), .tuple (ws.map wd)])) rfl (.fz _)).trans rfl
end K65
end
section
set_option autoImplicit false
set_option maxRecDepth 100000
set_option Elab.async false
set_option linter.all false
namespace K65
open PySem DL L2 SX
variable {ns : List Int} {s : S4} {x0 x2 x3 x4 x5 x6 x7 x8 x9 x10 x11 x12 x13 x14 x15 : Sl} {cs v : Wd} {rows ws : List Wd} {o : Option Wd} {X : List Itm}
theorem la_copy (l8 : Loose x8) : setO 8 (e1 lstO (.b 4)) (LS ns s x0 x2 x3 (.fz (.list (rows.map wd))) x5 x6 x7 x8 x9 x10 x11 x12 x13 x14 x15) = .ok .nx (LS ns s x0 x2 x3 (.fz (.list (rows.map wd))) x5 x6 x7 (.ow false (.ls (rows.map wd))) x9 x10 x11 x12 x13 x14 x15) := by
  have g : e1 lstO (.b 4) (LS ns s x0 x2 x3 (.fz (.list (rows.map wd))) x5 x6 x7 x8 x9 x10 x11 x12 x13 x14 x15) = .ok (.ls (rows.map wd)) (LS ns s x0 x2 x3 (.fz (.list (rows.map wd))) x5 x6 x7 x8 x9 x10 x11 x12 x13 x14 x15) := by
    unfold LS
    simp [-Option.bind_some, -Option.bind_none]
  exact (setO_at g (x := x8) rfl l8).trans rfl
theorem la_code (t : TD cs rows ws o v X) (l9 : Loose x9) : setS 9 (callE F_code [.g (eV 8)]) (LS ns s x0 x2 x3 x4 x5 x6 x7 (.ow false (.ls (rows.map wd))) x9 x10 x11 x12 x13 x14 x15) = .ok .nx (LS ns s x0 x2 x3 x4 x5 x6 x7 (.fz (.list (rows.map wd))) (.fz (pairD v (X.map itD))) x10 x11 x12 x13 x14 x15) :=
  (setS_at (call1' (ga := eV 8) (ρ' := LS ns s x0 x2 x3 x4 x5 x6 x7 (.fz (.list (rows.map wd))) x9 x10 x11 x12 x13 x14 x15) rfl t.co) (x := x9) rfl l9).trans rfl
theorem la_c2 (t : TD cs rows ws o v X) : (eOr (eNot (e1 truD (.g (callE (F__law_same 6) [.g (eV 9), .g (eV 7)])))) (eOr (eT (e2 neD (.b 8) (.b 4))) (eT (e2 notBD (.g (callE (F_judge_code) [.g (eV 8), .g (eV 9)])) (.g (eC (.bool true))))))) (LS ns s x0 x2 x3 (.fz (.list (rows.map wd))) x5 x6 (.fz (pairD v (X.map itD))) (.fz (.list (rows.map wd))) (.fz (pairD v (X.map itD))) x10 x11 x12 x13 x14 x15) = .ok false (LS ns s x0 x2 x3 (.fz (.list (rows.map wd))) x5 x6 (.fz (pairD v (X.map itD))) (.fz (.list (rows.map wd))) (.fz (pairD v (X.map itD))) x10 x11 x12 x13 x14 x15) := by
  have s1 := same2 (ga := eV 9) (gb := eV 7) (ρ := LS ns s x0 x2 x3 (.fz (.list (rows.map wd))) x5 x6 (.fz (pairD v (X.map itD))) (.fz (.list (rows.map wd))) (.fz (pairD v (X.map itD))) x10 x11 x12 x13 x14 x15) (okS_pair t.hv t.tx t.lx) (by omega) rfl rfl
  have n1 := ne_self ((ok_words fun w hw => t.ok.ok hw).mono (show 1 ≤ 64 by omega))
  have jr := judge_run t.ok (p := .pr v X) ⟨t.hv, fun x hx => (t.tx x hx).ok, by have := t.lx; omega⟩
  have e0 : pj rows (.pr v X) = true := t.ac
  rw [e0] at jr
  have jc := call2 (F := F_judge_code) (ga := eV 8) (gb := eV 9) (ρ := LS ns s x0 x2 x3 (.fz (.list (rows.map wd))) x5 x6 (.fz (pairD v (X.map itD))) (.fz (.list (rows.map wd))) (.fz (pairD v (X.map itD))) x10 x11 x12 x13 x14 x15) rfl rfl jr
  have h2 : eT (e2 neD (.b 8) (.b 4)) (LS ns s x0 x2 x3 (.fz (.list (rows.map wd))) x5 x6 (.fz (pairD v (X.map itD))) (.fz (.list (rows.map wd))) (.fz (pairD v (X.map itD))) x10 x11 x12 x13 x14 x15) = .ok false (LS ns s x0 x2 x3 (.fz (.list (rows.map wd))) x5 x6 (.fz (pairD v (X.map itD))) (.fz (.list (rows.map wd))) (.fz (pairD v (X.map itD))) x10 x11 x12 x13 x14 x15) := by
    generalize rows.map wd = R at *
    unfold LS
    simp [-Option.bind_some, -Option.bind_none, n1]
  have h3 : eT (e2 notBD (.g (callE (F_judge_code) [.g (eV 8), .g (eV 9)])) (.g (eC (.bool true)))) (LS ns s x0 x2 x3 (.fz (.list (rows.map wd))) x5 x6 (.fz (pairD v (X.map itD))) (.fz (.list (rows.map wd))) (.fz (pairD v (X.map itD))) x10 x11 x12 x13 x14 x15) = .ok false (LS ns s x0 x2 x3 (.fz (.list (rows.map wd))) x5 x6 (.fz (pairD v (X.map itD))) (.fz (.list (rows.map wd))) (.fz (pairD v (X.map itD))) x10 x11 x12 x13 x14 x15) := by
    have nb : notBD (.bool true) (.bool true) = some (.bool false) := rfl
    rw [eT_ap, e2_ap, opd_g, jc]
    simp only [Res.bind_ok, opd_g, eC_ap, fin_d, obind, nb, ofO_some]
  rw [eOr_ap, eNot_ap, s1, Res.bind_ok, Res.bind_ok, if_neg (by simp), eOr_ap, h2, Res.bind_ok, if_neg Bool.false_ne_true, h3]
theorem la_c3 (t : TD cs rows ws o v X) : (eOr (eNot (e1 truD (.g (callE (F__law_same 6) [.g (callE (F_remainders) [.g (eV 8)]), .g (eV 5)])))) (eT (e2 neD (.b 8) (.b 4)))) (LS ns s x0 x2 x3 (.fz (.list (rows.map wd))) (.fz (.list (ws.map wd))) x6 x7 (.fz (.list (rows.map wd))) x9 x10 x11 x12 x13 x14 x15) = .ok false (LS ns s x0 x2 x3 (.fz (.list (rows.map wd))) (.fz (.list (ws.map wd))) x6 x7 (.fz (.list (rows.map wd))) x9 x10 x11 x12 x13 x14 x15) := by
  have cr := call1 (F := F_remainders) (ga := eV 8) (ρ := LS ns s x0 x2 x3 (.fz (.list (rows.map wd))) (.fz (.list (ws.map wd))) x6 x7 (.fz (.list (rows.map wd))) x9 x10 x11 x12 x13 x14 x15) rfl t.re
  have s1 := same2 (ga := callE F_remainders [.g (eV 8)]) (gb := eV 5) (ρ := LS ns s x0 x2 x3 (.fz (.list (rows.map wd))) (.fz (.list (ws.map wd))) x6 x7 (.fz (.list (rows.map wd))) x9 x10 x11 x12 x13 x14 x15) (okS_words t.okw (by have := t.lw; omega)) (by omega) cr rfl
  have n1 := ne_self ((ok_words fun w hw => t.ok.ok hw).mono (show 1 ≤ 64 by omega))
  have h2 : eT (e2 neD (.b 8) (.b 4)) (LS ns s x0 x2 x3 (.fz (.list (rows.map wd))) (.fz (.list (ws.map wd))) x6 x7 (.fz (.list (rows.map wd))) x9 x10 x11 x12 x13 x14 x15) = .ok false (LS ns s x0 x2 x3 (.fz (.list (rows.map wd))) (.fz (.list (ws.map wd))) x6 x7 (.fz (.list (rows.map wd))) x9 x10 x11 x12 x13 x14 x15) := by
    generalize rows.map wd = R at *
    unfold LS
    simp [-Option.bind_some, -Option.bind_none, n1]
  rw [eOr_ap, eNot_ap, s1, Res.bind_ok, Res.bind_ok, if_neg (by simp), h2]
/-- xs = xs + [..] -/
theorem cat_at {ns : List Int} {s : S4} {x0 x2 x3 x4 x5 x6 x7 x8 x9 x11 x12 x13 x14 x15 y11 y12 y13 y14 y15 : Sl} {G : Ev D} {L M : List D} (g : G (LS ns s x0 x2 x3 x4 x5 x6 x7 x8 x9 (.ow false (.ls L)) x11 x12 x13 x14 x15) = .ok (.list M) (LS ns s x0 x2 x3 x4 x5 x6 x7 x8 x9 (.ow false (.ls L)) y11 y12 y13 y14 y15)) (h : L.length + M.length ≤ 16777216) : setO 10 (e2 catO (.b 10) (.g G)) (LS ns s x0 x2 x3 x4 x5 x6 x7 x8 x9 (.ow false (.ls L)) x11 x12 x13 x14 x15) = .ok .nx (LS ns s x0 x2 x3 x4 x5 x6 x7 x8 x9 (.ow false (.ls (L ++ M))) y11 y12 y13 y14 y15) := by
  have ec : catO (.list L) (.list M) = some (.ls (L ++ M)) := if_pos h
  have p0 : (Opd.b 10).run (LS ns s x0 x2 x3 x4 x5 x6 x7 x8 x9 (.ow false (.ls L)) x11 x12 x13 x14 x15) = .ok (.v 10) (LS ns s x0 x2 x3 x4 x5 x6 x7 x8 x9 (.ow false (.ls L)) x11 x12 x13 x14 x15) := Eq.trans rfl rfl
  have p1 : (OV.v 10).fin (LS ns s x0 x2 x3 x4 x5 x6 x7 x8 x9 (.ow false (.ls L)) y11 y12 y13 y14 y15) = some (.list L) := Eq.trans rfl rfl
  have ge : e2 catO (.b 10) (.g G) (LS ns s x0 x2 x3 x4 x5 x6 x7 x8 x9 (.ow false (.ls L)) x11 x12 x13 x14 x15) = .ok (.ls (L ++ M)) (LS ns s x0 x2 x3 x4 x5 x6 x7 x8 x9 (.ow false (.ls L)) y11 y12 y13 y14 y15) := by
    rw [e2_ap, p0, Res.bind_ok, opd_g, g]
    simp only [Res.bind_ok, p1, fin_d, obind, ec, ofO_some]
  exact (setO_at ge (x := .ow false (.ls L)) rfl (.ow _)).trans rfl
/-! ### the papers asked about -/
def mayW : Wd := [109, 97, 121, 98, 101]
theorem may_wd : PyData.str (Str.ofString "maybe") = wd mayW := congrArg PyData.str (show Str.ofString "maybe" = S mayW by decide +kernel)
theorem a_wd : PyData.str (Str.ofString "a") = wd [97] := congrArg PyData.str (show Str.ofString "a" = S [97] by decide +kernel)
theorem ok_may : okw mayW := ⟨by decide, by decide⟩
def asks1 (v : Wd) (X : List Itm) (ws : List Wd) : List Ppr := [.nt .none, .one (wd v), .nt (.list [wd v, .tuple (X.map itD)]), .pr mayW X, .pr yesW [], .pr noW [.tup [], .tup []], .pr yesW X, .pr noW X, .pr yesW (ws.map .w)]
def asks2 (X : List Itm) (n : Nat) : List Ppr := [.pr noW [.tup [0], .tup [0]], .pr noW [.tup [0, 0], .tup [0]], .bad yesW (.list (X.map itD)), .pr noW [.tup [0], .tup [0 - (n : Int)]], .pr yesW [.ls [wd [97]]], .pr noW [.ls [.int 0], .tup [0]]]
theorem ok_asks1 (t : TD cs rows ws o v X) : ∀ p ∈ asks1 v X ws, okP p := fun p hp => by
  have okX : ∀ x ∈ X, okI x := fun x hx => (t.tx x hx).ok
  have lX : X.length ≤ 100 := by have := t.lx; omega
  have okW : ∀ x ∈ ws.map Itm.w, okI x := fun x hx => by
    obtain ⟨w, hw, rfl⟩ := List.mem_map.mp hx
    exact t.okw w hw
  unfold asks1 at hp
  simp only [List.mem_cons, List.not_mem_nil, or_false] at hp
  rcases hp with rfl | rfl | rfl | rfl | rfl | rfl | rfl | rfl | rfl
  · rfl
  · trivial
  · rfl
  · exact ⟨ok_may, okX, lX⟩
  · exact ⟨ok_yes, fun x hx => by simp at hx, by simp⟩
  · refine ⟨ok_no, fun x hx => ?_, by simp⟩
    simp only [List.mem_cons, List.not_mem_nil, or_false, or_self] at hx
    rw [hx]
    exact Nat.zero_le _
  · exact ⟨ok_yes, okX, lX⟩
  · exact ⟨ok_no, okX, lX⟩
  · exact ⟨ok_yes, okW, by rw [List.length_map]; have := t.lw; omega⟩
theorem ok_asks2 (n : Nat) : ∀ p ∈ asks2 X n, okP p := fun p hp => by
  unfold asks2 at hp
  simp only [List.mem_cons, List.not_mem_nil, or_false] at hp
  rcases hp with rfl | rfl | rfl | rfl | rfl | rfl
  · refine ⟨ok_no, fun x hx => ?_, by simp⟩
    simp only [List.mem_cons, List.not_mem_nil, or_false, or_self] at hx
    rw [hx]
    show ([0] : List Int).length ≤ 1000
    simp
  · refine ⟨ok_no, fun x hx => ?_, by simp⟩
    simp only [List.mem_cons, List.not_mem_nil, or_false] at hx
    rcases hx with rfl | rfl
    · show ([0, 0] : List Int).length ≤ 1000
      simp
    · show ([0] : List Int).length ≤ 1000
      simp
  · exact ⟨ok_yes, rfl⟩
  · refine ⟨ok_no, fun x hx => ?_, by simp⟩
    simp only [List.mem_cons, List.not_mem_nil, or_false] at hx
    rcases hx with rfl | rfl
    · show ([0] : List Int).length ≤ 1000
      simp
    · show ([0 - (n : Int)] : List Int).length ≤ 1000
      simp
  · refine ⟨ok_yes, fun x hx => ?_, by simp⟩
    rw [List.mem_singleton.mp hx]
    intro d hd
    rw [List.mem_singleton.mp hd]
    exact (ok_wd (w := [97]) ⟨by simp, by simp⟩).mono (by omega)
  · refine ⟨ok_no, fun x hx => ?_, by simp⟩
    simp only [List.mem_cons, List.not_mem_nil, or_false] at hx
    rcases hx with rfl | rfl
    · intro d hd
      rw [List.mem_singleton.mp hd]
      exact (ok_int 0).mono (by omega)
    · show ([0] : List Int).length ≤ 1000
      simp
theorem la_asks1 (l10 : Loose x10) : setO 10 (eLst [(eC .none), (eSl slD (.b 7) none (some (eC (.int 1)))), (eFz (e1 lstO (.b 7))), (eTup [(eC (.str (Str.ofString "maybe"))), (e2 ixD (.b 7) (.g (eC (.int 1))))]), (eTup [(eC (.str (Str.ofString "yes"))), (eTup [])]), (eTup [(eC (.str (Str.ofString "no"))), (eTup [(eTup []), (eTup [])])]), (eTup [(eC (.str (Str.ofString "yes"))), (e2 ixD (.b 7) (.g (eC (.int 1))))]), (eTup [(eC (.str (Str.ofString "no"))), (e2 ixD (.b 7) (.g (eC (.int 1))))]), (eTup [(eC (.str (Str.ofString "yes"))), (e1 tupD (.b 5))])]) (LS ns s x0 x2 x3 x4 (.fz (.list (ws.map wd))) x6 (.fz (pairD v (X.map itD))) x8 x9 x10 x11 x12 x13 x14 x15) = .ok .nx (LS ns s x0 x2 x3 x4 (.fz (.list (ws.map wd))) x6 (.fz (pairD v (X.map itD))) x8 x9 (.ow false (.ls ((asks1 v X ws).map pprD))) x11 x12 x13 x14 x15) := by
  have e9 : (asks1 v X ws).map pprD = [.none, .tuple [wd v], .list [wd v, .tuple (X.map itD)], pairD mayW (X.map itD), pairD yesW [], pairD noW [.tuple [], .tuple []], pairD yesW (X.map itD), pairD noW (X.map itD), pairD yesW (ws.map wd)] := by
    show [PyData.none, .tuple [wd v], .list [wd v, .tuple (X.map itD)], pairD mayW (X.map itD), pairD yesW [], pairD noW [.tuple [], .tuple []], pairD yesW (X.map itD), pairD noW (X.map itD), pairD yesW ((ws.map Itm.w).map itD)] = _
    rw [itD_w]
  rw [e9]
  have i5 := ix_pair1 v (X.map itD)
  have sl : slD (pairD v (X.map itD)) none (some (1 : Int)) = some (.tuple [wd v]) := (slT_to [wd v, .tuple (X.map itD)] 1).trans rfl
  have ls : lstO (pairD v (X.map itD)) = some (.ls [wd v, .tuple (X.map itD)]) := rfl
  have g : eLst [(eC .none), (eSl slD (.b 7) none (some (eC (.int 1)))), (eFz (e1 lstO (.b 7))), (eTup [(eC (.str (Str.ofString "maybe"))), (e2 ixD (.b 7) (.g (eC (.int 1))))]), (eTup [(eC (.str (Str.ofString "yes"))), (eTup [])]), (eTup [(eC (.str (Str.ofString "no"))), (eTup [(eTup []), (eTup [])])]), (eTup [(eC (.str (Str.ofString "yes"))), (e2 ixD (.b 7) (.g (eC (.int 1))))]), (eTup [(eC (.str (Str.ofString "no"))), (e2 ixD (.b 7) (.g (eC (.int 1))))]), (eTup [(eC (.str (Str.ofString "yes"))), (e1 tupD (.b 5))])] (LS ns s x0 x2 x3 x4 (.fz (.list (ws.map wd))) x6 (.fz (pairD v (X.map itD))) x8 x9 x10 x11 x12 x13 x14 x15) = .ok (.ls [.none, .tuple [wd v], .list [wd v, .tuple (X.map itD)], pairD mayW (X.map itD), pairD yesW [], pairD noW [.tuple [], .tuple []], pairD yesW (X.map itD), pairD noW (X.map itD), pairD yesW (ws.map wd)]) (LS ns s x0 x2 x3 x4 (.fz (.list (ws.map wd))) x6 (.fz (pairD v (X.map itD))) x8 x9 x10 x11 x12 x13 x14 x15) := by
    generalize hP : pairD v (X.map itD) = P at *
    generalize ws.map wd = W at *
    unfold LS
    simp [-lstO, -Option.bind_some, -Option.bind_none, eSl, optE, i5, sl, ls, yes_wd, no_wd, may_wd]
    exact ⟨rfl, rfl, rfl, rfl, rfl, rfl⟩
  exact (setO_at g (x := x10) rfl l10).trans rfl
theorem la_asks2 (t : TD cs rows ws o v X) (A : List Ppr) (hA : A.length ≤ 100) : setO 10 (e2 catO (.b 10) (.g (eFz (eLst [(eTup [(eC (.str (Str.ofString "no"))), (eTup [(eTup [(eC (.int 0))]), (eTup [(eC (.int 0))])])]), (eTup [(eC (.str (Str.ofString "no"))), (eTup [(eTup [(eC (.int 0)), (eC (.int 0))]), (eTup [(eC (.int 0))])])]), (eTup [(eC (.str (Str.ofString "yes"))), (eFz (e1 lstO (.g (e2 ixD (.b 7) (.g (eC (.int 1)))))))]), (eTup [(eC (.str (Str.ofString "no"))), (eTup [(eTup [(eC (.int 0))]), (eTup [(e2 subD (.g (eC (.int 0))) (.g (e1 lenD (.b 4))))])])]), (eTup [(eC (.str (Str.ofString "yes"))), (eTup [(eFz (eLst [(eC (.str (Str.ofString "a")))]))])]), (eTup [(eC (.str (Str.ofString "no"))), (eTup [(eFz (eLst [(eC (.int 0))])), (eTup [(eC (.int 0))])])])])))) (LS ns s x0 x2 x3 (.fz (.list (rows.map wd))) x5 x6 (.fz (pairD v (X.map itD))) x8 x9 (.ow false (.ls (A.map pprD))) x11 x12 x13 x14 x15) = .ok .nx (LS ns s x0 x2 x3 (.fz (.list (rows.map wd))) x5 x6 (.fz (pairD v (X.map itD))) x8 x9 (.ow false (.ls ((A ++ asks2 X rows.length).map pprD))) x11 x12 x13 x14 x15) := by
  have e9 : (asks2 X rows.length).map pprD = [pairD noW [.tuple [.int 0], .tuple [.int 0]], pairD noW [.tuple [.int 0, .int 0], .tuple [.int 0]], .tuple [wd yesW, .list (X.map itD)], pairD noW [.tuple [.int 0], .tuple [.int (0 - (rows.length : Int))]], pairD yesW [.list [wd [97]]], pairD noW [.list [.int 0], .tuple [.int 0]]] := rfl
  rw [List.map_append, e9]
  have i5 := ix_pair1 v (X.map itD)
  have ls : lstO (.tuple (X.map itD)) = some (.ls (X.map itD)) := rfl
  have ln : lenD (.list (rows.map wd)) = some (.int (rows.length : Int)) := by rw [len_list, List.length_map]
  have g : eFz (eLst [(eTup [(eC (.str (Str.ofString "no"))), (eTup [(eTup [(eC (.int 0))]), (eTup [(eC (.int 0))])])]), (eTup [(eC (.str (Str.ofString "no"))), (eTup [(eTup [(eC (.int 0)), (eC (.int 0))]), (eTup [(eC (.int 0))])])]), (eTup [(eC (.str (Str.ofString "yes"))), (eFz (e1 lstO (.g (e2 ixD (.b 7) (.g (eC (.int 1)))))))]), (eTup [(eC (.str (Str.ofString "no"))), (eTup [(eTup [(eC (.int 0))]), (eTup [(e2 subD (.g (eC (.int 0))) (.g (e1 lenD (.b 4))))])])]), (eTup [(eC (.str (Str.ofString "yes"))), (eTup [(eFz (eLst [(eC (.str (Str.ofString "a")))]))])]), (eTup [(eC (.str (Str.ofString "no"))), (eTup [(eFz (eLst [(eC (.int 0))])), (eTup [(eC (.int 0))])])])]) (LS ns s x0 x2 x3 (.fz (.list (rows.map wd))) x5 x6 (.fz (pairD v (X.map itD))) x8 x9 (.ow false (.ls (A.map pprD))) x11 x12 x13 x14 x15) = .ok (.list [pairD noW [.tuple [.int 0], .tuple [.int 0]], pairD noW [.tuple [.int 0, .int 0], .tuple [.int 0]], .tuple [wd yesW, .list (X.map itD)], pairD noW [.tuple [.int 0], .tuple [.int (0 - (rows.length : Int))]], pairD yesW [.list [wd [97]]], pairD noW [.list [.int 0], .tuple [.int 0]]]) (LS ns s x0 x2 x3 (.fz (.list (rows.map wd))) x5 x6 (.fz (pairD v (X.map itD))) x8 x9 (.ow false (.ls (A.map pprD))) x11 x12 x13 x14 x15) := by
    generalize rows.map wd = R at *
    generalize X.map itD = Y at *
    unfold LS
    simp [-lstO, -len_list, -Option.bind_some, -Option.bind_none, i5, ls, ln, yes_wd, no_wd, a_wd]
    exact ⟨rfl, rfl, rfl, rfl, rfl⟩
  generalize hL : [pairD noW [.tuple [.int 0], .tuple [.int 0]], pairD noW [.tuple [.int 0, .int 0], .tuple [.int 0]], .tuple [wd yesW, .list (X.map itD)], pairD noW [.tuple [.int 0], .tuple [.int (0 - (rows.length : Int))]], pairD yesW [.list [wd [97]]], pairD noW [.list [.int 0], .tuple [.int 0]]] = L6 at g ⊢
  have l6 : L6.length = 6 := by rw [← hL]; rfl
  exact cat_at g (by rw [List.length_map]; omega)
end K65
end
section
set_option autoImplicit false
set_option maxRecDepth 100000
set_option Elab.async false
set_option linter.all false
namespace K65
open PySem DL L2 SX
variable {ns : List Int} {s : S4} {x0 x2 x3 x4 x5 x6 x7 x8 x9 x10 x11 x12 x13 x14 x15 : Sl} {cs v : Wd} {rows ws : List Wd} {o : Option Wd} {X : List Itm}
theorem la_ends0 (l11 : Loose x11) : setO 11 (eLst []) (LS ns s x0 x2 x3 x4 x5 x6 x7 x8 x9 x10 x11 x12 x13 x14 x15) = .ok .nx (LS ns s x0 x2 x3 x4 x5 x6 x7 x8 x9 x10 (.ow false (.ls [])) x12 x13 x14 x15) :=
  (setO_at (g := eLst []) (d := .ls []) (ρ := LS ns s x0 x2 x3 x4 x5 x6 x7 x8 x9 x10 x11 x12 x13 x14 x15) (r := LS ns s x0 x2 x3 x4 x5 x6 x7 x8 x9 x10 x11 x12 x13 x14 x15) (by simp) (x := x11) rfl l11).trans rfl
theorem ends_snoc (d : List Wd) (w : Wd) : ends (d ++ [w]) = ends d ++ tails w := by unfold ends; simp
theorem tails_len (w : Wd) : (tails w).length = w.length + 1 := by unfold tails; simp
theorem la_ends (h : OkR rows) (l12 : Loose x12) (l13 : Loose x13) : ∃ y12 y13, Loose y12 ∧ Loose y13 ∧ forS (eIt (eV 4)) (tgN 12) B_law_1 (LS ns s x0 x2 x3 (.fz (.list (rows.map wd))) x5 x6 x7 x8 x9 x10 (.ow false (.ls [])) x12 x13 x14 x15) = .ok .nx (LS ns s x0 x2 x3 (.fz (.list (rows.map wd))) x5 x6 x7 x8 x9 x10 (.ow false (.ls ((ends rows).map wd))) y12 y13 x14 x15) := by
  have n5 := h.few
  obtain ⟨ρ', e, y12, y13, h12, h13, _, rfl⟩ := loop_pre (t := tgN 12) (b := B_law_1) wd (fun d ρ => ∃ y12 y13, Loose y12 ∧ Loose y13 ∧ (ends d).length ≤ 13 * d.length ∧ ρ = LS ns s x0 x2 x3 (.fz (.list (rows.map wd))) x5 x6 x7 x8 x9 x10 (.ow false (.ls ((ends d).map wd))) y12 y13 x14 x15) rows [] (LS ns s x0 x2 x3 (.fz (.list (rows.map wd))) x5 x6 x7 x8 x9 x10 (.ow false (.ls [])) x12 x13 x14 x15) ⟨x12, x13, l12, l13, Nat.le_refl _, rfl⟩ fun d w rr ρ q i => by
    obtain ⟨y12, y13, h12, h13, le, rfl⟩ := i
    have q : rows = d ++ w :: rr := q
    have mw : w ∈ rows := by rw [q]; simp
    have ow := h.ok mw
    have o1 := ow.1
    have lw := h.ln w mw
    have ld : d.length ≤ 5 := by rw [q] at n5; simp at n5; omega
    have tl := tails_len w
    have t1 := len_wd w (by omega)
    rw [ends_snoc]
    generalize hE : ends d = E at *
    have r1 := rg1_n (w.length + 1) (by omega)
    rw [Int.natCast_add] at r1
    have r1 : rg1D (.int ((w.length : Int) + 1)) = _ := r1
    have c1 : ∀ y, lcE (e1 rg1D (.g (e2 addD (.g (e1 lenD (.b 12))) (.g (eC (.int 1)))))) (tgN 13) yesT (eSl slD (.b 12) (some (eV 13)) none) [13] (LS ns s x0 x2 x3 (.fz (.list (rows.map wd))) x5 x6 x7 x8 x9 x10 y (.fz (wd w)) y13 x14 x15) = .ok (.ls ((List.range (w.length + 1)).map fun k => wd (w.drop k))) (LS ns s x0 x2 x3 (.fz (.list (rows.map wd))) x5 x6 x7 x8 x9 x10 y (.fz (wd w)) .un x14 x15) := fun y => by
      refine lcE_map I (fun k => wd (w.drop k)) (List.range (w.length + 1)) (ρ1 := LS ns s x0 x2 x3 (.fz (.list (rows.map wd))) x5 x6 x7 x8 x9 x10 y (.fz (wd w)) y13 x14 x15) ?_ rfl (by rw [List.length_range]; omega) fun k _ => ?_
      · generalize rows.map wd = R at *
        unfold LS
        simp [-Option.bind_some, -Option.bind_none, t1, r1]
      · have t3 := sl_from w k (by omega)
        refine ⟨LS ns s x0 x2 x3 (.fz (.list (rows.map wd))) x5 x6 x7 x8 x9 x10 y (.fz (wd w)) (.fz (I k)) x14 x15, rfl, rfl, ?_⟩
        generalize rows.map wd = R at *
        unfold LS I
        simp [-Option.bind_some, -Option.bind_none, eSl, optE, t3]
    have et : (List.range (w.length + 1)).map (fun k => wd (w.drop k)) = (tails w).map wd := by
      unfold tails
      rw [List.map_map]
      rfl
    rw [et] at c1
    have lz : (E.map wd).length + ((tails w).map wd).length ≤ 16777216 := by rw [List.length_map, List.length_map]; omega
    refine ⟨LS ns s x0 x2 x3 (.fz (.list (rows.map wd))) x5 x6 x7 x8 x9 x10 (.ow false (.ls (E.map wd))) (.fz (wd w)) y13 x14 x15, LS ns s x0 x2 x3 (.fz (.list (rows.map wd))) x5 x6 x7 x8 x9 x10 (.ow false (.ls ((E ++ tails w).map wd))) (.fz (wd w)) .un x14 x15, ?_, ?_, .fz (wd w), .un, .fz _, .un, ?_, rfl⟩
    · show sto _ 12 _ = _
      rw [sto_loose (x := y12) rfl h12]
      rfl
    · unfold B_law_1
      have ec : catO (.list (E.map wd)) (.list ((tails w).map wd)) = some (.ls (E.map wd ++ (tails w).map wd)) := if_pos lz
      have ge : e2 catO (.b 11) (.g (eFz (lcE (e1 rg1D (.g (e2 addD (.g (e1 lenD (.b 12))) (.g (eC (.int 1)))))) (tgN 13) yesT (eSl slD (.b 12) (some (eV 13)) none) [13]))) (LS ns s x0 x2 x3 (.fz (.list (rows.map wd))) x5 x6 x7 x8 x9 x10 (.ow false (.ls (E.map wd))) (.fz (wd w)) y13 x14 x15) = .ok (.ls (E.map wd ++ (tails w).map wd)) (LS ns s x0 x2 x3 (.fz (.list (rows.map wd))) x5 x6 x7 x8 x9 x10 (.ow false (.ls (E.map wd))) (.fz (wd w)) .un x14 x15) := by
        have p0 : (Opd.b 11).run (LS ns s x0 x2 x3 (.fz (.list (rows.map wd))) x5 x6 x7 x8 x9 x10 (.ow false (.ls (E.map wd))) (.fz (wd w)) y13 x14 x15) = .ok (.v 11) (LS ns s x0 x2 x3 (.fz (.list (rows.map wd))) x5 x6 x7 x8 x9 x10 (.ow false (.ls (E.map wd))) (.fz (wd w)) y13 x14 x15) := Eq.trans rfl rfl
        have p1 : (OV.v 11).fin (LS ns s x0 x2 x3 (.fz (.list (rows.map wd))) x5 x6 x7 x8 x9 x10 (.ow false (.ls (E.map wd))) (.fz (wd w)) .un x14 x15) = some (.list (E.map wd)) := Eq.trans rfl rfl
        rw [e2_ap, p0, Res.bind_ok, opd_g, eFz_ap, c1]
        simp only [Res.bind_ok, p1, fin_d, obind, ec, ofO_some]
      rw [List.map_append]
      exact (setO_at ge (x := .ow false (.ls (E.map wd))) rfl (.ow _)).trans rfl
    · rw [List.length_append, List.length_append]
      simp only [List.length_cons, List.length_nil]
      omega
  refine ⟨y12, y13, h12, h13, ?_⟩
  have i1 : eIt (eV 4) (LS ns s x0 x2 x3 (.fz (.list (rows.map wd))) x5 x6 x7 x8 x9 x10 (.ow false (.ls [])) x12 x13 x14 x15) = .ok (rows.map wd) (LS ns s x0 x2 x3 (.fz (.list (rows.map wd))) x5 x6 x7 x8 x9 x10 (.ow false (.ls [])) x12 x13 x14 x15) := Eq.trans rfl rfl
  rw [forS_ap, i1, Res.bind_ok]
  exact e
def asks3 (es : List Wd) : List Ppr := [.pr yesW (es.map .w), .pr yesW ((es.filter fun x => !decide (x = [])).map .w)]
theorem la_asks3 (h : OkR rows) (A : List Ppr) (hA : A.length ≤ 100) : ∃ es, (∀ p ∈ asks3 es, okP p) ∧ setO 10 (e2 catO (.b 10) (.g (eFz (eLst [(eTup [(eC (.str (Str.ofString "yes"))), (e1 tupD (.g (eFz (e1 sortsetT (.b 11)))))]), (eTup [(eC (.str (Str.ofString "yes"))), (e1 tupD (.g (eFz (lcE (eIt (eFz (e1 sortsetT (.b 11)))) (tgN 15) (eT (e2 neD (.b 15) (.g (eC (.str (Str.ofString "")))))) (eV 15) [15]))))])])))) (LS ns s x0 x2 x3 x4 x5 x6 x7 x8 x9 (.ow false (.ls (A.map pprD))) (.ow false (.ls ((ends rows).map wd))) x12 x13 x14 x15) = .ok .nx (LS ns s x0 x2 x3 x4 x5 x6 x7 x8 x9 (.ow false (.ls ((A ++ asks3 es).map pprD))) (.ow false (.ls ((ends rows).map wd))) x12 x13 x14 .un) := by
  obtain ⟨es, ee, nd, me⟩ := srt_wd (ends rows)
  have le := ends_len h
  have so := sortset_wd (l := ends rows) (by omega)
  rw [ee] at so
  have oke : ∀ w ∈ es, okw w := fun w hw => (ends_ok h ((me w).mp hw)).1
  have les : es.length ≤ 65 := by
    have := nodup_sub_len nd fun x hx => (me x).mp hx
    omega
  have okA : ∀ l : List Wd, (∀ w ∈ l, okw w) → l.length ≤ 65 → okP (.pr yesW (l.map .w)) := fun l hl ll => ⟨ok_yes, fun x hx => by
    obtain ⟨w, hw, rfl⟩ := List.mem_map.mp hx
    exact hl w hw, by rw [List.length_map]; omega⟩
  have lf : (es.filter fun x => !decide (x = [])).length ≤ es.length := List.length_filter_le _ _
  refine ⟨es, fun p hp => ?_, ?_⟩
  · unfold asks3 at hp
    simp only [List.mem_cons, List.not_mem_nil, or_false] at hp
    rcases hp with rfl | rfl
    · exact okA es oke les
    · exact okA _ (fun w hw => oke w (List.mem_filter.mp hw).1) (by omega)
  · have e9 : (asks3 es).map pprD = [pairD yesW (es.map wd), pairD yesW ((es.filter fun x => !decide (x = [])).map wd)] := by
      show [pairD yesW ((es.map Itm.w).map itD), pairD yesW (((es.filter fun x => !decide (x = [])).map Itm.w).map itD)] = _
      rw [itD_w, itD_w]
    rw [List.map_append, e9]
    have gs : ∀ y, eFz (e1 sortsetT (.b 11)) (LS ns s x0 x2 x3 x4 x5 x6 x7 x8 x9 (.ow false (.ls (A.map pprD))) (.ow false (.ls ((ends rows).map wd))) x12 x13 x14 y) = .ok (.list (es.map wd)) (LS ns s x0 x2 x3 x4 x5 x6 x7 x8 x9 (.ow false (.ls (A.map pprD))) (.ow false (.ls ((ends rows).map wd))) x12 x13 x14 y) := fun y => by
      generalize (ends rows).map wd = E at *
      unfold LS
      simp [-Option.bind_some, -Option.bind_none, so]
    have c1 : lcE (eIt (eFz (e1 sortsetT (.b 11)))) (tgN 15) (eT (e2 neD (.b 15) (.g (eC (.str (Str.ofString "")))))) (eV 15) [15] (LS ns s x0 x2 x3 x4 x5 x6 x7 x8 x9 (.ow false (.ls (A.map pprD))) (.ow false (.ls ((ends rows).map wd))) x12 x13 x14 x15) = .ok (.ls ((es.filter fun x => !decide (x = [])).map wd)) (LS ns s x0 x2 x3 x4 x5 x6 x7 x8 x9 (.ow false (.ls (A.map pprD))) (.ow false (.ls ((ends rows).map wd))) x12 x13 x14 .un) := by
      refine lcE_pure wd (fun x => !decide (x = [])) wd es (ρ1 := LS ns s x0 x2 x3 x4 x5 x6 x7 x8 x9 (.ow false (.ls (A.map pprD))) (.ow false (.ls ((ends rows).map wd))) x12 x13 x14 x15) (by rw [eIt_ap, gs, Res.bind_ok]; rfl) rfl (by omega) fun w hw => ?_
      have t1 := ne_wd (oke w hw) (⟨by simp, fun c hc => by simp at hc⟩ : okw [])
      refine ⟨LS ns s x0 x2 x3 x4 x5 x6 x7 x8 x9 (.ow false (.ls (A.map pprD))) (.ow false (.ls ((ends rows).map wd))) x12 x13 x14 (.fz (wd w)), rfl, rfl, ?_, fun _ => rfl⟩
      generalize (ends rows).map wd = E at *
      unfold LS
      simp [-Option.bind_some, -Option.bind_none, em_wd, t1]
    refine cat_at (y15 := .un) ?_ (by simp; omega)
    have tp : ∀ L : List D, tupD (.list L) = some (.tuple L) := fun L => rfl
    generalize (es.filter fun x => !decide (x = [])).map wd = F at *
    generalize es.map wd = G at *
    have g1 : eTup [(eC (.str (Str.ofString "yes"))), (e1 tupD (.g (eFz (e1 sortsetT (.b 11)))))] (LS ns s x0 x2 x3 x4 x5 x6 x7 x8 x9 (.ow false (.ls (A.map pprD))) (.ow false (.ls ((ends rows).map wd))) x12 x13 x14 x15) = .ok (pairD yesW G) (LS ns s x0 x2 x3 x4 x5 x6 x7 x8 x9 (.ow false (.ls (A.map pprD))) (.ow false (.ls ((ends rows).map wd))) x12 x13 x14 x15) := by
      rw [eTup_ap, eL_cons, eC_ap, Res.bind_ok, eL_cons, e1_ap, opd_g, gs]
      simp only [Res.bind_ok, fin_d, obind, tp, ofO_some, eL_nil, yes_wd]
      rfl
    have g2 : eTup [(eC (.str (Str.ofString "yes"))), (e1 tupD (.g (eFz (lcE (eIt (eFz (e1 sortsetT (.b 11)))) (tgN 15) (eT (e2 neD (.b 15) (.g (eC (.str (Str.ofString "")))))) (eV 15) [15]))))] (LS ns s x0 x2 x3 x4 x5 x6 x7 x8 x9 (.ow false (.ls (A.map pprD))) (.ow false (.ls ((ends rows).map wd))) x12 x13 x14 x15) = .ok (pairD yesW F) (LS ns s x0 x2 x3 x4 x5 x6 x7 x8 x9 (.ow false (.ls (A.map pprD))) (.ow false (.ls ((ends rows).map wd))) x12 x13 x14 .un) := by
      rw [eTup_ap, eL_cons, eC_ap, Res.bind_ok, eL_cons, e1_ap, opd_g, eFz_ap, c1]
      simp only [Res.bind_ok, fin_d, obind, tp, ofO_some, eL_nil, yes_wd]
      rfl
    rw [eFz_ap, eLst_ap, eL_cons, g1, Res.bind_ok, eL_cons, g2, Res.bind_ok, eL_nil]
    rfl
end K65
end
section
set_option autoImplicit false
set_option maxRecDepth 100000
set_option Elab.async false
set_option linter.all false
namespace K65
open PySem DL L2 SX
variable {ns : List Int} {s : S4} {x0 x2 x3 x4 x5 x6 x7 x8 x9 x10 x11 x12 x13 x14 x15 : Sl} {cs v : Wd} {rows ws : List Wd} {o : Option Wd} {X : List Itm}
theorem la_turned (t : TD cs rows ws o v X) {A : List Ppr} (hA : ∀ p ∈ A, okP p) (lA : A.length ≤ 90) (l13 : Loose x13) : ∃ (B : List Ppr) (s' : S4) (y13 : Sl), (∀ p ∈ B, okP p) ∧ Loose y13 ∧ forS (e1 rg1D (.g (eC (.int 6)))) (tgN 13) B_law_2 (LS ns s x0 x2 (.fz (wd cs)) x4 x5 x6 (.fz (pairD v (X.map itD))) x8 x9 (.ow false (.ls (A.map pprD))) x11 x12 x13 x14 x15) = .ok .nx (LS ns s' x0 x2 (.fz (wd cs)) x4 x5 x6 (.fz (pairD v (X.map itD))) x8 x9 (.ow false (.ls (B.map pprD))) x11 x12 y13 x14 x15) := by
  obtain ⟨ρ', e, B, s', y13, hB, _, h13, rfl⟩ := loop_pre (t := tgN 13) (b := B_law_2) I (fun d ρ => ∃ (B : List Ppr) (s' : S4) (y13 : Sl), (∀ p ∈ B, okP p) ∧ B.length ≤ 90 + d.length ∧ Loose y13 ∧ ρ = LS ns s' x0 x2 (.fz (wd cs)) x4 x5 x6 (.fz (pairD v (X.map itD))) x8 x9 (.ow false (.ls (B.map pprD))) x11 x12 y13 x14 x15) (List.range 6) [] (LS ns s x0 x2 (.fz (wd cs)) x4 x5 x6 (.fz (pairD v (X.map itD))) x8 x9 (.ow false (.ls (A.map pprD))) x11 x12 x13 x14 x15) ⟨A, s, x13, hA, by simpa using lA, l13, rfl⟩ fun d j rr ρ q i => by
    obtain ⟨B, s1, y13, hB, lB, h13, rfl⟩ := i
    have q : List.range 6 = d ++ j :: rr := q
    have ld : d.length ≤ 6 := by
      have := congrArg List.length q
      rw [List.length_range] at this
      simp at this
      omega
    obtain ⟨ys, s2, oy, ly, e⟩ := turned_run ns s1 t.c1 t.c4 t.cb t.tx t.lx
    have i4 := ix_pair0 v (X.map itD)
    have i5 := ix_pair1 v (X.map itD)
    have hb : e2 ixD (.b 7) (.g (eC (.int 1))) (LS ns s1 x0 x2 (.fz (wd cs)) x4 x5 x6 (.fz (pairD v (X.map itD))) x8 x9 (.ow false (.ls (B.map pprD))) x11 x12 (.fz (I j)) x14 x15) = .ok (.tuple (X.map itD)) (LS ns s1 x0 x2 (.fz (wd cs)) x4 x5 x6 (.fz (pairD v (X.map itD))) x8 x9 (.ow false (.ls (B.map pprD))) x11 x12 (.fz (I j)) x14 x15) := by
      generalize X.map itD = Y at *
      generalize B.map pprD = Z at *
      unfold LS
      simp [-Option.bind_some, -Option.bind_none, i5]
    have ha : e2 ixD (.b 7) (.g (eC (.int 0))) (LS ns s1 x0 x2 (.fz (wd cs)) x4 x5 x6 (.fz (pairD v (X.map itD))) x8 x9 (.ow false (.ls (B.map pprD))) x11 x12 (.fz (I j)) x14 x15) = .ok (wd v) (LS ns s1 x0 x2 (.fz (wd cs)) x4 x5 x6 (.fz (pairD v (X.map itD))) x8 x9 (.ow false (.ls (B.map pprD))) x11 x12 (.fz (I j)) x14 x15) := by
      generalize X.map itD = Y at *
      generalize B.map pprD = Z at *
      unfold LS
      simp [-Option.bind_some, -Option.bind_none, i4]
    have c := callS2 (F := F__law_turned) (i := 1) (b := false) (o := obS ns s1) (ga := eV 3) (gb := e2 ixD (.b 7) (.g (eC (.int 1)))) (ρ := LS ns s1 x0 x2 (.fz (wd cs)) x4 x5 x6 (.fz (pairD v (X.map itD))) x8 x9 (.ow false (.ls (B.map pprD))) x11 x12 (.fz (I j)) x14 x15) rfl rfl hb e
    have c : callE F__law_turned [.s 1, .g (eV 3), .g (e2 ixD (.b 7) (.g (eC (.int 1))))] (LS ns s1 x0 x2 (.fz (wd cs)) x4 x5 x6 (.fz (pairD v (X.map itD))) x8 x9 (.ow false (.ls (B.map pprD))) x11 x12 (.fz (I j)) x14 x15) = .ok (.tuple (ys.map itD)) (LS ns s2 x0 x2 (.fz (wd cs)) x4 x5 x6 (.fz (pairD v (X.map itD))) x8 x9 (.ow false (.ls (B.map pprD))) x11 x12 (.fz (I j)) x14 x15) := c
    have gt : eTup [(e2 ixD (.b 7) (.g (eC (.int 0)))), (callE (F__law_turned) [.s 1, .g (eV 3), .g (e2 ixD (.b 7) (.g (eC (.int 1))))])] (LS ns s1 x0 x2 (.fz (wd cs)) x4 x5 x6 (.fz (pairD v (X.map itD))) x8 x9 (.ow false (.ls (B.map pprD))) x11 x12 (.fz (I j)) x14 x15) = .ok (pprD (Ppr.pr v ys)) (LS ns s2 x0 x2 (.fz (wd cs)) x4 x5 x6 (.fz (pairD v (X.map itD))) x8 x9 (.ow false (.ls (B.map pprD))) x11 x12 (.fz (I j)) x14 x15) := by
      rw [eTup_ap, eL_cons, ha, Res.bind_ok, eL_cons, c, Res.bind_ok, eL_nil]
      rfl
    have la : (B.map pprD).length < 16777216 := by rw [List.length_map]; omega
    have ma := mutS_run (f := appF) (i := 10) (b := false) (xs := B.map pprD) (ys := B.map pprD ++ [pprD (Ppr.pr v ys)]) (ρ := LS ns s1 x0 x2 (.fz (wd cs)) x4 x5 x6 (.fz (pairD v (X.map itD))) x8 x9 (.ow false (.ls (B.map pprD))) x11 x12 (.fz (I j)) x14 x15) rfl gt (b' := false) (xs' := B.map pprD) rfl (by rw [app_ap, if_pos la])
    refine ⟨LS ns s1 x0 x2 (.fz (wd cs)) x4 x5 x6 (.fz (pairD v (X.map itD))) x8 x9 (.ow false (.ls (B.map pprD))) x11 x12 (.fz (I j)) x14 x15, LS ns s2 x0 x2 (.fz (wd cs)) x4 x5 x6 (.fz (pairD v (X.map itD))) x8 x9 (.ow false (.ls ((B ++ [Ppr.pr v ys]).map pprD))) x11 x12 (.fz (I j)) x14 x15, ?_, ?_, B ++ [Ppr.pr v ys], s2, .fz (I j), fun p hp => ?_, by simp; omega, .fz _, rfl⟩
    · show sto _ 13 _ = _
      rw [sto_loose (x := y13) rfl h13]
      rfl
    · unfold B_law_2
      rw [ma, List.map_append]
      rfl
    · rcases List.mem_append.mp hp with z | z
      · exact hB p z
      · rw [List.mem_singleton.mp z]; exact ⟨t.hv, oy, ly⟩
  refine ⟨B, s', y13, hB, h13, ?_⟩
  have i1 : e1 rg1D (.g (eC (.int 6))) (LS ns s x0 x2 (.fz (wd cs)) x4 x5 x6 (.fz (pairD v (X.map itD))) x8 x9 (.ow false (.ls (A.map pprD))) x11 x12 x13 x14 x15) = .ok ((List.range 6).map I) (LS ns s x0 x2 (.fz (wd cs)) x4 x5 x6 (.fz (pairD v (X.map itD))) x8 x9 (.ow false (.ls (A.map pprD))) x11 x12 x13 x14 x15) := by
    have r1 := rg1_n 6 (by omega)
    have r1 : rg1D (.int 6) = _ := r1
    rw [e1_ap, opd_g, eC_ap, Res.bind_ok, Res.bind_ok]
    rw [fin_d, obind, r1]
    rfl
  rw [forS_ap, i1, Res.bind_ok]
  exact e
theorem la_asked (h : OkR rows) {A : List Ppr} (hA : ∀ p ∈ A, okP p) (l14 : Loose x14) : ∃ y14, Loose y14 ∧ forS (eIt (eV 10)) (tgN 14) B_law_3 (LS ns s x0 x2 x3 (.fz (.list (rows.map wd))) x5 x6 x7 (.fz (.list (rows.map wd))) x9 (.ow false (.ls (A.map pprD))) x11 x12 x13 x14 x15) = .ok .nx (LS ns s x0 x2 x3 (.fz (.list (rows.map wd))) x5 x6 x7 (.fz (.list (rows.map wd))) x9 (.fz (.list (A.map pprD))) x11 x12 x13 y14 x15) := by
  obtain ⟨ρ', e, y14, h14, rfl⟩ := loop_pre (t := tgN 14) (b := B_law_3) pprD (fun d ρ => ∃ y14, Loose y14 ∧ ρ = LS ns s x0 x2 x3 (.fz (.list (rows.map wd))) x5 x6 x7 (.fz (.list (rows.map wd))) x9 (.fz (.list (A.map pprD))) x11 x12 x13 y14 x15) A [] (LS ns s x0 x2 x3 (.fz (.list (rows.map wd))) x5 x6 x7 (.fz (.list (rows.map wd))) x9 (.fz (.list (A.map pprD))) x11 x12 x13 x14 x15) ⟨x14, l14, rfl⟩ fun d p rr ρ q i => by
    obtain ⟨y14, h14, rfl⟩ := i
    have q : A = d ++ p :: rr := q
    have mp : p ∈ A := by rw [q]; simp
    have c1 := call2 (F := F_judge_code) (ga := eV 8) (gb := eV 14) (ρ := LS ns s x0 x2 x3 (.fz (.list (rows.map wd))) x5 x6 x7 (.fz (.list (rows.map wd))) x9 (.fz (.list (A.map pprD))) x11 x12 x13 (.fz (pprD p)) x15) rfl rfl (judge_run h (hA p mp))
    have c2 := call2 (F := F__law_accepts) (ga := eV 4) (gb := eV 14) (ρ := LS ns s x0 x2 x3 (.fz (.list (rows.map wd))) x5 x6 x7 (.fz (.list (rows.map wd))) x9 (.fz (.list (A.map pprD))) x11 x12 x13 (.fz (pprD p)) x15) rfl rfl (accepts_run h (hA p mp))
    have sm := same2 (n := 0) (.inr (.inl ⟨pj rows p, rfl⟩)) (by omega) c1 c2
    refine ⟨LS ns s x0 x2 x3 (.fz (.list (rows.map wd))) x5 x6 x7 (.fz (.list (rows.map wd))) x9 (.fz (.list (A.map pprD))) x11 x12 x13 (.fz (pprD p)) x15, LS ns s x0 x2 x3 (.fz (.list (rows.map wd))) x5 x6 x7 (.fz (.list (rows.map wd))) x9 (.fz (.list (A.map pprD))) x11 x12 x13 (.fz (pprD p)) x15, ?_, ?_, .fz (pprD p), .fz _, rfl⟩
    · show sto _ 14 _ = _
      rw [sto_loose (x := y14) rfl h14]
      rfl
    · unfold B_law_3
      rw [ifS_ap, eNot_ap, sm]
      rfl
  refine ⟨y14, h14, ?_⟩
  have i1 : eIt (eV 10) (LS ns s x0 x2 x3 (.fz (.list (rows.map wd))) x5 x6 x7 (.fz (.list (rows.map wd))) x9 (.ow false (.ls (A.map pprD))) x11 x12 x13 x14 x15) = .ok (A.map pprD) (LS ns s x0 x2 x3 (.fz (.list (rows.map wd))) x5 x6 x7 (.fz (.list (rows.map wd))) x9 (.fz (.list (A.map pprD))) x11 x12 x13 x14 x15) := Eq.trans rfl rfl
  rw [forS_ap, i1, Res.bind_ok]
  exact e
def AllL (x3 x4 x5 x6 x7 x8 x9 x10 x11 x12 x13 x14 x15 : Sl) : Prop := Loose x3 ∧ Loose x4 ∧ Loose x5 ∧ Loose x6 ∧ Loose x7 ∧ Loose x8 ∧ Loose x9 ∧ Loose x10 ∧ Loose x11 ∧ Loose x12 ∧ Loose x13 ∧ Loose x14 ∧ Loose x15
theorem turn_run (ns : List Int) (s : S4) (x0 x2 x3 x4 x5 x6 x7 x8 x9 x10 x11 x12 x13 x14 x15 : Sl) (L : AllL x3 x4 x5 x6 x7 x8 x9 x10 x11 x12 x13 x14 x15) : ∃ s' y3 y4 y5 y6 y7 y8 y9 y10 y11 y12 y13 y14 y15, AllL y3 y4 y5 y6 y7 y8 y9 y10 y11 y12 y13 y14 y15 ∧ B_law_4 (LS ns s x0 x2 x3 x4 x5 x6 x7 x8 x9 x10 x11 x12 x13 x14 x15) = .ok .nx (LS ns s' x0 x2 y3 y4 y5 y6 y7 y8 y9 y10 y11 y12 y13 y14 y15) := by
  obtain ⟨l3, l4, l5, l6, l7, l8, l9, l10, l11, l12, l13, l14, l15⟩ := L
  obtain ⟨cs, s1, c1, c4, cb, q1⟩ := la_signs ns s x0 x2 x3 x4 x5 x6 x7 x8 x9 x10 x11 x12 x13 x14 x15 l3
  obtain ⟨rows, s2, ok, q2⟩ := la_rows ns s1 x0 x2 x4 x5 x6 x7 x8 x9 x10 x11 x12 x13 x14 x15 c1 c4 cb l4
  obtain ⟨ws, o, v, X, t⟩ := td c1 c4 cb ok
  have q3 := la_rest (ns := ns) (s := s2) (x0 := x0) (x2 := x2) (x5 := x5) (x6 := x6) (x7 := x7) (x8 := x8) (x9 := x9) (x10 := x10) (x11 := x11) (x12 := x12) (x13 := x13) (x14 := x14) (x15 := x15) t l5
  have q4 := la_dbl (ns := ns) (s := s2) (x0 := x0) (x2 := x2) (x6 := x6) (x7 := x7) (x8 := x8) (x9 := x9) (x10 := x10) (x11 := x11) (x12 := x12) (x13 := x13) (x14 := x14) (x15 := x15) t l6
  have q5 := la_c1 (ns := ns) (s := s2) (x0 := x0) (x2 := x2) (x7 := x7) (x8 := x8) (x9 := x9) (x10 := x10) (x11 := x11) (x12 := x12) (x13 := x13) (x14 := x14) (x15 := x15) t
  obtain ⟨r6, q6, q7⟩ := la_due (ns := ns) (s := s2) (x0 := x0) (x2 := x2) (x7 := x7) (x8 := x8) (x9 := x9) (x10 := x10) (x11 := x11) (x12 := x12) (x13 := x13) (x14 := x14) (x15 := x15) t l7
  have q8 := la_copy (ns := ns) (s := s2) (x0 := x0) (x2 := x2) (x3 := .fz (wd cs)) (rows := rows) (x5 := .fz (.list (ws.map wd))) (x6 := .fz (oD o)) (x7 := .fz (pairD v (X.map itD))) (x8 := x8) (x9 := x9) (x10 := x10) (x11 := x11) (x12 := x12) (x13 := x13) (x14 := x14) (x15 := x15) l8
  have q9 := la_code (ns := ns) (s := s2) (x0 := x0) (x2 := x2) (x3 := .fz (wd cs)) (x4 := .fz (.list (rows.map wd))) (x5 := .fz (.list (ws.map wd))) (x6 := .fz (oD o)) (x7 := .fz (pairD v (X.map itD))) (x9 := x9) (x10 := x10) (x11 := x11) (x12 := x12) (x13 := x13) (x14 := x14) (x15 := x15) t l9
  have q10 := la_c2 (ns := ns) (s := s2) (x0 := x0) (x2 := x2) (x3 := .fz (wd cs)) (x5 := .fz (.list (ws.map wd))) (x6 := .fz (oD o)) (x10 := x10) (x11 := x11) (x12 := x12) (x13 := x13) (x14 := x14) (x15 := x15) t
  have q11 := la_c3 (ns := ns) (s := s2) (x0 := x0) (x2 := x2) (x3 := .fz (wd cs)) (x6 := .fz (oD o)) (x7 := .fz (pairD v (X.map itD))) (x9 := .fz (pairD v (X.map itD))) (x10 := x10) (x11 := x11) (x12 := x12) (x13 := x13) (x14 := x14) (x15 := x15) t
  have q12 := la_asks1 (ns := ns) (s := s2) (x0 := x0) (x2 := x2) (x3 := .fz (wd cs)) (x4 := .fz (.list (rows.map wd))) (ws := ws) (x6 := .fz (oD o)) (v := v) (X := X) (x8 := .fz (.list (rows.map wd))) (x9 := .fz (pairD v (X.map itD))) (x10 := x10) (x11 := x11) (x12 := x12) (x13 := x13) (x14 := x14) (x15 := x15) l10
  have q13 := la_asks2 (ns := ns) (s := s2) (x0 := x0) (x2 := x2) (x3 := .fz (wd cs)) (x5 := .fz (.list (ws.map wd))) (x6 := .fz (oD o)) (x8 := .fz (.list (rows.map wd))) (x9 := .fz (pairD v (X.map itD))) (x11 := x11) (x12 := x12) (x13 := x13) (x14 := x14) (x15 := x15) t (asks1 v X ws) (by simp [asks1])
  have q14 := la_ends0 (ns := ns) (s := s2) (x0 := x0) (x2 := x2) (x3 := .fz (wd cs)) (x4 := .fz (.list (rows.map wd))) (x5 := .fz (.list (ws.map wd))) (x6 := .fz (oD o)) (x7 := .fz (pairD v (X.map itD))) (x8 := .fz (.list (rows.map wd))) (x9 := .fz (pairD v (X.map itD))) (x10 := .ow false (.ls ((asks1 v X ws ++ asks2 X rows.length).map pprD))) (x11 := x11) (x12 := x12) (x13 := x13) (x14 := x14) (x15 := x15) l11
  obtain ⟨y12, y13, m12, m13, q15⟩ := la_ends (ns := ns) (s := s2) (x0 := x0) (x2 := x2) (x3 := .fz (wd cs)) (x5 := .fz (.list (ws.map wd))) (x6 := .fz (oD o)) (x7 := .fz (pairD v (X.map itD))) (x8 := .fz (.list (rows.map wd))) (x9 := .fz (pairD v (X.map itD))) (x10 := .ow false (.ls ((asks1 v X ws ++ asks2 X rows.length).map pprD))) (x12 := x12) (x13 := x13) (x14 := x14) (x15 := x15) t.ok l12 l13
  obtain ⟨es, oe, q16⟩ := la_asks3 (ns := ns) (s := s2) (x0 := x0) (x2 := x2) (x3 := .fz (wd cs)) (x4 := .fz (.list (rows.map wd))) (x5 := .fz (.list (ws.map wd))) (x6 := .fz (oD o)) (x7 := .fz (pairD v (X.map itD))) (x8 := .fz (.list (rows.map wd))) (x9 := .fz (pairD v (X.map itD))) (x12 := y12) (x13 := y13) (x14 := x14) (x15 := x15) t.ok (asks1 v X ws ++ asks2 X rows.length) (by simp [asks1, asks2])
  have hA : ∀ p ∈ asks1 v X ws ++ asks2 X rows.length ++ asks3 es, okP p := fun p hp => by
    rcases List.mem_append.mp hp with z | z
    · rcases List.mem_append.mp z with z | z
      · exact ok_asks1 t p z
      · exact ok_asks2 _ p z
    · exact oe p z
  obtain ⟨B, s3, z13, hB, m13', q17⟩ := la_turned (ns := ns) (s := s2) (x0 := x0) (x2 := x2) (x4 := .fz (.list (rows.map wd))) (x5 := .fz (.list (ws.map wd))) (x6 := .fz (oD o)) (x8 := .fz (.list (rows.map wd))) (x9 := .fz (pairD v (X.map itD))) (x11 := .ow false (.ls ((ends rows).map wd))) (x12 := y12) (x13 := y13) (x14 := x14) (x15 := .un) t hA (by simp [asks1, asks2, asks3]) m13
  obtain ⟨y14, m14, q18⟩ := la_asked (ns := ns) (s := s3) (x0 := x0) (x2 := x2) (x3 := .fz (wd cs)) (x5 := .fz (.list (ws.map wd))) (x6 := .fz (oD o)) (x7 := .fz (pairD v (X.map itD))) (x9 := .fz (pairD v (X.map itD))) (x11 := .ow false (.ls ((ends rows).map wd))) (x12 := y12) (x13 := z13) (x14 := x14) (x15 := .un) t.ok hB l14
  refine ⟨s3, .fz (wd cs), .fz (.list (rows.map wd)), .fz (.list (ws.map wd)), .fz (oD o), .fz (pairD v (X.map itD)), .fz (.list (rows.map wd)), .fz (pairD v (X.map itD)), .fz (.list (B.map pprD)), .ow false (.ls ((ends rows).map wd)), y12, z13, y14, .un, ⟨.fz _, .fz _, .fz _, .fz _, .fz _, .fz _, .fz _, .fz _, .ow _, m12, m13', m14, .un⟩, ?_⟩
  unfold B_law_4
  rw [seqS_ap, q1, Res.bind_ok]; dsimp only
  rw [seqS_ap, q2, Res.bind_ok]; dsimp only
  rw [seqS_ap, q3, Res.bind_ok]; dsimp only
  rw [seqS_ap, q4, Res.bind_ok]; dsimp only
  rw [seqS_ap, ifS_ap, q5, Res.bind_ok, if_neg Bool.false_ne_true, nxS_ap, Res.bind_ok]; dsimp only
  rw [seqS_ap, q6, Res.bind_ok]; dsimp only
  rw [seqS_ap, q7, Res.bind_ok]; dsimp only
  rw [seqS_ap, q8, Res.bind_ok]; dsimp only
  rw [seqS_ap, q9, Res.bind_ok]; dsimp only
  rw [seqS_ap, ifS_ap, q10, Res.bind_ok, if_neg Bool.false_ne_true, nxS_ap, Res.bind_ok]; dsimp only
  rw [seqS_ap, ifS_ap, q11, Res.bind_ok, if_neg Bool.false_ne_true, nxS_ap, Res.bind_ok]; dsimp only
  rw [seqS_ap, q12, Res.bind_ok]; dsimp only
  rw [seqS_ap, q13, Res.bind_ok]; dsimp only
  rw [seqS_ap, q14, Res.bind_ok]; dsimp only
  rw [seqS_ap, q15, Res.bind_ok]; dsimp only
  rw [seqS_ap, q16, Res.bind_ok]; dsimp only
  rw [seqS_ap, q17, Res.bind_ok]; dsimp only
  rw [q18]
theorem law_run (ns : List Int) : ∃ r, g_law ns (List.replicate 16 .un) = .ok (.rt (.bool true)) r := by
  obtain ⟨ρ', e, s', y2, y3, y4, y5, y6, y7, y8, y9, y10, y11, y12, y13, y14, y15, L, l2, rfl⟩ := loop_pre (t := tgN 2) (b := B_law_4) I (fun d ρ => ∃ s' y2 y3 y4 y5 y6 y7 y8 y9 y10 y11 y12 y13 y14 y15, AllL y3 y4 y5 y6 y7 y8 y9 y10 y11 y12 y13 y14 y15 ∧ Loose y2 ∧ ρ = LS ns s' .un y2 y3 y4 y5 y6 y7 y8 y9 y10 y11 y12 y13 y14 y15) (List.range 3) [] (LS ns ⟨0, 0, 1, Int.le_refl _⟩ .un .un .un .un .un .un .un .un .un .un .un .un .un .un .un) ⟨_, .un, .un, .un, .un, .un, .un, .un, .un, .un, .un, .un, .un, .un, .un, ⟨.un, .un, .un, .un, .un, .un, .un, .un, .un, .un, .un, .un, .un⟩, .un, rfl⟩ fun d j rr ρ q i => by
    obtain ⟨s1, y2, y3, y4, y5, y6, y7, y8, y9, y10, y11, y12, y13, y14, y15, L, l2, rfl⟩ := i
    obtain ⟨s2, z3, z4, z5, z6, z7, z8, z9, z10, z11, z12, z13, z14, z15, L', e⟩ := turn_run ns s1 .un (.fz (I j)) y3 y4 y5 y6 y7 y8 y9 y10 y11 y12 y13 y14 y15 L
    refine ⟨_, _, ?_, e, s2, .fz (I j), z3, z4, z5, z6, z7, z8, z9, z10, z11, z12, z13, z14, z15, L', .fz _, rfl⟩
    show sto _ 2 _ = _
    rw [sto_loose (x := y2) rfl l2]
    rfl
  refine ⟨LS ns s' .un y2 y3 y4 y5 y6 y7 y8 y9 y10 y11 y12 y13 y14 y15, ?_⟩
  have s1 : setO 1 (eLst [(eC (.list (ns.map PyData.int))), (eC (.int 0)), (eC (.int 0)), (eC (.int 1))]) (List.replicate 16 .un) = .ok .nx (LS ns ⟨0, 0, 1, Int.le_refl _⟩ .un .un .un .un .un .un .un .un .un .un .un .un .un .un .un) := Eq.trans rfl rfl
  have g1 : e1 rg1D (.g (eC (.int 3))) (LS ns ⟨0, 0, 1, Int.le_refl _⟩ .un .un .un .un .un .un .un .un .un .un .un .un .un .un .un) = .ok ((List.range 3).map I) (LS ns ⟨0, 0, 1, Int.le_refl _⟩ .un .un .un .un .un .un .un .un .un .un .un .un .un .un .un) := by
    have r1 := rg1_n 3 (by omega)
    have r1 : rg1D (.int 3) = _ := r1
    rw [e1_ap, opd_g, eC_ap, Res.bind_ok, Res.bind_ok, fin_d, obind, r1]
    rfl
  unfold g_law
  rw [seqS_ap, s1, Res.bind_ok]
  dsimp only
  rw [seqS_ap, forS_ap, g1, Res.bind_ok, e, Res.bind_ok]
  rfl
end K65
end
section
set_option Elab.async false
set_option linter.all false
set_option maxRecDepth 100000
set_option maxHeartbeats 4000000
namespace K65
open PySem PySem.Spec L2 DL
/-! ### what the top has written -/
def DF (K : PySem.W.Frag) (x qual : Str) (st : Stmt) : Prop := ∃ (f : Addr) (oc : Value) (od an : Option Addr) (osl : Array (Option Value)) (kV doc pm cdv ct : Value),
  PySem.W.nsIn K mainGlobals x = some (some (.ref f)) ∧ K.lookup f = some ⟨oc, od, .func (PySem.W.fnOf x qual (defArgs st) (defBody st) (defScope st) .none kV doc pm an cdv ct), osl⟩ ∧ PySem.W.codeIn K cdv qual = true ∧ PySem.W.keepIn K (.ref f) = true
theorem DF.mk' {K : PySem.W.Frag} {x qual : Str} {st : Stmt} {f : Addr} {oc : Value} {od an : Option Addr} {osl : Array (Option Value)} {kV doc pm cdv ct : Value} (a : PySem.W.nsIn K mainGlobals x = some (some (.ref f)))
  (l : K.lookup f = some ⟨oc, od, .func (PySem.W.fnOf x qual (defArgs st) (defBody st) (defScope st) .none kV doc pm an cdv ct), osl⟩) (c : PySem.W.codeIn K cdv qual = true) (k : PySem.W.keepIn K (.ref f) = true) : DF K x qual st := ⟨f, oc, od, an, osl, kV, doc, pm, cdv, ct, a, l, c, k⟩
theorem kit_type {K : PySem.W.Frag} {C : Addr} {T : String} {b : Bool} (hm : PySem.W.kitMeta T = true) (hs : PySem.W.subIn K (.ref C) (.type T) = some b) : PySem.W.kitOne K (.ref C) (.type T) = some b := by
  show (if (Value.ref C == Value.type T) = true then some true else if PySem.W.kitMeta T = true then PySem.W.subIn K (.ref C) (.type T) else none) = _
  rw [if_neg (fun z => by first | exact Bool.noConfusion z | cases (beq_iff_eq.mp z) | simp at z), if_pos hm]
  exact hs
theorem all_mk {l : PySem.W.OpenLaw} {w : World} {K : PySem.W.Frag} {h : Heap} {mg : Str → Option Value} {fa : Addr} (X : K.In h) (G : h.Ns mainGlobals mg) (hfa : mg "law" = some (.ref fa))
    (m_bool : PySem.W.nsIn K mainGlobals "bool" = some none)
    (m_enumerate : PySem.W.nsIn K mainGlobals "enumerate" = some none)
    (m_int : PySem.W.nsIn K mainGlobals "int" = some none)
    (m_isinstance : PySem.W.nsIn K mainGlobals "isinstance" = some none)
    (m_len : PySem.W.nsIn K mainGlobals "len" = some none)
    (m_list : PySem.W.nsIn K mainGlobals "list" = some none)
    (m_min : PySem.W.nsIn K mainGlobals "min" = some none)
    (m_range : PySem.W.nsIn K mainGlobals "range" = some none)
    (m_reversed : PySem.W.nsIn K mainGlobals "reversed" = some none)
    (m_set : PySem.W.nsIn K mainGlobals "set" = some none)
    (m_sorted : PySem.W.nsIn K mainGlobals "sorted" = some none)
    (m_str : PySem.W.nsIn K mainGlobals "str" = some none)
    (m_tuple : PySem.W.nsIn K mainGlobals "tuple" = some none)
    (d_rests_of : DF K "rests_of" "rests_of" s_rests_of)
    (d_remainders : DF K "remainders" "remainders" s_remainders)
    (d_least_double : DF K "least_double" "least_double" s_least_double)
    (d_readings : DF K "readings" "readings" s_readings)
    (d_code : DF K "code" "code" s_code)
    (d_is_reading : DF K "is_reading" "is_reading" s_is_reading)
    (d_judge_code : DF K "judge_code" "judge_code" s_judge_code)
    (d__law_next : DF K "_law_next" "_law_next" s__law_next)
    (d__law_same : DF K "_law_same" "_law_same" s__law_same)
    (d__law_signs : DF K "_law_signs" "_law_signs" s__law_signs)
    (d__law_word : DF K "_law_word" "_law_word" s__law_word)
    (d__law_rows : DF K "_law_rows" "_law_rows" s__law_rows)
    (d__law_rests : DF K "_law_rests" "_law_rests" s__law_rests)
    (d__law_left_over : DF K "_law_left_over" "_law_left_over" s__law_left_over)
    (d__law_ways : DF K "_law_ways" "_law_ways" s__law_ways)
    (d__law_least_double : DF K "_law_least_double" "_law_least_double" s__law_least_double)
    (d__law_longer : DF K "_law_longer" "_law_longer" s__law_longer)
    (d__law_no_lesser : DF K "_law_no_lesser" "_law_no_lesser" s__law_no_lesser)
    (d__law_is_number : DF K "_law_is_number" "_law_is_number" s__law_is_number)
    (d__law_accepts : DF K "_law_accepts" "_law_accepts" s__law_accepts)
    (d__law_turned : DF K "_law_turned" "_law_turned" s__law_turned)
    (d_law : DF K "law" "law" s_law)
    : ∃ fd : FuncData, (∀ (s : Shared) (v : Value), BindsTo s fd ⟨[v], []⟩ [("script", v)]) ∧ ∀ base : Heap, K.In base → base.Ns mainGlobals mg → FnOk l.prog w K mg base (L2.CX l.prog w) 231 fa fd ["script"] (spLaw K) := by
  obtain ⟨f_rests_of, oc_rests_of, od_rests_of, an_rests_of, sl_rests_of, kV_rests_of, dc_rests_of, pm_rests_of, cd_rests_of, ct_rests_of, nn_rests_of, l_rests_of, cc_rests_of, kk_rests_of⟩ := d_rests_of
  have F_rests_of := fun_mk (st := s_rests_of) l_rests_of cc_rests_of kk_rests_of
  have b_rests_of := F_rests_of.binds (ps := ["rows", "rest"]) fun _ _ _ _ _ _ us hl => match us, hl with | [_, _], _ => rfl
  obtain ⟨f_remainders, oc_remainders, od_remainders, an_remainders, sl_remainders, kV_remainders, dc_remainders, pm_remainders, cd_remainders, ct_remainders, nn_remainders, l_remainders, cc_remainders, kk_remainders⟩ := d_remainders
  have F_remainders := fun_mk (st := s_remainders) l_remainders cc_remainders kk_remainders
  have b_remainders := F_remainders.binds (ps := ["rows"]) fun _ _ _ _ _ _ us hl => match us, hl with | [_], _ => rfl
  obtain ⟨f_least_double, oc_least_double, od_least_double, an_least_double, sl_least_double, kV_least_double, dc_least_double, pm_least_double, cd_least_double, ct_least_double, nn_least_double, l_least_double, cc_least_double, kk_least_double⟩ := d_least_double
  have F_least_double := fun_mk (st := s_least_double) l_least_double cc_least_double kk_least_double
  have b_least_double := F_least_double.binds (ps := ["rows"]) fun _ _ _ _ _ _ us hl => match us, hl with | [_], _ => rfl
  obtain ⟨f_readings, oc_readings, od_readings, an_readings, sl_readings, kV_readings, dc_readings, pm_readings, cd_readings, ct_readings, nn_readings, l_readings, cc_readings, kk_readings⟩ := d_readings
  have F_readings := fun_mk (st := s_readings) l_readings cc_readings kk_readings
  have b_readings := F_readings.binds (ps := ["rows", "text"]) fun _ _ _ _ _ _ us hl => match us, hl with | [_, _], _ => rfl
  obtain ⟨f_code, oc_code, od_code, an_code, sl_code, kV_code, dc_code, pm_code, cd_code, ct_code, nn_code, l_code, cc_code, kk_code⟩ := d_code
  have F_code := fun_mk (st := s_code) l_code cc_code kk_code
  have b_code := F_code.binds (ps := ["rows"]) fun _ _ _ _ _ _ us hl => match us, hl with | [_], _ => rfl
  obtain ⟨f_is_reading, oc_is_reading, od_is_reading, an_is_reading, sl_is_reading, kV_is_reading, dc_is_reading, pm_is_reading, cd_is_reading, ct_is_reading, nn_is_reading, l_is_reading, cc_is_reading, kk_is_reading⟩ := d_is_reading
  have F_is_reading := fun_mk (st := s_is_reading) l_is_reading cc_is_reading kk_is_reading
  have b_is_reading := F_is_reading.binds (ps := ["rows", "reading"]) fun _ _ _ _ _ _ us hl => match us, hl with | [_, _], _ => rfl
  obtain ⟨f_judge_code, oc_judge_code, od_judge_code, an_judge_code, sl_judge_code, kV_judge_code, dc_judge_code, pm_judge_code, cd_judge_code, ct_judge_code, nn_judge_code, l_judge_code, cc_judge_code, kk_judge_code⟩ := d_judge_code
  have F_judge_code := fun_mk (st := s_judge_code) l_judge_code cc_judge_code kk_judge_code
  have b_judge_code := F_judge_code.binds (ps := ["rows", "told"]) fun _ _ _ _ _ _ us hl => match us, hl with | [_, _], _ => rfl
  obtain ⟨f__law_next, oc__law_next, od__law_next, an__law_next, sl__law_next, kV__law_next, dc__law_next, pm__law_next, cd__law_next, ct__law_next, nn__law_next, l__law_next, cc__law_next, kk__law_next⟩ := d__law_next
  have F__law_next := fun_mk (st := s__law_next) l__law_next cc__law_next kk__law_next
  have b__law_next := F__law_next.binds (ps := ["state", "limit"]) fun _ _ _ _ _ _ us hl => match us, hl with | [_, _], _ => rfl
  obtain ⟨f__law_same, oc__law_same, od__law_same, an__law_same, sl__law_same, kV__law_same, dc__law_same, pm__law_same, cd__law_same, ct__law_same, nn__law_same, l__law_same, cc__law_same, kk__law_same⟩ := d__law_same
  have F__law_same := fun_mk (st := s__law_same) l__law_same cc__law_same kk__law_same
  have b__law_same := F__law_same.binds (ps := ["actual", "expected"]) fun _ _ _ _ _ _ us hl => match us, hl with | [_, _], _ => rfl
  obtain ⟨f__law_signs, oc__law_signs, od__law_signs, an__law_signs, sl__law_signs, kV__law_signs, dc__law_signs, pm__law_signs, cd__law_signs, ct__law_signs, nn__law_signs, l__law_signs, cc__law_signs, kk__law_signs⟩ := d__law_signs
  have F__law_signs := fun_mk (st := s__law_signs) l__law_signs cc__law_signs kk__law_signs
  have b__law_signs := F__law_signs.binds (ps := ["state"]) fun _ _ _ _ _ _ us hl => match us, hl with | [_], _ => rfl
  obtain ⟨f__law_word, oc__law_word, od__law_word, an__law_word, sl__law_word, kV__law_word, dc__law_word, pm__law_word, cd__law_word, ct__law_word, nn__law_word, l__law_word, cc__law_word, kk__law_word⟩ := d__law_word
  have F__law_word := fun_mk (st := s__law_word) l__law_word cc__law_word kk__law_word
  have b__law_word := F__law_word.binds (ps := ["state", "signs", "most"]) fun _ _ _ _ _ _ us hl => match us, hl with | [_, _, _], _ => rfl
  obtain ⟨f__law_rows, oc__law_rows, od__law_rows, an__law_rows, sl__law_rows, kV__law_rows, dc__law_rows, pm__law_rows, cd__law_rows, ct__law_rows, nn__law_rows, l__law_rows, cc__law_rows, kk__law_rows⟩ := d__law_rows
  have F__law_rows := fun_mk (st := s__law_rows) l__law_rows cc__law_rows kk__law_rows
  have b__law_rows := F__law_rows.binds (ps := ["state", "signs"]) fun _ _ _ _ _ _ us hl => match us, hl with | [_, _], _ => rfl
  obtain ⟨f__law_rests, oc__law_rests, od__law_rests, an__law_rests, sl__law_rests, kV__law_rests, dc__law_rests, pm__law_rests, cd__law_rests, ct__law_rests, nn__law_rests, l__law_rests, cc__law_rests, kk__law_rests⟩ := d__law_rests
  have F__law_rests := fun_mk (st := s__law_rests) l__law_rests cc__law_rests kk__law_rests
  have b__law_rests := F__law_rests.binds (ps := ["rows", "rest"]) fun _ _ _ _ _ _ us hl => match us, hl with | [_, _], _ => rfl
  obtain ⟨f__law_left_over, oc__law_left_over, od__law_left_over, an__law_left_over, sl__law_left_over, kV__law_left_over, dc__law_left_over, pm__law_left_over, cd__law_left_over, ct__law_left_over, nn__law_left_over, l__law_left_over, cc__law_left_over, kk__law_left_over⟩ := d__law_left_over
  have F__law_left_over := fun_mk (st := s__law_left_over) l__law_left_over cc__law_left_over kk__law_left_over
  have b__law_left_over := F__law_left_over.binds (ps := ["rows"]) fun _ _ _ _ _ _ us hl => match us, hl with | [_], _ => rfl
  obtain ⟨f__law_ways, oc__law_ways, od__law_ways, an__law_ways, sl__law_ways, kV__law_ways, dc__law_ways, pm__law_ways, cd__law_ways, ct__law_ways, nn__law_ways, l__law_ways, cc__law_ways, kk__law_ways⟩ := d__law_ways
  have F__law_ways := fun_mk (st := s__law_ways) l__law_ways cc__law_ways kk__law_ways
  have b__law_ways := F__law_ways.binds (ps := ["rows", "text", "at", "known"]) fun _ _ _ _ _ _ us hl => match us, hl with | [_, _, _, _], _ => rfl
  obtain ⟨f__law_least_double, oc__law_least_double, od__law_least_double, an__law_least_double, sl__law_least_double, kV__law_least_double, dc__law_least_double, pm__law_least_double, cd__law_least_double, ct__law_least_double, nn__law_least_double, l__law_least_double, cc__law_least_double, kk__law_least_double⟩ := d__law_least_double
  have F__law_least_double := fun_mk (st := s__law_least_double) l__law_least_double cc__law_least_double kk__law_least_double
  have b__law_least_double := F__law_least_double.binds (ps := ["rows"]) fun _ _ _ _ _ _ us hl => match us, hl with | [_], _ => rfl
  obtain ⟨f__law_longer, oc__law_longer, od__law_longer, an__law_longer, sl__law_longer, kV__law_longer, dc__law_longer, pm__law_longer, cd__law_longer, ct__law_longer, nn__law_longer, l__law_longer, cc__law_longer, kk__law_longer⟩ := d__law_longer
  have F__law_longer := fun_mk (st := s__law_longer) l__law_longer cc__law_longer kk__law_longer
  have b__law_longer := F__law_longer.binds (ps := ["front", "signs"]) fun _ _ _ _ _ _ us hl => match us, hl with | [_, _], _ => rfl
  obtain ⟨f__law_no_lesser, oc__law_no_lesser, od__law_no_lesser, an__law_no_lesser, sl__law_no_lesser, kV__law_no_lesser, dc__law_no_lesser, pm__law_no_lesser, cd__law_no_lesser, ct__law_no_lesser, nn__law_no_lesser, l__law_no_lesser, cc__law_no_lesser, kk__law_no_lesser⟩ := d__law_no_lesser
  have F__law_no_lesser := fun_mk (st := s__law_no_lesser) l__law_no_lesser cc__law_no_lesser kk__law_no_lesser
  have b__law_no_lesser := F__law_no_lesser.binds (ps := ["rows", "text", "signs"]) fun _ _ _ _ _ _ us hl => match us, hl with | [_, _, _], _ => rfl
  obtain ⟨f__law_is_number, oc__law_is_number, od__law_is_number, an__law_is_number, sl__law_is_number, kV__law_is_number, dc__law_is_number, pm__law_is_number, cd__law_is_number, ct__law_is_number, nn__law_is_number, l__law_is_number, cc__law_is_number, kk__law_is_number⟩ := d__law_is_number
  have F__law_is_number := fun_mk (st := s__law_is_number) l__law_is_number cc__law_is_number kk__law_is_number
  have b__law_is_number := F__law_is_number.binds (ps := ["value", "limit"]) fun _ _ _ _ _ _ us hl => match us, hl with | [_, _], _ => rfl
  obtain ⟨f__law_accepts, oc__law_accepts, od__law_accepts, an__law_accepts, sl__law_accepts, kV__law_accepts, dc__law_accepts, pm__law_accepts, cd__law_accepts, ct__law_accepts, nn__law_accepts, l__law_accepts, cc__law_accepts, kk__law_accepts⟩ := d__law_accepts
  have F__law_accepts := fun_mk (st := s__law_accepts) l__law_accepts cc__law_accepts kk__law_accepts
  have b__law_accepts := F__law_accepts.binds (ps := ["rows", "told"]) fun _ _ _ _ _ _ us hl => match us, hl with | [_, _], _ => rfl
  obtain ⟨f__law_turned, oc__law_turned, od__law_turned, an__law_turned, sl__law_turned, kV__law_turned, dc__law_turned, pm__law_turned, cd__law_turned, ct__law_turned, nn__law_turned, l__law_turned, cc__law_turned, kk__law_turned⟩ := d__law_turned
  have F__law_turned := fun_mk (st := s__law_turned) l__law_turned cc__law_turned kk__law_turned
  have b__law_turned := F__law_turned.binds (ps := ["state", "signs", "paper"]) fun _ _ _ _ _ _ us hl => match us, hl with | [_, _, _], _ => rfl
  obtain ⟨f_law, oc_law, od_law, an_law, sl_law, kV_law, dc_law, pm_law, cd_law, ct_law, nn_law, l_law, cc_law, kk_law⟩ := d_law
  have F_law := fun_mk (st := s_law) l_law cc_law kk_law
  have b_law := F_law.binds (ps := ["script"]) fun _ _ _ _ _ _ us hl => match us, hl with | [_], _ => rfl
  have e := hfa.symm.trans (PySem.W.mg_of X G nn_law)
  cases e
  let T : Txt K mg := {
    m_bool := PySem.W.mg_none_of X G m_bool,
    m_enumerate := PySem.W.mg_none_of X G m_enumerate,
    m_int := PySem.W.mg_none_of X G m_int,
    m_isinstance := PySem.W.mg_none_of X G m_isinstance,
    m_len := PySem.W.mg_none_of X G m_len,
    m_list := PySem.W.mg_none_of X G m_list,
    m_min := PySem.W.mg_none_of X G m_min,
    m_range := PySem.W.mg_none_of X G m_range,
    m_reversed := PySem.W.mg_none_of X G m_reversed,
    m_set := PySem.W.mg_none_of X G m_set,
    m_sorted := PySem.W.mg_none_of X G m_sorted,
    m_str := PySem.W.mg_none_of X G m_str,
    m_tuple := PySem.W.mg_none_of X G m_tuple,
    a_rests_of := f_rests_of,
    fd_rests_of := _,
    F_rests_of := F_rests_of,
    g_rests_of := PySem.W.mg_of X G nn_rests_of,
    b_rests_of := b_rests_of,
    a_remainders := f_remainders,
    fd_remainders := _,
    F_remainders := F_remainders,
    g_remainders := PySem.W.mg_of X G nn_remainders,
    b_remainders := b_remainders,
    a_least_double := f_least_double,
    fd_least_double := _,
    F_least_double := F_least_double,
    g_least_double := PySem.W.mg_of X G nn_least_double,
    b_least_double := b_least_double,
    a_readings := f_readings,
    fd_readings := _,
    F_readings := F_readings,
    g_readings := PySem.W.mg_of X G nn_readings,
    b_readings := b_readings,
    a_code := f_code,
    fd_code := _,
    F_code := F_code,
    g_code := PySem.W.mg_of X G nn_code,
    b_code := b_code,
    a_is_reading := f_is_reading,
    fd_is_reading := _,
    F_is_reading := F_is_reading,
    g_is_reading := PySem.W.mg_of X G nn_is_reading,
    b_is_reading := b_is_reading,
    a_judge_code := f_judge_code,
    fd_judge_code := _,
    F_judge_code := F_judge_code,
    g_judge_code := PySem.W.mg_of X G nn_judge_code,
    b_judge_code := b_judge_code,
    a__law_next := f__law_next,
    fd__law_next := _,
    F__law_next := F__law_next,
    g__law_next := PySem.W.mg_of X G nn__law_next,
    b__law_next := b__law_next,
    a__law_same := f__law_same,
    fd__law_same := _,
    F__law_same := F__law_same,
    g__law_same := PySem.W.mg_of X G nn__law_same,
    b__law_same := b__law_same,
    a__law_signs := f__law_signs,
    fd__law_signs := _,
    F__law_signs := F__law_signs,
    g__law_signs := PySem.W.mg_of X G nn__law_signs,
    b__law_signs := b__law_signs,
    a__law_word := f__law_word,
    fd__law_word := _,
    F__law_word := F__law_word,
    g__law_word := PySem.W.mg_of X G nn__law_word,
    b__law_word := b__law_word,
    a__law_rows := f__law_rows,
    fd__law_rows := _,
    F__law_rows := F__law_rows,
    g__law_rows := PySem.W.mg_of X G nn__law_rows,
    b__law_rows := b__law_rows,
    a__law_rests := f__law_rests,
    fd__law_rests := _,
    F__law_rests := F__law_rests,
    g__law_rests := PySem.W.mg_of X G nn__law_rests,
    b__law_rests := b__law_rests,
    a__law_left_over := f__law_left_over,
    fd__law_left_over := _,
    F__law_left_over := F__law_left_over,
    g__law_left_over := PySem.W.mg_of X G nn__law_left_over,
    b__law_left_over := b__law_left_over,
    a__law_ways := f__law_ways,
    fd__law_ways := _,
    F__law_ways := F__law_ways,
    g__law_ways := PySem.W.mg_of X G nn__law_ways,
    b__law_ways := b__law_ways,
    a__law_least_double := f__law_least_double,
    fd__law_least_double := _,
    F__law_least_double := F__law_least_double,
    g__law_least_double := PySem.W.mg_of X G nn__law_least_double,
    b__law_least_double := b__law_least_double,
    a__law_longer := f__law_longer,
    fd__law_longer := _,
    F__law_longer := F__law_longer,
    g__law_longer := PySem.W.mg_of X G nn__law_longer,
    b__law_longer := b__law_longer,
    a__law_no_lesser := f__law_no_lesser,
    fd__law_no_lesser := _,
    F__law_no_lesser := F__law_no_lesser,
    g__law_no_lesser := PySem.W.mg_of X G nn__law_no_lesser,
    b__law_no_lesser := b__law_no_lesser,
    a__law_is_number := f__law_is_number,
    fd__law_is_number := _,
    F__law_is_number := F__law_is_number,
    g__law_is_number := PySem.W.mg_of X G nn__law_is_number,
    b__law_is_number := b__law_is_number,
    a__law_accepts := f__law_accepts,
    fd__law_accepts := _,
    F__law_accepts := F__law_accepts,
    g__law_accepts := PySem.W.mg_of X G nn__law_accepts,
    b__law_accepts := b__law_accepts,
    a__law_turned := f__law_turned,
    fd__law_turned := _,
    F__law_turned := F__law_turned,
    g__law_turned := PySem.W.mg_of X G nn__law_turned,
    b__law_turned := b__law_turned,
    a_law := fa,
    fd_law := _,
    F_law := F_law,
    g_law := PySem.W.mg_of X G nn_law,
    b_law := b_law }
  exact ⟨PySem.W.fnOf "law" "law" (defArgs s_law) (defBody s_law) (defScope s_law) .none kV_law dc_law pm_law an_law cd_law ct_law, fun s v => .of_eq rfl, fun base _ _ => ok_law T fun ns _ => law_run ns⟩
end K65
open PySem PySem.W PyProof.Rows
set_option maxHeartbeats 0 in
theorem PySem.Challenge.cw_gatewhole_k65_codes_by_what_is_left_over_holds : PySem.Challenge.rw_gatewhole_k65_codes_by_what_is_left_over.Holds := by
  w_on; o_law; k_head; (case hw => w_witness2)
  k_fill
  refine L2.walk_of (l := PySem.Challenge.rw_gatewhole_k65_codes_by_what_is_left_over) (n := 63) (k := 231) (x := "script") (CX := fun w => L2.CX PySem.Challenge.rw_gatewhole_k65_codes_by_what_is_left_over.prog w) (sp := fun w => DL.spLaw _) rfl (by decide) rfl ⟨rfl, by decide, by decide⟩ (fun w h Y => PySem.W.kIn_of Y) ?F (fun _ _ a ns hl _ hS => ⟨a, ns, rfl, hS, hl, fun _ => rfl⟩) (fun _ _ _ _ _ z => by obtain ⟨_, _, _, _, _, _, _, _, _, _, _, _, e⟩ := z; exact e)
  case F =>
    intro w mg fa h KX G hmg
    refine' K65.all_mk KX G hmg ?m_bool ?m_enumerate ?m_int ?m_isinstance ?m_len ?m_list ?m_min ?m_range ?m_reversed ?m_set ?m_sorted ?m_str ?m_tuple ?d_rests_of ?d_remainders ?d_least_double ?d_readings ?d_code ?d_is_reading ?d_judge_code ?d__law_next ?d__law_same ?d__law_signs ?d__law_word ?d__law_rows ?d__law_rests ?d__law_left_over ?d__law_ways ?d__law_least_double ?d__law_longer ?d__law_no_lesser ?d__law_is_number ?d__law_accepts ?d__law_turned ?d_law
    (case m_bool => k_is)
    (case m_enumerate => k_is)
    (case m_int => k_is)
    (case m_isinstance => k_is)
    (case m_len => k_is)
    (case m_list => k_is)
    (case m_min => k_is)
    (case m_range => k_is)
    (case m_reversed => k_is)
    (case m_set => k_is)
    (case m_sorted => k_is)
    (case m_str => k_is)
    (case m_tuple => k_is)
    (case d_rests_of => (refine' K65.DF.mk' ?a ?l ?c ?k; (case a => k_is); (case l => k_is); (case c => k_is); (case k => k_is)))
    (case d_remainders => (refine' K65.DF.mk' ?a ?l ?c ?k; (case a => k_is); (case l => k_is); (case c => k_is); (case k => k_is)))
    (case d_least_double => (refine' K65.DF.mk' ?a ?l ?c ?k; (case a => k_is); (case l => k_is); (case c => k_is); (case k => k_is)))
    (case d_readings => (refine' K65.DF.mk' ?a ?l ?c ?k; (case a => k_is); (case l => k_is); (case c => k_is); (case k => k_is)))
    (case d_code => (refine' K65.DF.mk' ?a ?l ?c ?k; (case a => k_is); (case l => k_is); (case c => k_is); (case k => k_is)))
    (case d_is_reading => (refine' K65.DF.mk' ?a ?l ?c ?k; (case a => k_is); (case l => k_is); (case c => k_is); (case k => k_is)))
    (case d_judge_code => (refine' K65.DF.mk' ?a ?l ?c ?k; (case a => k_is); (case l => k_is); (case c => k_is); (case k => k_is)))
    (case d__law_next => (refine' K65.DF.mk' ?a ?l ?c ?k; (case a => k_is); (case l => k_is); (case c => k_is); (case k => k_is)))
    (case d__law_same => (refine' K65.DF.mk' ?a ?l ?c ?k; (case a => k_is); (case l => k_is); (case c => k_is); (case k => k_is)))
    (case d__law_signs => (refine' K65.DF.mk' ?a ?l ?c ?k; (case a => k_is); (case l => k_is); (case c => k_is); (case k => k_is)))
    (case d__law_word => (refine' K65.DF.mk' ?a ?l ?c ?k; (case a => k_is); (case l => k_is); (case c => k_is); (case k => k_is)))
    (case d__law_rows => (refine' K65.DF.mk' ?a ?l ?c ?k; (case a => k_is); (case l => k_is); (case c => k_is); (case k => k_is)))
    (case d__law_rests => (refine' K65.DF.mk' ?a ?l ?c ?k; (case a => k_is); (case l => k_is); (case c => k_is); (case k => k_is)))
    (case d__law_left_over => (refine' K65.DF.mk' ?a ?l ?c ?k; (case a => k_is); (case l => k_is); (case c => k_is); (case k => k_is)))
    (case d__law_ways => (refine' K65.DF.mk' ?a ?l ?c ?k; (case a => k_is); (case l => k_is); (case c => k_is); (case k => k_is)))
    (case d__law_least_double => (refine' K65.DF.mk' ?a ?l ?c ?k; (case a => k_is); (case l => k_is); (case c => k_is); (case k => k_is)))
    (case d__law_longer => (refine' K65.DF.mk' ?a ?l ?c ?k; (case a => k_is); (case l => k_is); (case c => k_is); (case k => k_is)))
    (case d__law_no_lesser => (refine' K65.DF.mk' ?a ?l ?c ?k; (case a => k_is); (case l => k_is); (case c => k_is); (case k => k_is)))
    (case d__law_is_number => (refine' K65.DF.mk' ?a ?l ?c ?k; (case a => k_is); (case l => k_is); (case c => k_is); (case k => k_is)))
    (case d__law_accepts => (refine' K65.DF.mk' ?a ?l ?c ?k; (case a => k_is); (case l => k_is); (case c => k_is); (case k => k_is)))
    (case d__law_turned => (refine' K65.DF.mk' ?a ?l ?c ?k; (case a => k_is); (case l => k_is); (case c => k_is); (case k => k_is)))
    (case d_law => (refine' K65.DF.mk' ?a ?l ?c ?k; (case a => k_is); (case l => k_is); (case c => k_is); (case k => k_is)))
#print axioms PySem.Challenge.cw_gatewhole_k65_codes_by_what_is_left_over_holds
end
