import PyProof.Rows.All
import HandS.ForMost
import HandS.Exc
import HandS.TryOnly
import HandS.ExcOwn
import HandS.WordsExc
import HandS.Deep
import HandS.IsInst
import HandS.Conv
import HandS.Walk
import HandS.Wide
import HandS.TupAny
import HandS.Style
import KE.SortData
import HandS.Replace
import HandS.StrMore
import HandS.Set
import HandS.SetFor
import HandS.Strs
import KE.KRevSl
import HandS.ExcIs
import HandS.Codes
import PyProof.Rows.StrFromFirst
import Wide.All
import OpenK.AllK
import Wide.FinOn
import KE.OsGo
import PySem.Challenge.RW_gatewhole_k66_resets_and_pairs_that_neve
section
set_option Elab.async false
set_option linter.all false
set_option maxRecDepth 100000
set_option autoImplicit false
namespace DL
open PySem PySem.Spec L2

/-! ### pure side -/
abbrev D := PyData
inductive Ob where
  | ls (xs : List D)
  | dk (kvs : List (Key × D))
  | dt (kvs : List (List Key × D))
inductive Sl where
  | un
  | fz (d : D)
  | ow (b : Bool) (o : Ob)
abbrev Rho := List Sl
inductive Res (α : Type) where
  | ok (a : α) (r : Rho)
  | er (c : String) (r : Rho)
  | no
def Res.bind {α β : Type} (x : Res α) (f : α → Rho → Res β) : Res β := match x with
  | .ok a r => f a r
  | .er c r => .er c r
  | .no => .no
@[simp] theorem Res.bind_ok {α β : Type} (a : α) (r : Rho) (f : α → Rho → Res β) : (Res.ok a r).bind f = f a r := Eq.trans rfl rfl
@[simp] theorem Res.bind_er {α β : Type} (c : String) (r : Rho) (f : α → Rho → Res β) : (Res.er c r).bind f = .er c r := Eq.trans rfl rfl
@[simp] theorem Res.bind_no {α β : Type} (f : α → Rho → Res β) : (Res.no).bind f = .no := Eq.trans rfl rfl
abbrev Ev (α : Type) := Rho → Res α
/-- an option as an outcome -/
def ofO {α : Type} (o : Option α) (r : Rho) : Res α := match o with
  | some a => .ok a r
  | none => .no
@[simp] theorem ofO_some {α : Type} (a : α) (r : Rho) : ofO (some a) r = .ok a r := Eq.trans rfl rfl
@[simp] theorem ofO_none {α : Type} (r : Rho) : ofO (none : Option α) r = .no := Eq.trans rfl rfl

/-! ### data that stands in the heap: its lists are tracked ones -/
mutual
inductive Dd (K : PySem.W.Frag) (H : Hp) : V → PyData → Prop
  | non : Dd K H .non .none
  | bl (b : Bool) : Dd K H (.bl b) (.bool b)
  | int (i : Int) : Dd K H (.int i) (.int i)
  | str (x : Str) : Dd K H (.str x) (.str x)
  | lst {a : Addr} {xs : List V} {ds : List PyData} : H a = some (.lst xs) → DdAll K H xs ds → Dd K H (.ref a) (.list ds)
  | tup {a : Addr} {xs : List V} {ds : List PyData} : H a = some (.tup xs) → DdAll K H xs ds → Dd K H (.ref a) (.tuple ds)
inductive DdAll (K : PySem.W.Frag) (H : Hp) : List V → List PyData → Prop
  | nil : DdAll K H [] []
  | cons {v : V} {vs : List V} {d : PyData} {ds : List PyData} : Dd K H v d → DdAll K H vs ds → DdAll K H (v :: vs) (d :: ds)
end
/-! ### heaps -/
section
variable {K : PySem.W.Frag} {H H' H1 H2 G : Hp}
theorem sqL_mono {a : Addr} {xs : List V} (s : Same H H') (h : SqL K H a xs) : SqL K H' a xs := s.seq h
theorem sqT_mono {a : Addr} {xs : List V} (s : Same H H') (h : SqT K H a xs) : SqT K H' a xs := by
  rcases h with (h | ⟨o, h⟩) | h
  · exact .inl (.inl (s _ _ h))
  · exact .inl (.inr ⟨o, s _ _ h⟩)
  · exact .inr h
mutual
theorem dd_mono (s : Same H H') : ∀ (d : PyData) (v : V), Dd K H v d → Dd K H' v d
  | .none, _, h => by cases h; exact .non
  | .bool b, _, h => by cases h; exact .bl b
  | .int i, _, h => by cases h; exact .int i
  | .str x, _, h => by cases h; exact .str x
  | .list ds, _, h => by
    cases h with
    | lst hs ha => exact .lst (s _ _ hs) (ddAll_mono s ds _ ha)
  | .tuple ds, _, h => by
    cases h with
    | tup hs ha => exact .tup (s _ _ hs) (ddAll_mono s ds _ ha)
  | .dict _, _, h => by cases h
theorem ddAll_mono (s : Same H H') : ∀ (ds : List PyData) (vs : List V), DdAll K H vs ds → DdAll K H' vs ds
  | [], _, h => by cases h; exact .nil
  | d :: ds, _, h => by
    cases h with
    | cons h1 h2 => exact .cons (dd_mono s d _ h1) (ddAll_mono s ds _ h2)
end
mutual
theorem Dd.dp : ∀ (d : PyData) (v : V), Dd K H v d → Dp K H v d
  | .none, _, h => by cases h; exact .non
  | .bool b, _, h => by cases h; exact .bl b
  | .int i, _, h => by cases h; exact .int i
  | .str x, _, h => by cases h; exact .str x
  | .list ds, _, h => by
    cases h with
    | lst hs ha => exact .lst (.inl (.inl hs)) (DdAll.dp ds _ ha)
  | .tuple ds, _, h => by
    cases h with
    | tup hs ha => exact .tup (.inl (.inl hs)) (DdAll.dp ds _ ha)
  | .dict _, _, h => by cases h
theorem DdAll.dp : ∀ (ds : List PyData) (vs : List V), DdAll K H vs ds → DpAll K H vs ds
  | [], _, h => by cases h; exact .nil
  | d :: ds, _, h => by
    cases h with
    | cons h1 h2 => exact .cons (Dd.dp d _ h1) (DdAll.dp ds _ h2)
end
theorem DdAll.length : ∀ {vs : List V} {ds : List PyData}, DdAll K H vs ds → vs.length = ds.length
  | _, _, .nil => rfl
  | _, _, .cons _ t => by simp [DdAll.length t]
theorem DdAll.get : ∀ {vs : List V} {ds : List PyData} {i : Nat} {d : PyData}, DdAll K H vs ds → ds[i]? = some d → ∃ v, vs[i]? = some v ∧ Dd K H v d
  | _, _, _, _, .nil, e => by simp at e
  | _, _, 0, _, .cons r _, e => by simp at e; subst e; exact ⟨_, rfl, r⟩
  | _, _, i + 1, d, .cons _ t, e => by
    obtain ⟨v, h1, h2⟩ := DdAll.get (i := i) (d := d) t (by simpa using e)
    exact ⟨v, by simpa using h1, h2⟩
theorem DdAll.getV : ∀ {vs : List V} {ds : List PyData} {i : Nat} {v : V}, DdAll K H vs ds → vs[i]? = some v → ∃ d, ds[i]? = some d ∧ Dd K H v d
  | _, _, _, _, .nil, e => by simp at e
  | _, _, 0, _, .cons r _, e => by simp at e; subst e; exact ⟨_, rfl, r⟩
  | _, _, i + 1, v, .cons _ t, e => by
    obtain ⟨d, h1, h2⟩ := DdAll.getV (i := i) (v := v) t (by simpa using e)
    exact ⟨d, by simpa using h1, h2⟩
theorem DdAll.append : ∀ {vs ws : List V} {ds es : List PyData}, DdAll K H vs ds → DdAll K H ws es → DdAll K H (vs ++ ws) (ds ++ es)
  | _, _, _, _, .nil, s => s
  | _, _, _, _, .cons r t, s => .cons r (DdAll.append t s)
theorem DdAll.take : ∀ {vs : List V} {ds : List PyData} (n : Nat), DdAll K H vs ds → DdAll K H (vs.take n) (ds.take n)
  | _, _, 0, _ => .nil
  | _, _, _ + 1, .nil => .nil
  | _, _, n + 1, .cons r t => .cons r (DdAll.take n t)
theorem DdAll.drop : ∀ {vs : List V} {ds : List PyData} (n : Nat), DdAll K H vs ds → DdAll K H (vs.drop n) (ds.drop n)
  | _, _, 0, r => r
  | _, _, _ + 1, .nil => .nil
  | _, _, n + 1, .cons _ t => DdAll.drop n t
theorem DdAll.set {v : V} {d : PyData} (r : Dd K H v d) : ∀ {vs : List V} {ds : List PyData} (i : Nat), DdAll K H vs ds → DdAll K H (vs.set i v) (ds.set i d)
  | _, _, _, .nil => .nil
  | _, _, 0, .cons _ t => .cons r t
  | _, _, i + 1, .cons q t => .cons q (DdAll.set r i t)
theorem DdAll.eraseIdx : ∀ {vs : List V} {ds : List PyData} (i : Nat), DdAll K H vs ds → DdAll K H (vs.eraseIdx i) (ds.eraseIdx i)
  | _, _, _, .nil => .nil
  | _, _, 0, .cons _ t => t
  | _, _, i + 1, .cons r t => .cons r (DdAll.eraseIdx i t)
theorem DdAll.reverse : ∀ {vs : List V} {ds : List PyData}, DdAll K H vs ds → DdAll K H vs.reverse ds.reverse
  | _, _, .nil => .nil
  | _, _, .cons r t => by
    rw [List.reverse_cons, List.reverse_cons]
    exact DdAll.append (DdAll.reverse t) (.cons r .nil)

/-- the heap without what is being changed -/
noncomputable def rs (N : Addr → Prop) (H : Hp) : Hp := fun p => open Classical in if N p then none else H p
theorem rs_of {N : Addr → Prop} {p : Addr} {o : HO} (h : rs N H p = some o) : H p = some o ∧ ¬ N p := by
  unfold rs at h
  by_cases n : N p
  · rw [if_pos n] at h; cases h
  · rw [if_neg n] at h; exact ⟨h, n⟩
theorem rs_mk {N : Addr → Prop} {p : Addr} {o : HO} (h : H p = some o) (n : ¬ N p) : rs N H p = some o := by
  unfold rs; rw [if_neg n]; exact h
theorem rs_sub (N : Addr → Prop) (H : Hp) : Same (rs N H) H := fun _ _ h => (rs_of h).1

/-- what was, and what is new -/
def Ex (G H H' : Hp) : Hp := fun p => match H p with
  | none => H' p
  | some _ => G p
theorem ex_old {p : Addr} {o : HO} (s : Same G H) (h : G p = some o) : Ex G H H' p = some o := by
  unfold Ex; rw [s _ _ h]; exact h
theorem ex_new {p : Addr} {o : HO} (n : H p = none) (h : H' p = some o) : Ex G H H' p = some o := by
  unfold Ex; rw [n]; exact h
theorem ex_same (s : Same G H) : Same G (Ex G H H') := fun _ _ h => ex_old s h
end

/-! ### the relation of slots -/
def Own (σ : St) (ρ : Rho) (p : Addr) : Prop := ∃ (i : Nat) (b : Bool) (o : Ob), ρ[i]? = some (Sl.ow b o) ∧ σ[i]? = some (some (V.ref p))
def Mu (M : Addr → Prop) (σ : St) (ρ : Rho) (p : Addr) : Prop := M p ∨ Own σ ρ p
def KDp {κ : Type} (K : PySem.W.Frag) (G : Hp) : List (κ × V) → List (κ × D) → Prop := Paired fun a b => a.1 = b.1 ∧ Dd K G a.2 b.2
def ObAt (K : PySem.W.Frag) (G H : Hp) (p : Addr) : Ob → Prop
  | .ls xs => ∃ vs, H p = some (.lst vs) ∧ DdAll K G vs xs
  | .dk kvs => ∃ ws, H p = some (.dK ws) ∧ KDp K G ws kvs
  | .dt kvs => ∃ ws, H p = some (.dT ws) ∧ KDp K G ws kvs
theorem KDp.mono {κ : Type} {K : PySem.W.Frag} {G G' : Hp} {ws : List (κ × V)} {kvs : List (κ × D)} (s : Same G G') (h : KDp K G ws kvs) : KDp K G' ws kvs :=
  Paired.mapP h fun _ _ z => ⟨z.1, dd_mono s _ _ z.2⟩
theorem ObAt.mono {K : PySem.W.Frag} {G G' H H' : Hp} {p : Addr} {o : Ob} (s : Same G G') (e : H' p = H p) (h : ObAt K G H p o) : ObAt K G' H' p o := by
  cases o with
  | ls xs => obtain ⟨vs, h1, h2⟩ := h; exact ⟨vs, by rw [e]; exact h1, ddAll_mono s _ _ h2⟩
  | dk kvs => obtain ⟨vs, h1, h2⟩ := h; exact ⟨vs, by rw [e]; exact h1, h2.mono s⟩
  | dt kvs => obtain ⟨vs, h1, h2⟩ := h; exact ⟨vs, by rw [e]; exact h1, h2.mono s⟩
theorem ObAt.live {K : PySem.W.Frag} {G H : Hp} {p : Addr} {o : Ob} (h : ObAt K G H p o) : ∃ u, H p = some u := by
  cases o <;> (obtain ⟨_, h, _⟩ := h; exact ⟨_, h⟩)

structure Rel (K : PySem.W.Frag) (M : Addr → Prop) (σ : St) (H : Hp) (ρ : Rho) : Prop where
  len : σ.length = ρ.length
  live : ∀ p, M p → ∃ o, H p = some o
  fz : ∀ (i : Nat) (d : D), ρ[i]? = some (Sl.fz d) → ∃ v, σ[i]? = some (some v) ∧ Dd K (rs (Mu M σ ρ) H) v d
  ow : ∀ (i : Nat) (b : Bool) (o : Ob), ρ[i]? = some (Sl.ow b o) → ∃ p, σ[i]? = some (some (V.ref p)) ∧ ¬ M p ∧ ObAt K (rs (Mu M σ ρ) H) H p o
  inj : ∀ (i j : Nat) (b : Bool) (o : Ob) (b' : Bool) (o' : Ob) (p : Addr), ρ[i]? = some (Sl.ow b o) → ρ[j]? = some (Sl.ow b' o') → σ[i]? = some (some (V.ref p)) → σ[j]? = some (some (V.ref p)) → i = j
/-- from one state to a later one -/
structure Go (σ : St) (ρ : Rho) (H : Hp) (σ' : St) (ρ' : Rho) (H' : Hp) : Prop where
  keep : ∀ p o, H p = some o → ¬ Own σ ρ p → H' p = some o
  own : ∀ p, Own σ' ρ' p → Own σ ρ p ∨ H p = none
  io : ∀ (i : Nat) (o' : Ob), ρ'[i]? = some (Sl.ow true o') → (∃ o, ρ[i]? = some (Sl.ow true o)) ∧ σ'[i]? = σ[i]?
  live : ∀ p o, H p = some o → ∃ o', H' p = some o'
theorem Go.refl {σ : St} {ρ : Rho} {H : Hp} : Go σ ρ H σ ρ H := ⟨fun _ _ h _ => h, fun _ h => .inl h, fun _ o' h => ⟨⟨o', h⟩, rfl⟩, fun _ o h => ⟨o, h⟩⟩
theorem Go.trans {σ σ1 σ2 : St} {ρ ρ1 ρ2 : Rho} {H H1 H2 : Hp} (a : Go σ ρ H σ1 ρ1 H1) (b : Go σ1 ρ1 H1 σ2 ρ2 H2) : Go σ ρ H σ2 ρ2 H2 where
  keep := fun p o h n => b.keep p o (a.keep p o h n) fun q => by
    rcases a.own p q with z | z
    · exact n z
    · rw [h] at z; cases z
  own := fun p q => by
    rcases b.own p q with z | z
    · exact a.own p z
    · cases e : H p with
      | none => exact .inr rfl
      | some o =>
        by_cases n : Own σ ρ p
        · exact .inl n
        · rw [a.keep p o e n] at z; cases z
  io := fun i o' h => by
    obtain ⟨⟨o1, h1⟩, e1⟩ := b.io i o' h
    obtain ⟨h2, e2⟩ := a.io i o1 h1
    exact ⟨h2, e1.trans e2⟩
  live := fun p o h => by
    obtain ⟨o1, h1⟩ := a.live p o h
    exact b.live p o1 h1
section
variable {K : PySem.W.Frag} {M M' : Addr → Prop} {σ σ' : St} {H H' : Hp} {ρ ρ' : Rho}
theorem Rel.olive (R : Rel K M σ H ρ) {p : Addr} (h : Own σ ρ p) : ∃ o, H p = some o := by
  obtain ⟨i, b, o, h1, h2⟩ := h
  obtain ⟨q, h3, _, h4⟩ := R.ow i b o h1
  rw [h2] at h3
  cases h3
  exact h4.live
theorem Rel.mlive (R : Rel K M σ H ρ) {p : Addr} (h : Mu M σ ρ p) : ∃ o, H p = some o := h.elim (R.live p) R.olive
/-- what is frozen stays so -/
theorem Go.same (g : Go σ ρ H σ' ρ' H') : Same (rs (Mu M σ ρ) H) (rs (Mu M σ' ρ') H') := fun p o h => by
  obtain ⟨h1, h2⟩ := rs_of h
  have n1 : ¬ M p := fun z => h2 (.inl z)
  have n2 : ¬ Own σ ρ p := fun z => h2 (.inr z)
  refine rs_mk (g.keep p o h1 n2) fun z => ?_
  rcases z with z | z
  · exact n1 z
  · rcases g.own p z with z | z
    · exact n2 z
    · rw [h1] at z; cases z
/-- fewer things are being changed -/
theorem rs_le {N N' : Addr → Prop} (h : ∀ p, N' p → N p) : Same (rs N H) (rs N' H) := fun p o e => by
  obtain ⟨h1, h2⟩ := rs_of e
  exact rs_mk h1 fun z => h2 (h p z)
theorem Rel.weak (R : Rel K M σ H ρ) (h : ∀ p, M' p → M p) : Rel K M' σ H ρ where
  len := R.len
  live := fun p z => R.live p (h p z)
  fz := fun i d e => by
    obtain ⟨v, h1, h2⟩ := R.fz i d e
    exact ⟨v, h1, dd_mono (rs_le fun p z => z.elim (fun z => .inl (h p z)) .inr) _ _ h2⟩
  ow := fun i b o e => by
    obtain ⟨p, h1, h2, h3⟩ := R.ow i b o e
    exact ⟨p, h1, fun z => h2 (h p z), h3.mono (rs_le fun p z => z.elim (fun z => .inl (h p z)) .inr) rfl⟩
  inj := R.inj
/-- new things were made alone -/
theorem Go.ext (R : Rel K M σ H ρ) (s : Same H H') : Go σ ρ H σ ρ H' := ⟨fun p o h _ => s p o h, fun _ h => .inl h, fun _ o' h => ⟨⟨o', h⟩, rfl⟩, fun p o h => ⟨o, s p o h⟩⟩
theorem Rel.ext (R : Rel K M σ H ρ) (s : Same H H') : Rel K M σ H' ρ where
  len := R.len
  live := fun p z => let ⟨o, e⟩ := R.live p z; ⟨o, s p o e⟩
  fz := fun i d e => by
    obtain ⟨v, h1, h2⟩ := R.fz i d e
    exact ⟨v, h1, dd_mono (Go.ext R s).same _ _ h2⟩
  ow := fun i b o e => by
    obtain ⟨p, h1, h2, h3⟩ := R.ow i b o e
    obtain ⟨u, hu⟩ := h3.live
    exact ⟨p, h1, h2, h3.mono (Go.ext R s).same (by rw [hu, s _ _ hu])⟩
  inj := R.inj
/-- the new things are frozen -/
theorem Rel.ex_le (R : Rel K M σ H ρ) (s : Same H H') : Same (Ex (rs (Mu M σ ρ) H) H H') (rs (Mu M σ ρ) H') := fun p o h => by
  unfold Ex at h
  cases e : H p with
  | none =>
    rw [e] at h
    refine rs_mk h fun z => ?_
    obtain ⟨u, hu⟩ := R.mlive z
    rw [e] at hu; cases hu
  | some u =>
    rw [e] at h
    obtain ⟨h1, h2⟩ := rs_of h
    exact rs_mk (s _ _ h1) h2
end

/-! ### readings -/
abbrev Cl := String → Value → Option Addr → Prop
/-- what is said of a part's value: the things changed, the slots, the heap ahead, the heap behind -/
structure Rk (α β : Type) where
  R : (Addr → Prop) → St → Rho → Hp → Hp → β → α → Prop
  mono : ∀ {M : Addr → Prop} {σ : St} {ρ : Rho} {H0 H1 H : Hp} {x : β} {a : α}, (∀ p o, H0 p = some o → ∃ o', H1 p = some o') → R M σ ρ H1 H x a → R M σ ρ H0 H x a
/-- what holds behind an outcome -/
def Pst {α β : Type} (K : PySem.W.Frag) (cl : Cl) (W : WX) (R : Rk α β) (M : Addr → Prop) (σ : St) (ρ : Rho) (H : Hp) (r : Res α) (Q : β → Hp → Prop) : Prop := match r with
  | .ok a ρ' => ∀ x H', Go σ ρ H σ ρ' H' → Rel K M σ H' ρ' → R.R M σ ρ' H H' x a → Q x H'
  | .er c ρ' => ∀ cls dd H', cl c cls dd → Go σ ρ H σ ρ' H' → Rel K M σ H' ρ' → W cls dd σ H'
  | .no => False
theorem Pst.step {α β : Type} {K : PySem.W.Frag} {cl : Cl} {W : WX} {R : Rk α β} {M : Addr → Prop} {σ : St} {ρ ρ1 : Rho} {H H1 : Hp} {r : Res α} {Q : β → Hp → Prop}
    (g : Go σ ρ H σ ρ1 H1) (h : Pst K cl W R M σ ρ H r Q) : Pst K cl W R M σ ρ1 H1 r Q := by
  cases r with
  | ok a ρ' => exact fun x H' g1 r1 q => h x H' (g.trans g1) r1 (R.mono g.live q)
  | er c ρ' => exact fun cls dd H' c1 g1 r1 => h cls dd H' c1 (g.trans g1) r1
  | no => exact h
def tG {α β : Type} (K : PySem.W.Frag) (cl : Cl) (W : WX) (R : Rk α β) (g : Ev α) : St → Hp → (β → Hp → Prop) → Prop :=
  fun σ H Q => ∃ M ρ, Rel K M σ H ρ ∧ Pst K cl W R M σ ρ H (g ρ) Q
/-- the value is data -/
def RD (K : PySem.W.Frag) : Rk D V := ⟨fun M σ ρ _ H v d => Dd K (rs (Mu M σ ρ) H) v d, fun _ h => h⟩
/-- the value is a new list of our own -/
def RO (K : PySem.W.Frag) : Rk Ob V := ⟨fun M σ ρ H0 H v o => ∃ p, v = .ref p ∧ H0 p = none ∧ ¬ Mu M σ ρ p ∧ Rel K (fun q => M q ∨ q = p) σ H ρ ∧ ObAt K (rs (Mu (fun q => M q ∨ q = p) σ ρ) H) H p o,
  fun {M σ ρ H0 H1 H x a} l h => by
    obtain ⟨p, e, n, r⟩ := h
    refine ⟨p, e, ?_, r⟩
    cases q : H0 p with
    | none => rfl
    | some o =>
      obtain ⟨o', z⟩ := l p o q
      rw [n] at z; cases z⟩
def RB : Rk Bool Bool := ⟨fun _ _ _ _ _ b c => b = c, fun _ h => h⟩
abbrev tE (K : PySem.W.Frag) (cl : Cl) (W : WX) (g : Ev D) : TE := tG K cl W (RD K) g
abbrev tO (K : PySem.W.Frag) (cl : Cl) (W : WX) (g : Ev Ob) : TE := tG K cl W (RO K) g
abbrev tT (K : PySem.W.Frag) (cl : Cl) (W : WX) (g : Ev Bool) : TT := tG K cl W RB g
theorem PE.weak {X : Cx} {e : Expr} {t t' : TE} (h : PE X e t) (w : ∀ σ H Q, t' σ H Q → t σ H Q) : PE X e t' := ⟨fun pins s σ H Q I q => h.run pins s σ H Q I (w σ H Q q)⟩
theorem PT.weak {X : Cx} {e : Expr} {t t' : TT} (h : PT X e t) (w : ∀ σ H Q, t' σ H Q → t σ H Q) : PT X e t' := ⟨fun pins s σ H Q I q => h.run pins s σ H Q I (w σ H Q q)⟩
theorem PW.weak {X : Cx} {e : Expr} {t t' : TT} (h : PW X e t) (w : ∀ σ H Q, t' σ H Q → t σ H Q) : PW X e t' := ⟨fun wh pins s σ H Q I q => h.run wh pins s σ H Q I (w σ H Q q)⟩
theorem PA.weak {X : Cx} {e : List Expr} {t t' : TA} (h : PA X e t) (w : ∀ σ H Q, t' σ H Q → t σ H Q) : PA X e t' := ⟨fun p pins s σ H Q I q => h.run p pins s σ H Q I (w σ H Q q)⟩
theorem PS.weak {X : Cx} {e : Stmt} {t t' : TS} (h : PS X e t) (w : ∀ D σ H, t' D σ H → t D σ H) : PS X e t' := ⟨fun pins s σ H D I q => h.run pins s σ H D I (w D σ H q)⟩
theorem PSs.weak {X : Cx} {e : List Stmt} {t t' : TS} (h : PSs X e t) (w : ∀ D σ H, t' D σ H → t D σ H) : PSs X e t' := ⟨fun pins s σ H D I q => h.run pins s σ H D I (w D σ H q)⟩

/-- the way through one part: the generic step -/
theorem tG_bind {α β γ δ : Type} {K : PySem.W.Frag} {cl : Cl} {W : WX} {R : Rk α β} {R' : Rk γ δ}
    {M : Addr → Prop} {σ : St} {ρ : Rho} {H : Hp} {ga : Ev α} {f : α → Rho → Res γ} {Q : δ → Hp → Prop} {k : β → Hp → Prop}
    (r : Rel K M σ H ρ) (h : Pst K cl W R' M σ ρ H ((ga ρ).bind f) Q)
    (hk : ∀ x a ρ1 H1, ga ρ = .ok a ρ1 → Go σ ρ H σ ρ1 H1 → Rel K M σ H1 ρ1 → R.R M σ ρ1 H H1 x a → Pst K cl W R' M σ ρ1 H1 (f a ρ1) Q → k x H1) : tG K cl W R ga σ H k := by
  refine ⟨M, ρ, r, ?_⟩
  cases e : ga ρ with
  | ok a ρ1 =>
    rw [e] at h
    exact fun x H1 g1 r1 q => hk x a ρ1 H1 e g1 r1 q (Pst.step g1 h)
  | er c ρ1 => rw [e] at h; exact h
  | no => rw [e] at h; exact h
end DL
end
section
set_option Elab.async false
set_option linter.all false
set_option maxRecDepth 100000
set_option autoImplicit false
namespace DL
open PySem PySem.Spec L2

/-! ### operands: data, or a variable that is looked at -/
inductive Opd where
  | g (e : Ev D)
  | b (i : Nat)
inductive OV where
  | d (x : D)
  | v (i : Nat)
/-- the data of a slot -/
def Sl.pk : Sl → Option D
  | .fz d => some d
  | .ow _ (.ls xs) => some (.list xs)
  | _ => none
def pk (ρ : Rho) (i : Nat) : Option D := (ρ[i]?).bind Sl.pk
def Opd.run : Opd → Ev OV
  | .g e => fun ρ => (e ρ).bind fun x r => .ok (.d x) r
  | .b i => fun ρ => (ofO (pk ρ i) ρ).bind fun _ r => .ok (.v i) r
def OV.fin (ρ : Rho) : OV → Option D
  | .d x => some x
  | .v i => pk ρ i
def e1 {α : Type} (f : D → Option α) (a : Opd) : Ev α := fun ρ => (a.run ρ).bind fun x r => ofO ((x.fin r).bind f) r
def e2 {α : Type} (f : D → D → Option α) (a b : Opd) : Ev α := fun ρ => (a.run ρ).bind fun x r => (b.run r).bind fun y r2 => ofO ((x.fin r2).bind fun p => (y.fin r2).bind fun q => f p q) r2
def e3 {α : Type} (f : D → D → D → Option α) (a b c : Opd) : Ev α := fun ρ => (a.run ρ).bind fun x r => (b.run r).bind fun y r2 => (c.run r2).bind fun z r3 => ofO ((x.fin r3).bind fun p => (y.fin r3).bind fun q => (z.fin r3).bind fun o => f p q o) r3
/-- what an operand's value is -/
def RV0 (K : PySem.W.Frag) (M : Addr → Prop) (σ : St) (ρ : Rho) (H : Hp) (v : V) (x : OV) : Prop := match x with
  | .d d => Dd K (rs (Mu M σ ρ) H) v d
  | .v i => σ[i]? = some (some v)
def RV (K : PySem.W.Frag) : Rk OV V := ⟨fun M σ ρ _ H v x => RV0 K M σ ρ H v x, fun _ h => h⟩
/-- data, or a list of our own that is looked at -/
def DpB (K : PySem.W.Frag) (G H : Hp) (v : V) (d : D) : Prop := Dd K G v d ∨ ∃ p vs xs, v = .ref p ∧ H p = some (.lst vs) ∧ d = .list xs ∧ DdAll K G vs xs
section
variable {K : PySem.W.Frag} {M : Addr → Prop} {σ : St} {ρ ρ' : Rho} {H H' G : Hp} {v : V} {d : D} {x : OV}
theorem DpB.dd (s : Same G H) (h : DpB K G H v d) : Dd K H v d := by
  rcases h with h | ⟨p, vs, xs, rfl, h, rfl, ha⟩
  · exact dd_mono s _ _ h
  · exact .lst h (ddAll_mono s _ _ ha)
theorem DpB.dp (s : Same G H) (h : DpB K G H v d) : Dp K H v d := Dd.dp _ _ (h.dd s)
theorem DpB.list {xs : List D} (s : Same G H) (h : DpB K G H v (.list xs)) : ∃ p vs, v = .ref p ∧ H p = some (.lst vs) ∧ DdAll K G vs xs := by
  rcases h with h | ⟨p, vs, ys, rfl, h, e, ha⟩
  · cases h with
    | lst hs ha => exact ⟨_, _, rfl, s _ _ hs, ha⟩
  · cases e
    exact ⟨p, vs, rfl, h, ha⟩
theorem DpB.tuple {xs : List D} (s : Same G H) (h : DpB K G H v (.tuple xs)) : ∃ p vs, v = .ref p ∧ G p = some (.tup vs) ∧ DdAll K G vs xs := by
  rcases h with h | ⟨p, vs, ys, rfl, h, e, ha⟩
  · cases h with
    | tup hs ha => exact ⟨_, _, rfl, hs, ha⟩
  · cases e
theorem DpB.int {i : Int} (h : DpB K G H v (.int i)) : v = .int i := by
  rcases h with h | ⟨p, vs, ys, rfl, h, e, ha⟩
  · cases h; rfl
  · cases e
theorem DpB.str {i : Str} (h : DpB K G H v (.str i)) : v = .str i := by
  rcases h with h | ⟨p, vs, ys, rfl, h, e, ha⟩
  · cases h; rfl
  · cases e
theorem DpB.bool {i : Bool} (h : DpB K G H v (.bool i)) : v = .bl i := by
  rcases h with h | ⟨p, vs, ys, rfl, h, e, ha⟩
  · cases h; rfl
  · cases e
theorem DpB.none (h : DpB K G H v .none) : v = .non := by
  rcases h with h | ⟨p, vs, ys, rfl, h, e, ha⟩
  · cases h; rfl
  · cases e
theorem RV0.go (g : Go σ ρ H σ ρ' H') (h : RV0 K M σ ρ H v x) : RV0 K M σ ρ' H' v x := by
  cases x with
  | d d => exact dd_mono g.same _ _ h
  | v i => exact h
theorem RV0.fin (R : Rel K M σ H ρ) (h : RV0 K M σ ρ H v x) (e : x.fin ρ = some d) : DpB K (rs (Mu M σ ρ) H) H v d := by
  cases x with
  | d d' =>
    have e : d' = d := Option.some.inj e
    subst e
    exact .inl h
  | v i =>
    have h : σ[i]? = some (some v) := h
    have e : (ρ[i]?).bind Sl.pk = some d := e
    cases q : ρ[i]? with
    | none => rw [q] at e; cases e
    | some sl =>
      rw [q] at e
      cases sl with
      | un => cases e
      | fz d' =>
        have e : d' = d := Option.some.inj e
        subst e
        obtain ⟨w, h1, h2⟩ := R.fz i _ q
        rw [h] at h1; cases h1
        exact .inl h2
      | ow b o =>
        obtain ⟨p, h1, h2, h3⟩ := R.ow i b o q
        rw [h] at h1; cases h1
        cases o with
        | ls xs =>
          obtain ⟨vs, h4, h5⟩ := h3
          have e : PyData.list xs = d := Option.some.inj e
          exact .inr ⟨p, vs, xs, rfl, h4, e.symm, h5⟩
        | dk _ => cases e
        | dt _ => cases e
end
abbrev tP (K : PySem.W.Frag) (cl : Cl) (W : WX) (a : Opd) : TE := tG K cl W (RV K) a.run
section
variable {X : Cx} {cl : Cl} {W : WX} {e : Expr}
/-- an expression as an operand -/
theorem o_g {g : Ev D} (h : PE X e (tE X.K cl W g)) : PE X e (tP X.K cl W (.g g)) := by
  refine PE.weak h ?_
  rintro σ H Q ⟨M, ρ, r, p⟩
  refine tG_bind (f := fun x r => Res.ok (OV.d x) r) r p fun v d ρ1 H1 _ g1 r1 q p1 => ?_
  exact p1 v H1 Go.refl r1 q
/-- a variable that is looked at -/
theorem o_b {i : Nat} (h : PE X e (tVar i)) : PE X e (tP X.K cl W (.b i)) := by
  refine PE.weak h ?_
  rintro σ H Q ⟨M, ρ, R, p⟩
  have p : Pst X.K cl W (RV X.K) M σ ρ H ((ofO (pk ρ i) ρ).bind fun _ r => .ok (.v i) r) Q := p
  cases q : pk ρ i with
  | none => rw [q] at p; exact p.elim
  | some d =>
    rw [q] at p
    unfold pk at q
    cases e : ρ[i]? with
    | none => rw [e] at q; cases q
    | some sl =>
      rw [e] at q
      cases sl with
      | un => cases q
      | fz d' =>
        obtain ⟨v, h1, _⟩ := R.fz i d' e
        exact ⟨v, h1, p v H Go.refl R h1⟩
      | ow b o =>
        obtain ⟨a, h1, _⟩ := R.ow i b o e
        exact ⟨_, h1, p _ H Go.refl R h1⟩
end

/-! ### sound operations -/
def Sd1 (K : PySem.W.Frag) (r : V → Hp → VK → Prop) (f : D → Option D) : Prop := ∀ G H v d1 d Q, Same G H → DpB K G H v d1 → f d1 = some d → (∀ u H', Same H H' → Dd K (Ex G H H') u d → Q u H') → r v H Q
def Sd2 (K : PySem.W.Frag) (r : R2) (f : D → D → Option D) : Prop := ∀ G H v w d1 d2 d Q, Same G H → DpB K G H v d1 → DpB K G H w d2 → f d1 d2 = some d → (∀ u H', Same H H' → Dd K (Ex G H H') u d → Q u H') → r v w H Q
def So1 (K : PySem.W.Frag) (r : V → Hp → VK → Prop) (f : D → Option Ob) : Prop := ∀ G H v d1 o Q, Same G H → DpB K G H v d1 → f d1 = some o → (∀ p H', Same H H' → H p = none → ObAt K G H' p o → Q (.ref p) H') → r v H Q
def So2 (K : PySem.W.Frag) (r : R2) (f : D → D → Option Ob) : Prop := ∀ G H v w d1 d2 o Q, Same G H → DpB K G H v d1 → DpB K G H w d2 → f d1 d2 = some o → (∀ p H', Same H H' → H p = none → ObAt K G H' p o → Q (.ref p) H') → r v w H Q
section
variable {K : PySem.W.Frag} {cl : Cl} {W : WX} {M : Addr → Prop} {σ : St} {ρ : Rho} {H : Hp}
/-- an operation's end: data -/
theorem end_d {f : Option D} {Q : VK} (R : Rel K M σ H ρ) (p : Pst K cl W (RD K) M σ ρ H (ofO f ρ) Q) {C : Prop} (h : ∀ d, f = some d → (∀ u H', Same H H' → Dd K (Ex (rs (Mu M σ ρ) H) H H') u d → Q u H') → C) : C := by
  cases f with
  | none => exact p.elim
  | some d => exact h d rfl fun u H' s q => p u H' (Go.ext R s) (R.ext s) (dd_mono (R.ex_le s) _ _ q)
theorem Rel.plus {H' : Hp} {p : Addr} {o : Ob} (R : Rel K M σ H ρ) (s : Same H H') (hp : H p = none) (hl : ∃ u, H' p = some u) : Rel K (fun q => M q ∨ q = p) σ H' ρ where
  len := R.len
  live := fun q z => by
    rcases z with z | z
    · obtain ⟨o, e⟩ := R.live q z; exact ⟨o, s q o e⟩
    · rw [z]; exact hl
  fz := fun i d e => by
    obtain ⟨v, h1, h2⟩ := R.fz i d e
    refine ⟨v, h1, dd_mono (fun q o e => ?_) _ _ h2⟩
    obtain ⟨e1, e2⟩ := rs_of e
    refine rs_mk (s _ _ e1) fun z => ?_
    rcases z with (z | z) | z
    · exact e2 (.inl z)
    · rw [z, hp] at e1; cases e1
    · exact e2 (.inr z)
  ow := fun i b o e => by
    obtain ⟨q, h1, h2, h3⟩ := R.ow i b o e
    obtain ⟨u, hu⟩ := h3.live
    refine ⟨q, h1, fun z => ?_, h3.mono (fun q o e => ?_) (by rw [hu, s _ _ hu])⟩
    · rcases z with z | z
      · exact h2 z
      · rw [z, hp] at hu; cases hu
    · obtain ⟨e1, e2⟩ := rs_of e
      refine rs_mk (s _ _ e1) fun z => ?_
      rcases z with (z | z) | z
      · exact e2 (.inl z)
      · rw [z, hp] at e1; cases e1
      · exact e2 (.inr z)
  inj := R.inj
theorem end_o {f : Option Ob} {Q : VK} (R : Rel K M σ H ρ) (p : Pst K cl W (RO K) M σ ρ H (ofO f ρ) Q) {C : Prop} (h : ∀ o, f = some o → (∀ q H', Same H H' → H q = none → ObAt K (rs (Mu M σ ρ) H) H' q o → Q (.ref q) H') → C) : C := by
  cases f with
  | none => exact p.elim
  | some o =>
    refine h o rfl fun q H' s n ob => p (.ref q) H' (Go.ext R s) (R.ext s) ⟨q, rfl, n, fun z => ?_, R.plus (o := o) s n ob.live, ob.mono (fun b u e => ?_) rfl⟩
    · obtain ⟨u, hu⟩ := R.mlive z
      rw [n] at hu; cases hu
    · obtain ⟨e1, e2⟩ := rs_of e
      refine rs_mk (s _ _ e1) fun z => ?_
      rcases z with (z | z) | z
      · exact e2 (.inl z)
      · rw [z, n] at e1; cases e1
      · exact e2 (.inr z)
theorem tOp_d {r : R2} {f : D → D → Option D} {A B : Opd} (S : Sd2 K r f) (σ : St) (H : Hp) (Q : VK) (h : tE K cl W (e2 f A B) σ H Q) : tOp r (tP K cl W A) (tP K cl W B) σ H Q := by
  obtain ⟨M, ρ, R, p⟩ := h
  refine tG_bind R p fun v x ρ1 H1 _ g1 R1 q1 p1 => ?_
  refine tG_bind R1 p1 fun w y ρ2 H2 _ g2 R2 q2 p2 => ?_
  refine end_d R2 p2 fun d e k => ?_
  obtain ⟨d1, e1, e⟩ := Option.bind_eq_some_iff.mp e
  obtain ⟨d2, e2, e⟩ := Option.bind_eq_some_iff.mp e
  exact S _ H2 v w d1 d2 d Q (rs_sub _ _) ((RV0.go g2 q1).fin R2 e1) (RV0.fin R2 q2 e2) e k
theorem tOp_o {r : R2} {f : D → D → Option Ob} {A B : Opd} (S : So2 K r f) (σ : St) (H : Hp) (Q : VK) (h : tO K cl W (e2 f A B) σ H Q) : tOp r (tP K cl W A) (tP K cl W B) σ H Q := by
  obtain ⟨M, ρ, R, p⟩ := h
  refine tG_bind R p fun v x ρ1 H1 _ g1 R1 q1 p1 => ?_
  refine tG_bind R1 p1 fun w y ρ2 H2 _ g2 R2 q2 p2 => ?_
  refine end_o R2 p2 fun d e k => ?_
  obtain ⟨d1, e1, e⟩ := Option.bind_eq_some_iff.mp e
  obtain ⟨d2, e2, e⟩ := Option.bind_eq_some_iff.mp e
  exact S _ H2 v w d1 d2 d Q (rs_sub _ _) ((RV0.go g2 q1).fin R2 e1) (RV0.fin R2 q2 e2) e k
theorem tUn_d {r : V → Hp → VK → Prop} {f : D → Option D} {A : Opd} (S : Sd1 K r f) (σ : St) (H : Hp) (Q : VK) (h : tE K cl W (e1 f A) σ H Q) : tUn r (tP K cl W A) σ H Q := by
  obtain ⟨M, ρ, R, p⟩ := h
  refine tG_bind R p fun v x ρ1 H1 _ g1 R1 q1 p1 => ?_
  refine end_d R1 p1 fun d e k => ?_
  obtain ⟨d1, e1, e⟩ := Option.bind_eq_some_iff.mp e
  exact S _ H1 v d1 d Q (rs_sub _ _) (RV0.fin R1 q1 e1) e k
theorem tUn_o {r : V → Hp → VK → Prop} {f : D → Option Ob} {A : Opd} (S : So1 K r f) (σ : St) (H : Hp) (Q : VK) (h : tO K cl W (e1 f A) σ H Q) : tUn r (tP K cl W A) σ H Q := by
  obtain ⟨M, ρ, R, p⟩ := h
  refine tG_bind R p fun v x ρ1 H1 _ g1 R1 q1 p1 => ?_
  refine end_o R1 p1 fun d e k => ?_
  obtain ⟨d1, e1, e⟩ := Option.bind_eq_some_iff.mp e
  exact S _ H1 v d1 d Q (rs_sub _ _) (RV0.fin R1 q1 e1) e k
end
/-- a pure value that needs no heap -/
theorem keep_ {K : PySem.W.Frag} {G H : Hp} {u : V} {d : D} {Q : VK} (k : ∀ u H', Same H H' → Dd K (Ex G H H') u d → Q u H') (h : Dd K (Ex G H H) u d) : Q u H := k u H (Same.refl H) h
end DL
end
section
set_option Elab.async false
set_option linter.all false
set_option maxRecDepth 100000
set_option autoImplicit false
namespace DL
open PySem PySem.Spec L2

theorem line_ : sizeLine = 16777216 := sizeLine_eq
section
variable {K : PySem.W.Frag} {X : Cx}

/-! ### + -/
def addD : D → D → Option D
  | .int i, .int j => some (.int (i + j))
  | .str x, .str y => if x.length + y.length ≤ 16777216 then some (.str (x ++ y)) else none
  | .tuple xs, .tuple ys => if xs.length + ys.length ≤ 16777216 then some (.tuple (xs ++ ys)) else none
  | _, _ => none
def rAddD (K : PySem.W.Frag) : R2 := fun x y H Q => rI0 (fun i j => .int (i + j)) x y H Q ∨ (∃ i j, x = .str i ∧ y = .str j ∧ i.length + j.length ≤ sizeLine ∧ Q (.str (i ++ j)) H) ∨ rCatA K x y H Q
theorem op_addD : OpR X (binaryOp .Add) (rAddD X.K) := op_add.or (op_add_str.or op_catA)
theorem ddAll_nil {G : Hp} {vs : List V} (h : DdAll K G vs []) : vs = [] := by cases h; rfl
theorem ddAll_nilV {G : Hp} {ds : List D} (h : DdAll K G [] ds) : ds = [] := by cases h; rfl
theorem sd_add : Sd2 K (rAddD K) addD := by
  intro G H v w d1 d2 d Q s h1 h2 e k
  unfold addD at e
  split at e
  · cases e
    exact .inl ⟨_, _, h1.int, h2.int, keep_ k (.int _)⟩
  · split at e
    · rename_i hl
      cases e
      exact .inr (.inl ⟨_, _, h1.str, h2.str, by rw [line_]; exact hl, keep_ k (.str _)⟩)
    · cases e
  · split at e
    · rename_i xs ys hl
      cases e
      obtain ⟨a, vs, rfl, ha, da⟩ := h1.tuple s
      obtain ⟨b, ws, rfl, hb, db⟩ := h2.tuple s
      have la := da.length
      have lb := db.length
      refine .inr (.inr ⟨a, b, vs, ws, rfl, rfl, .inl (.inl (s _ _ ha)), .inl (.inl (s _ _ hb)), by rw [line_]; omega, fun z => ?_, fun _ z => ?_, fun _ _ p n => ?_⟩)
      · subst z
        have e0 := ddAll_nilV da
        subst e0
        exact keep_ k (dd_mono (ex_same s) _ _ (.tup hb db))
      · subst z
        have e0 := ddAll_nilV db
        subst e0
        rw [List.append_nil] at k
        exact keep_ k (dd_mono (ex_same s) _ _ (.tup ha da))
      · refine k _ _ (fun q o e => by rw [upd_ne (ne_of_none e n)]; exact e) (.tup (ex_new n upd_same) ?_)
        exact (ddAll_mono (ex_same s) _ _ da).append (ddAll_mono (ex_same s) _ _ db)
    · cases e
  · cases e
/-- list + list: a list of our own -/
def catO : D → D → Option Ob
  | .list xs, .list ys => if xs.length + ys.length ≤ 16777216 then some (.ls (xs ++ ys)) else none
  | _, _ => none
theorem so_cat : So2 K rCat catO := by
  intro G H v w d1 d2 o Q s h1 h2 e k
  unfold catO at e
  split at e
  · split at e
    · rename_i xs ys hl
      cases e
      obtain ⟨a, vs, rfl, ha, da⟩ := h1.list s
      obtain ⟨b, ws, rfl, hb, db⟩ := h2.list s
      have la := da.length
      have lb := db.length
      refine ⟨a, b, vs, ws, rfl, rfl, ha, hb, by rw [line_]; omega, fun p n => ?_⟩
      exact k p _ (fun q o e => by rw [upd_ne (ne_of_none e n)]; exact e) n ⟨_, upd_same, da.append db⟩
    · cases e
  · cases e

/-! ### ints -/
def subD : D → D → Option D
  | .int i, .int j => some (.int (i - j))
  | _, _ => none
theorem sd_sub : Sd2 K (rI0 fun i j => .int (i - j)) subD := by
  intro G H v w d1 d2 d Q s h1 h2 e k
  unfold subD at e
  split at e
  · cases e
    exact ⟨_, _, h1.int, h2.int, keep_ k (.int _)⟩
  · cases e
/-- the product, one factor below 2 ^ 64 -/
def mulD : D → D → Option D
  | .int i, .int j => if (-(2 ^ 64) < i ∧ i < 2 ^ 64) ∨ (-(2 ^ 64) < j ∧ j < 2 ^ 64) then some (.int (i * j)) else none
  | _, _ => none
theorem sd_mul : Sd2 K (rI CMul fun i j => .int (i * j)) mulD := by
  intro G H v w d1 d2 d Q s h1 h2 e k
  unfold mulD at e
  split at e
  · split at e
    · rename_i hc
      cases e
      exact ⟨_, _, h1.int, h2.int, hc, keep_ k (.int _)⟩
    · cases e
  · cases e
def modD : D → D → Option D
  | .int i, .int j => if j ≠ 0 then some (.int (i.fmod j)) else none
  | _, _ => none
theorem sd_mod : Sd2 K (rI (fun _ j => j ≠ 0) fun i j => .int (i.fmod j)) modD := by
  intro G H v w d1 d2 d Q s h1 h2 e k
  unfold modD at e
  split at e
  · split at e
    · rename_i hc
      cases e
      exact ⟨_, _, h1.int, h2.int, hc, keep_ k (.int _)⟩
    · cases e
  · cases e
def fdivD : D → D → Option D
  | .int i, .int j => if j ≠ 0 ∧ j.natAbs < 1073741824 then some (.int (i.fdiv j)) else none
  | _, _ => none
theorem sd_fdiv : Sd2 K (rI CDivN fun i j => .int (i.fdiv j)) fdivD := by
  intro G H v w d1 d2 d Q s h1 h2 e k
  unfold fdivD at e
  split at e
  · split at e
    · rename_i hc
      cases e
      exact ⟨_, _, h1.int, h2.int, hc, keep_ k (.int _)⟩
    · cases e
  · cases e
def powD : D → D → Option D
  | .int i, .int j => if 0 ≤ j ∧ j ≤ 1000000 ∧ i.natAbs < 2 ^ 64 then some (.int (i ^ j.toNat)) else none
  | _, _ => none
theorem sd_pow : Sd2 K (rI CPow fun i j => .int (i ^ j.toNat)) powD := by
  intro G H v w d1 d2 d Q s h1 h2 e k
  unfold powD at e
  split at e
  · split at e
    · rename_i hc
      cases e
      exact ⟨_, _, h1.int, h2.int, hc, keep_ k (.int _)⟩
    · cases e
  · cases e
def negD : D → Option D
  | .int i => some (.int (-i))
  | _ => none
theorem sd_neg : Sd1 K (rU fun i => .int (-i)) negD := by
  intro G H v d1 d Q s h1 e k
  unfold negD at e
  split at e
  · cases e
    exact ⟨_, h1.int, keep_ k (.int _)⟩
  · cases e

/-! ### comparisons -/
def eqD (d e : D) : Option D := if SeqAt.shaped d = true ∧ SeqAt.shaped e = true then some (.bool (PyData.eqv d e)) else none
def neD (d e : D) : Option D := if SeqAt.shaped d = true ∧ SeqAt.shaped e = true then some (.bool (!PyData.eqv d e)) else none
theorem sd_eq : Sd2 K (rEqD K) eqD := by
  intro G H v w d1 d2 d Q s h1 h2 e k
  unfold eqD at e
  split at e
  · rename_i hc
    cases e
    exact ⟨d1, d2, h1.dp s, h2.dp s, hc.1, hc.2, keep_ k (.bl _)⟩
  · cases e
theorem sd_ne : Sd2 K (rNeD K) neD := by
  intro G H v w d1 d2 d Q s h1 h2 e k
  unfold neD at e
  split at e
  · rename_i hc
    cases e
    exact ⟨d1, d2, h1.dp s, h2.dp s, hc.1, hc.2, keep_ k (.bl _)⟩
  · cases e
def cmpI (p : Int → Int → Bool) : D → D → Option D
  | .int i, .int j => some (.bool (p i j))
  | _, _ => none
theorem sd_cmpI (p : Int → Int → Bool) : Sd2 K (rI0 fun i j => .bl (p i j)) (cmpI p) := by
  intro G H v w d1 d2 d Q s h1 h2 e k
  unfold cmpI at e
  split at e
  · cases e
    exact ⟨_, _, h1.int, h2.int, keep_ k (.bl _)⟩
  · cases e
def inAny (d : D) (ds : List D) : Bool := ds.any fun z => PyData.eqv z d
def inD : D → D → Option D
  | d, .list ds => if SeqAt.shaped d = true ∧ SeqAt.shaped (.list ds) = true then some (.bool (inAny d ds)) else none
  | d, .tuple ds => if SeqAt.shaped d = true ∧ SeqAt.shaped (.tuple ds) = true then some (.bool (inAny d ds)) else none
  | .str i, .str j => some (.bool (!(Builtin.Str.occurrences j i 0 j.length 1).isEmpty))
  | _, _ => none
def notInD : D → D → Option D
  | d, .list ds => if SeqAt.shaped d = true ∧ SeqAt.shaped (.list ds) = true then some (.bool (!inAny d ds)) else none
  | d, .tuple ds => if SeqAt.shaped d = true ∧ SeqAt.shaped (.tuple ds) = true then some (.bool (!inAny d ds)) else none
  | .str i, .str j => some (.bool (!(!(Builtin.Str.occurrences j i 0 j.length 1).isEmpty)))
  | _, _ => none
def rInT (K : PySem.W.Frag) : R2 := fun x y H Q => ∃ d ds, Dp K H x d ∧ Dp K H y (.tuple ds) ∧ SeqAt.shaped d = true ∧ SeqAt.shaped (.tuple ds) = true ∧ Q (.bl (ds.any fun z => PyData.eqv z d)) H
def rNotInT (K : PySem.W.Frag) : R2 := fun x y H Q => ∃ d ds, Dp K H x d ∧ Dp K H y (.tuple ds) ∧ SeqAt.shaped d = true ∧ SeqAt.shaped (.tuple ds) = true ∧ Q (.bl (!ds.any fun z => PyData.eqv z d)) H
theorem op_inT (hu : X.A.units + 65 < cLine) : OpR X (compareOp .In) (rInT X.K) := by
  intro pins s σ H x y v u Q I rx ry h
  obtain ⟨d, ds, hd, he, sd, se, q⟩ := h
  obtain ⟨as, r1⟩ := Dp.reads I d x v hd rx
  obtain ⟨bs, r2⟩ := Dp.reads I (.tuple ds) y u he ry
  exact SeqAt.in_tuple_reads r2 r1 (SeqAt.canLay_of_shaped se) (SeqAt.canLay_of_shaped sd) (PyProof.Rows.room_in_shaped sd hu) ⟨.bl _, H, I, rfl, q⟩
theorem op_notInT (hu : X.A.units + 65 < cLine) : OpR X (compareOp .NotIn) (rNotInT X.K) := by
  intro pins s σ H x y v u Q I rx ry h
  obtain ⟨d, ds, hd, he, sd, se, q⟩ := h
  obtain ⟨as, r1⟩ := Dp.reads I d x v hd rx
  obtain ⟨bs, r2⟩ := Dp.reads I (.tuple ds) y u he ry
  exact SeqAt.notIn_tuple_reads r2 r1 (SeqAt.canLay_of_shaped se) (SeqAt.canLay_of_shaped sd) (PyProof.Rows.room_in_shaped sd hu) ⟨.bl _, H, I, rfl, q⟩
def rInAll (K : PySem.W.Frag) : R2 := fun x y H Q => rInD K x y H Q ∨ rInT K x y H Q ∨ ∃ i j, x = .str i ∧ y = .str j ∧ Q (.bl (!(Builtin.Str.occurrences j i 0 j.length 1).isEmpty)) H
def rNotInAll (K : PySem.W.Frag) : R2 := fun x y H Q => rNotInD K x y H Q ∨ rNotInT K x y H Q ∨ ∃ i j, x = .str i ∧ y = .str j ∧ Q (.bl (!(!(Builtin.Str.occurrences j i 0 j.length 1).isEmpty))) H
theorem op_inAll (hu : X.A.units + 65 < cLine) : OpR X (compareOp .In) (rInAll X.K) := (op_inD hu).or ((op_inT hu).or op_in_str)
theorem op_notInAll (hu : X.A.units + 65 < cLine) : OpR X (compareOp .NotIn) (rNotInAll X.K) := (op_notInD hu).or ((op_notInT hu).or op_notin_str)
theorem sd_in : Sd2 K (rInAll K) inD := by
  intro G H v w d1 d2 d Q s h1 h2 e k
  unfold inD at e
  split at e
  · split at e
    · rename_i hc
      cases e
      exact .inl ⟨_, _, h1.dp s, h2.dp s, hc.1, hc.2, keep_ k (.bl _)⟩
    · cases e
  · split at e
    · rename_i hc
      cases e
      exact .inr (.inl ⟨_, _, h1.dp s, h2.dp s, hc.1, hc.2, keep_ k (.bl _)⟩)
    · cases e
  · cases e
    exact .inr (.inr ⟨_, _, h1.str, h2.str, keep_ k (.bl _)⟩)
  · cases e
theorem sd_notIn : Sd2 K (rNotInAll K) notInD := by
  intro G H v w d1 d2 d Q s h1 h2 e k
  unfold notInD at e
  split at e
  · split at e
    · rename_i hc
      cases e
      exact .inl ⟨_, _, h1.dp s, h2.dp s, hc.1, hc.2, keep_ k (.bl _)⟩
    · cases e
  · split at e
    · rename_i hc
      cases e
      exact .inr (.inl ⟨_, _, h1.dp s, h2.dp s, hc.1, hc.2, keep_ k (.bl _)⟩)
    · cases e
  · cases e
    exact .inr (.inr ⟨_, _, h1.str, h2.str, keep_ k (.bl _)⟩)
  · cases e
/-- is None -/
def isND : D → D → Option D
  | .none, .none => some (.bool true)
  | _, .none => some (.bool false)
  | _, _ => none
def notND : D → D → Option D
  | .none, .none => some (.bool false)
  | _, .none => some (.bool true)
  | _, _ => none
theorem DpB.nn {G H : Hp} {v : V} {d : D} (h : DpB K G H v d) (n : d ≠ .none) : decide (v = V.non) = false := by
  refine decide_eq_false fun e => ?_
  subst e
  rcases h with h | ⟨p, vs, ys, e, h, e2, ha⟩
  · cases h; exact n rfl
  · cases e
theorem sd_isN : Sd2 K (fun x y H Q => y = .non ∧ Q (.bl (decide (x = .non))) H) isND := by
  intro G H v w d1 d2 d Q s h1 h2 e k
  unfold isND at e
  split at e
  · cases e
    rw [h1.none, h2.none]
    exact ⟨rfl, keep_ k (.bl _)⟩
  · rename_i hn
    cases e
    refine ⟨h2.none, ?_⟩
    rw [h1.nn fun z => hn z]
    exact keep_ k (.bl _)
  · cases e
theorem sd_notN : Sd2 K (fun x y H Q => y = .non ∧ Q (.bl (!decide (x = .non))) H) notND := by
  intro G H v w d1 d2 d Q s h1 h2 e k
  unfold notND at e
  split at e
  · cases e
    rw [h1.none, h2.none]
    exact ⟨rfl, keep_ k (.bl _)⟩
  · rename_i hn
    cases e
    refine ⟨h2.none, ?_⟩
    rw [h1.nn fun z => hn z]
    exact keep_ k (.bl _)
  · cases e
/-- is True, is False, of truth values -/
def isBD : D → D → Option D
  | .bool a, .bool b => some (.bool (decide (a = b)))
  | _, _ => none
def notBD : D → D → Option D
  | .bool a, .bool b => some (.bool (!decide (a = b)))
  | _, _ => none
theorem sd_isB : Sd2 K rIsB isBD := by
  intro G H v w d1 d2 d Q s h1 h2 e k
  unfold isBD at e
  split at e
  · cases e
    exact ⟨_, _, h1.bool, h2.bool, keep_ k (.bl _)⟩
  · cases e
theorem sd_notB : Sd2 K rNotB notBD := by
  intro G H v w d1 d2 d Q s h1 h2 e k
  unfold notBD at e
  split at e
  · cases e
    exact ⟨_, _, h1.bool, h2.bool, keep_ k (.bl _)⟩
  · cases e

/-! ### subscripts -/
def ixD : D → D → Option D
  | .list xs, .int i => atI xs i
  | .tuple xs, .int i => atI xs i
  | .str z, .int i => if z.length ≤ 16777216 then (atI z.cps.toList i).map fun c => .str ⟨#[c]⟩ else none
  | _, _ => none
theorem atI_dd {G : Hp} {vs : List V} {ds : List D} {i : Int} {d : D} (h : DdAll K G vs ds) (e : atI ds i = some d) : ∃ v, atI vs i = some v ∧ Dd K G v d := by
  have hl := h.length
  unfold atI at e ⊢
  rw [hl]
  obtain ⟨j, ej, e⟩ := Option.bind_eq_some_iff.mp e
  rw [ej]
  exact h.get e
theorem sd_ix : Sd2 K (rIx K) ixD := by
  intro G H v w d1 d2 d Q s h1 h2 e k
  unfold ixD at e
  split at e
  · obtain ⟨p, vs, rfl, hp, hd⟩ := h1.list s
    obtain ⟨x, e1, dx⟩ := atI_dd hd e
    exact .inl ⟨p, vs, _, x, rfl, h2.int, .inl (.inl hp), e1, keep_ k (dd_mono (ex_same s) _ _ dx)⟩
  · obtain ⟨p, vs, rfl, hp, hd⟩ := h1.tuple s
    obtain ⟨x, e1, dx⟩ := atI_dd hd e
    exact .inr (.inl ⟨p, vs, _, x, rfl, h2.int, .inl (.inl (s _ _ hp)), e1, keep_ k (dd_mono (ex_same s) _ _ dx)⟩)
  · split at e
    · rename_i hz
      cases q : atI (_ : Str).cps.toList _ with
      | none => rw [q] at e; cases e
      | some c =>
        rw [q] at e
        cases e
        exact .inr (.inr ⟨_, _, c, h1.str, h2.int, by rw [line_]; exact hz, q, keep_ k (.str _)⟩)
    · cases e
  · cases e
end
end DL
end
section
set_option Elab.async false
set_option linter.all false
set_option maxRecDepth 100000
set_option autoImplicit false
namespace DL
open PySem PySem.Spec L2

/-! ### names, constants -/
/-- a variable's data (a list of our own is frozen by it) -/
def eV (i : Nat) : Ev D := fun ρ => match ρ[i]? with
  | some (.fz d) => .ok d ρ
  | some (.ow false (.ls xs)) => .ok (.list xs) (ρ.set i (.fz (.list xs)))
  | _ => .no
def eC (d : D) : Ev D := fun ρ => .ok d ρ
/-- a list of our own as data -/
def eFz (g : Ev Ob) : Ev D := fun ρ => (g ρ).bind fun o r => match o with
  | .ls xs => .ok (.list xs) r
  | _ => .no
section
variable {K : PySem.W.Frag} {M : Addr → Prop} {σ : St} {ρ : Rho} {H : Hp}
theorem own_set {i : Nat} {sl : Sl} (hn : ∀ b o, sl ≠ .ow b o) {p : Addr} (h : Own σ (ρ.set i sl) p) : Own σ ρ p := by
  obtain ⟨j, b, o, h1, h2⟩ := h
  by_cases e : i = j
  · subst e
    by_cases hl : i < ρ.length
    · rw [List.getElem?_set_self hl] at h1
      exact absurd (Option.some.inj h1) (hn b o)
    · rw [List.getElem?_eq_none (by simpa using hl)] at h1; cases h1
  · rw [List.getElem?_set_ne e] at h1
    exact ⟨j, b, o, h1, h2⟩
/-- a list of our own is frozen -/
theorem Rel.frz (R : Rel K M σ H ρ) {i : Nat} {xs : List D} (e : ρ[i]? = some (.ow false (.ls xs))) : Rel K M σ H (ρ.set i (.fz (.list xs))) := by
  have hl : i < ρ.length := (List.getElem?_eq_some_iff.mp e).1
  have os : ∀ p, Own σ (ρ.set i (.fz (.list xs))) p → Own σ ρ p := fun p => own_set fun _ _ z => by cases z
  have le : ∀ p, Mu M σ (ρ.set i (.fz (.list xs))) p → Mu M σ ρ p := fun p z => z.elim .inl fun z => .inr (os p z)
  obtain ⟨a, h1, h2, vs, h3, h4⟩ := R.ow i _ _ e
  refine ⟨by rw [R.len, List.length_set], R.live, fun j d q => ?_, fun j b o q => ?_, fun j k b o b' o' p q1 q2 q3 q4 => ?_⟩
  · by_cases ij : i = j
    · subst ij
      rw [List.getElem?_set_self hl] at q
      cases q
      refine ⟨_, h1, .lst (rs_mk h3 fun z => ?_) (ddAll_mono (rs_le le) _ _ h4)⟩
      rcases z with z | ⟨k, b, o, z1, z2⟩
      · exact h2 z
      · by_cases ik : i = k
        · subst ik
          rw [List.getElem?_set_self hl] at z1; cases z1
        · rw [List.getElem?_set_ne ik] at z1
          exact ik (R.inj i k _ _ _ _ a e z1 h1 z2)
    · rw [List.getElem?_set_ne ij] at q
      obtain ⟨v, g1, g2⟩ := R.fz j d q
      exact ⟨v, g1, dd_mono (rs_le le) _ _ g2⟩
  · by_cases ij : i = j
    · subst ij
      rw [List.getElem?_set_self hl] at q; cases q
    · rw [List.getElem?_set_ne ij] at q
      obtain ⟨p, g1, g2, g3⟩ := R.ow j b o q
      exact ⟨p, g1, g2, g3.mono (rs_le le) rfl⟩
  · by_cases ij : i = j
    · subst ij
      rw [List.getElem?_set_self hl] at q1; cases q1
    · by_cases ik : i = k
      · subst ik
        rw [List.getElem?_set_self hl] at q2; cases q2
      · rw [List.getElem?_set_ne ij] at q1
        rw [List.getElem?_set_ne ik] at q2
        exact R.inj j k _ _ _ _ p q1 q2 q3 q4
theorem Go.frz (R : Rel K M σ H ρ) {i : Nat} {xs : List D} (e : ρ[i]? = some (.ow false (.ls xs))) : Go σ ρ H σ (ρ.set i (.fz (.list xs))) H := by
  refine ⟨fun _ _ h _ => h, fun p h => .inl (own_set (fun _ _ z => by cases z) h), fun j o' h => ⟨?_, rfl⟩, fun _ o h => ⟨o, h⟩⟩
  by_cases ij : i = j
  · subst ij
    rw [List.getElem?_set_self (List.getElem?_eq_some_iff.mp e).1] at h; cases h
  · rw [List.getElem?_set_ne ij] at h
    exact ⟨o', h⟩
end
section
variable {X : Cx} {cl : Cl} {W : WX} {e : Expr} {pos : Pos}
theorem d_v {i : Nat} (h : PE X e (tVar i)) : PE X e (tE X.K cl W (eV i)) := by
  refine PE.weak h ?_
  rintro σ H Q ⟨M, ρ, R, p⟩
  unfold eV at p
  split at p
  · rename_i d q
    obtain ⟨v, h1, h2⟩ := R.fz i d q
    exact ⟨v, h1, p v H Go.refl R h2⟩
  · rename_i xs q
    have R' := R.frz q
    have hl : i < ρ.length := (List.getElem?_eq_some_iff.mp q).1
    obtain ⟨v, h1, h2⟩ := R'.fz i _ (List.getElem?_set_self hl)
    exact ⟨v, h1, p v H (Go.frz R q) R' h2⟩
  · exact p.elim
theorem d_c {d : D} {v : V} (hd : ∀ H : Hp, Dd X.K H v d) (h : PE X e (tC v)) : PE X e (tE X.K cl W (eC d)) := by
  refine PE.weak h ?_
  rintro σ H Q ⟨M, ρ, R, p⟩
  exact p v H Go.refl R (hd _)
theorem d_int {i : Int} {j : Nat} : PE X (.Constant (.int i) j pos) (tE X.K cl W (eC (.int i))) := d_c (fun _ => .int i) pe_int
theorem d_str {z : Str} {j : Nat} : PE X (.Constant (.str z) j pos) (tE X.K cl W (eC (.str z))) := d_c (fun _ => .str z) pe_str
theorem d_bl {b : Bool} {j : Nat} : PE X (.Constant (.bool b) j pos) (tE X.K cl W (eC (.bool b))) := d_c (fun _ => .bl b) pe_bl
theorem d_non {j : Nat} : PE X (.Constant .none j pos) (tE X.K cl W (eC .none)) := d_c (fun _ => .non) pe_non
/-- a list of our own, as data -/
theorem d_fz {g : Ev Ob} (h : PE X e (tO X.K cl W g)) : PE X e (tE X.K cl W (eFz g)) := by
  refine PE.weak h ?_
  rintro σ H Q ⟨M, ρ, R, p⟩
  refine tG_bind R p fun v o ρ1 H1 _ g1 R1 q1 p1 => ?_
  obtain ⟨a, rfl, _, n, R2, ob⟩ := q1
  cases o with
  | ls xs =>
    obtain ⟨vs, h1, h2⟩ := ob
    refine p1 _ H1 Go.refl R1 (.lst (rs_mk h1 n) (ddAll_mono (rs_le fun q z => z.elim (fun z => .inl (.inl z)) .inr) _ _ h2))
  | dk _ => exact p1.elim
  | dt _ => exact p1.elim

/-! ### operators -/
variable {a b : Expr} {A B : Opd}
theorem d_bin {op : Operator} {r : R2} {f : D → D → Option D} (ho : OpR X (binaryOp op) r) (S : Sd2 X.K r f) (ha : PE X a (tP X.K cl W A)) (hb : PE X b (tP X.K cl W B)) : PE X (.BinOp a op b pos) (tE X.K cl W (e2 f A B)) :=
  PE.weak (pe_op ho ha hb) (tOp_d S)
theorem o_bin {op : Operator} {r : R2} {f : D → D → Option Ob} (ho : OpR X (binaryOp op) r) (S : So2 X.K r f) (ha : PE X a (tP X.K cl W A)) (hb : PE X b (tP X.K cl W B)) : PE X (.BinOp a op b pos) (tO X.K cl W (e2 f A B)) :=
  PE.weak (pe_op ho ha hb) (tOp_o S)
theorem d_un {op : UnaryOp} {r : V → Hp → VK → Prop} {f : D → Option D} (ho : UnR X (unaryOp op) r) (S : Sd1 X.K r f) (ha : PE X a (tP X.K cl W A)) : PE X (.UnaryOp op a pos) (tE X.K cl W (e1 f A)) :=
  PE.weak (pe_un ho ha) (tUn_d S)
theorem d_cmp {op : CmpOp} {r : R2} {f : D → D → Option D} (ho : OpR X (compareOp op) r) (S : Sd2 X.K r f) (ha : PE X a (tP X.K cl W A)) (hb : PE X b (tP X.K cl W B)) (hm : behindInMarks op b = false) : PE X (.Compare a [op] [b] pos) (tE X.K cl W (e2 f A B)) :=
  PE.weak (pe_cmpR ho ha hb hm) (tOp_d S)
/-- a truth value as a test -/
def eT (g : Ev D) : Ev Bool := fun ρ => (g ρ).bind fun d r => match d with
  | .bool b => .ok b r
  | _ => .no
theorem tT_of {K : PySem.W.Frag} {g : Ev D} (σ : St) (H : Hp) (Q : Bool → Hp → Prop) (h : tT K cl W (eT g) σ H Q) : tE K cl W g σ H fun x H' => ∃ k, x = .bl k ∧ Q k H' := by
  obtain ⟨M, ρ, R, p⟩ := h
  refine tG_bind R p fun v d ρ1 H1 _ g1 R1 q1 p1 => ?_
  cases d with
  | bool k =>
    have e : v = .bl k := by cases q1; rfl
    exact ⟨k, e, p1 k H1 Go.refl R1 rfl⟩
  | none => exact p1.elim
  | int _ => exact p1.elim
  | str _ => exact p1.elim
  | list _ => exact p1.elim
  | tuple _ => exact p1.elim
  | dict _ => exact p1.elim
theorem t_cmp {op : CmpOp} {r : R2} {f : D → D → Option D} (ho : OpR X (compareOp op) r) (S : Sd2 X.K r f) (ha : PE X a (tP X.K cl W A)) (hb : PE X b (tP X.K cl W B)) (hm : behindInMarks op b = false) : PT X (.Compare a [op] [b] pos) (tT X.K cl W (eT (e2 f A B))) := by
  refine PT.weak (pt_cmpR ho ha hb hm) fun σ H Q h => ?_
  exact tOp_d S σ H _ (tT_of σ H Q h)
/-- an expression that gives True or False, as a test -/
theorem t_val {g : Ev D} (h : PE X e (tE X.K cl W g)) (he : ∀ whole, isTrue e X.env whole = (do let v ← whole; standAt e.pos; holding [v] (truthy v)) := by intro _; rfl) : PT X e (tT X.K cl W (eT g)) :=
  PT.weak (pt_val h he) fun σ H Q q => tT_of σ H Q q
def eNot (g : Ev Bool) : Ev Bool := fun ρ => (g ρ).bind fun b r => .ok (!b) r
def eAnd (g h : Ev Bool) : Ev Bool := fun ρ => (g ρ).bind fun b r => if b = true then h r else .ok false r
def eOr (g h : Ev Bool) : Ev Bool := fun ρ => (g ρ).bind fun b r => if b = true then .ok true r else h r
theorem t_not {g : Ev Bool} (h : PT X a (tT X.K cl W g)) : PT X (.UnaryOp .Not a pos) (tT X.K cl W (eNot g)) := by
  refine PT.weak (pt_not h) ?_
  rintro σ H Q ⟨M, ρ, R, p⟩
  refine tG_bind R p fun c c' ρ1 H1 _ g1 R1 q1 p1 => ?_
  have q1 : c = c' := q1
  subst q1
  exact p1 _ H1 Go.refl R1 rfl
variable {rest : List Expr} {g h : Ev Bool}
theorem w_and1 (ha : PT X a (tT X.K cl W g)) : PW X (.BoolOp .And [a] pos) (tT X.K cl W g) := pw_and1 ha
theorem w_or1 (ha : PT X a (tT X.K cl W g)) : PW X (.BoolOp .Or [a] pos) (tT X.K cl W g) := pw_or1 ha
theorem w_and (ha : PT X a (tT X.K cl W g)) (hb : PW X (.BoolOp .And (b :: rest) pos) (tT X.K cl W h)) : PW X (.BoolOp .And (a :: b :: rest) pos) (tT X.K cl W (eAnd g h)) := by
  refine PW.weak (pw_and ha hb) ?_
  rintro σ H Q ⟨M, ρ, R, p⟩
  refine tG_bind R p fun c c' ρ1 H1 _ g1 R1 q1 p1 => ?_
  have q1 : c = c' := q1
  subst q1
  cases c with
  | true => exact iteT ⟨M, ρ1, R1, p1⟩
  | false => exact iteF (p1 _ H1 Go.refl R1 rfl)
theorem w_or (ha : PT X a (tT X.K cl W g)) (hb : PW X (.BoolOp .Or (b :: rest) pos) (tT X.K cl W h)) : PW X (.BoolOp .Or (a :: b :: rest) pos) (tT X.K cl W (eOr g h)) := by
  refine PW.weak (pw_or ha hb) ?_
  rintro σ H Q ⟨M, ρ, R, p⟩
  refine tG_bind R p fun c c' ρ1 H1 _ g1 R1 q1 p1 => ?_
  have q1 : c = c' := q1
  subst q1
  cases c with
  | true => exact iteT (p1 _ H1 Go.refl R1 rfl)
  | false => exact iteF ⟨M, ρ1, R1, p1⟩
/-- as values -/
def eB (g : Ev Bool) : Ev D := fun ρ => (g ρ).bind fun b r => .ok (.bool b) r
def eAndV (g h : Ev D) : Ev D := fun ρ => (g ρ).bind fun d r => match d with
  | .bool b => if b = true then h r else .ok (.bool false) r
  | _ => .no
def eOrV (g h : Ev D) : Ev D := fun ρ => (g ρ).bind fun d r => match d with
  | .bool b => if b = true then .ok (.bool true) r else h r
  | _ => .no
def eNotV (g : Ev D) : Ev D := fun ρ => (g ρ).bind fun d r => match d with
  | .bool b => .ok (.bool (!b)) r
  | _ => .no
theorem d_one {op : BoolOp} {g : Ev D} (ha : PE X a (tE X.K cl W g)) : PE X (.BoolOp op [a] pos) (tE X.K cl W g) := pe_one ha
theorem bl_of {K : PySem.W.Frag} {H : Hp} {v : V} {k : Bool} (h : Dd K H v (.bool k)) : v = .bl k := by cases h; rfl
theorem d_and {g h : Ev D} (ha : PE X a (tE X.K cl W g)) (hb : PE X (.BoolOp .And (b :: rest) pos) (tE X.K cl W h)) : PE X (.BoolOp .And (a :: b :: rest) pos) (tE X.K cl W (eAndV g h)) := by
  refine PE.weak (pe_and ha hb) ?_
  rintro σ H Q ⟨M, ρ, R, p⟩
  refine tG_bind R p fun v d ρ1 H1 _ g1 R1 q1 p1 => ?_
  cases d with
  | bool k =>
    refine ⟨k, bl_of q1, ?_⟩
    cases k with
    | true => exact iteT ⟨M, ρ1, R1, p1⟩
    | false => exact iteF (p1 _ H1 Go.refl R1 (.bl false))
  | none => exact p1.elim
  | int _ => exact p1.elim
  | str _ => exact p1.elim
  | list _ => exact p1.elim
  | tuple _ => exact p1.elim
  | dict _ => exact p1.elim
theorem d_or {g h : Ev D} (ha : PE X a (tE X.K cl W g)) (hb : PE X (.BoolOp .Or (b :: rest) pos) (tE X.K cl W h)) : PE X (.BoolOp .Or (a :: b :: rest) pos) (tE X.K cl W (eOrV g h)) := by
  refine PE.weak (pe_or ha hb) ?_
  rintro σ H Q ⟨M, ρ, R, p⟩
  refine tG_bind R p fun v d ρ1 H1 _ g1 R1 q1 p1 => ?_
  cases d with
  | bool k =>
    refine ⟨k, bl_of q1, ?_⟩
    cases k with
    | true => exact iteT (p1 _ H1 Go.refl R1 (.bl true))
    | false => exact iteF ⟨M, ρ1, R1, p1⟩
  | none => exact p1.elim
  | int _ => exact p1.elim
  | str _ => exact p1.elim
  | list _ => exact p1.elim
  | tuple _ => exact p1.elim
  | dict _ => exact p1.elim
theorem d_not {g : Ev D} (ha : PE X a (tE X.K cl W g)) : PE X (.UnaryOp .Not a pos) (tE X.K cl W (eNotV g)) := by
  refine PE.weak (pe_not ha) ?_
  rintro σ H Q ⟨M, ρ, R, p⟩
  refine tG_bind R p fun v d ρ1 H1 _ g1 R1 q1 p1 => ?_
  cases d with
  | bool k => exact ⟨k, bl_of q1, p1 _ H1 Go.refl R1 (.bl _)⟩
  | none => exact p1.elim
  | int _ => exact p1.elim
  | str _ => exact p1.elim
  | list _ => exact p1.elim
  | tuple _ => exact p1.elim
  | dict _ => exact p1.elim
def eIf {α : Type} (c : Ev Bool) (g h : Ev α) : Ev α := fun ρ => (c ρ).bind fun b r => if b = true then g r else h r
theorem d_ifx {c : Expr} {gc : Ev Bool} {g h : Ev D} (hc : PT X c (tT X.K cl W gc)) (ha : PE X a (tE X.K cl W g)) (hb : PE X b (tE X.K cl W h)) : PE X (.IfExp c a b pos) (tE X.K cl W (eIf gc g h)) := by
  refine PE.weak (pe_ifExp hc ha hb) ?_
  rintro σ H Q ⟨M, ρ, R, p⟩
  refine tG_bind R p fun k k' ρ1 H1 _ g1 R1 q1 p1 => ?_
  have q1 : k = k' := q1
  subst q1
  cases k with
  | true => exact iteT ⟨M, ρ1, R1, p1⟩
  | false => exact iteF ⟨M, ρ1, R1, p1⟩
theorem o_ifx {c : Expr} {gc : Ev Bool} {g h : Ev Ob} (hc : PT X c (tT X.K cl W gc)) (ha : PE X a (tO X.K cl W g)) (hb : PE X b (tO X.K cl W h)) : PE X (.IfExp c a b pos) (tO X.K cl W (eIf gc g h)) := by
  refine PE.weak (pe_ifExp hc ha hb) ?_
  rintro σ H Q ⟨M, ρ, R, p⟩
  refine tG_bind R p fun k k' ρ1 H1 _ g1 R1 q1 p1 => ?_
  have q1 : k = k' := q1
  subst q1
  cases k with
  | true => exact iteT ⟨M, ρ1, R1, p1⟩
  | false => exact iteF ⟨M, ρ1, R1, p1⟩
end

/-! ### lists of expressions: displays -/
def eL : List (Ev D) → Ev (List D)
  | [] => fun ρ => .ok [] ρ
  | g :: gs => fun ρ => (g ρ).bind fun x r => (eL gs r).bind fun xs r2 => .ok (x :: xs) r2
def RDs (K : PySem.W.Frag) : Rk (List D) (List V) := ⟨fun M σ ρ _ H vs ds => DdAll K (rs (Mu M σ ρ) H) vs ds, fun _ h => h⟩
abbrev tL (K : PySem.W.Frag) (cl : Cl) (W : WX) (gs : List (Ev D)) : TA := tG K cl W (RDs K) (eL gs)
def eTup (gs : List (Ev D)) : Ev D := fun ρ => (eL gs ρ).bind fun xs r => if xs.length ≤ 16777216 then .ok (.tuple xs) r else .no
def eLst (gs : List (Ev D)) : Ev Ob := fun ρ => (eL gs ρ).bind fun xs r => if xs.length ≤ 16777216 then .ok (.ls xs) r else .no
section
variable {X : Cx} {cl : Cl} {W : WX} {e : Expr} {es : List Expr} {pos : Pos} {g : Ev D} {gs : List (Ev D)}
theorem l_nil : PA X [] (tL X.K cl W []) := by
  refine PA.weak pa_nil ?_
  rintro σ H Q ⟨M, ρ, R, p⟩
  exact p [] H Go.refl R .nil
theorem l_cons (ha : PE X e (tE X.K cl W g)) (hr : PA X es (tL X.K cl W gs)) (hs : starEach (e :: es) X.env = (false, eval e X.env) :: starEach es X.env := by rfl) : PA X (e :: es) (tL X.K cl W (g :: gs)) := by
  refine PA.weak (pa_cons ha hr hs) ?_
  rintro σ H Q ⟨M, ρ, R, p⟩
  refine tG_bind R p fun v d ρ1 H1 _ g1 R1 q1 p1 => ?_
  refine tG_bind R1 p1 fun vs ds ρ2 H2 _ g2 R2 q2 p2 => ?_
  exact p2 _ H2 Go.refl R2 (.cons (dd_mono g2.same _ _ q1) q2)
theorem d_tup {x1 : Nat} (h : PA X es (tL X.K cl W gs)) : PE X (.Tuple es x1 pos) (tE X.K cl W (eTup gs)) := by
  refine PE.weak (pe_tup h) ?_
  rintro σ H Q ⟨M, ρ, R, p⟩
  refine tG_bind R p fun vs ds ρ1 H1 _ g1 R1 q1 p1 => ?_
  have hl := DdAll.length q1
  split at p1
  · rename_i hc
    refine ⟨by rw [line_, hl]; exact hc, fun t n => ?_⟩
    have s : Same H1 (upd H1 t (.tup vs)) := fun q o e => by rw [upd_ne (ne_of_none e n)]; exact e
    refine p1 _ _ (Go.ext R1 s) (R1.ext s) (.tup (rs_mk upd_same fun z => ?_) (ddAll_mono (Go.ext R1 s).same _ _ q1))
    obtain ⟨u, hu⟩ := R1.mlive z
    rw [n] at hu; cases hu
  · exact p1.elim
theorem lst_w {K : PySem.W.Frag} (σ : St) (H : Hp) (Q : VK) (h : tO K cl W (eLst gs) σ H Q) : tLst (tL K cl W gs) σ H Q := by
  obtain ⟨M, ρ, R, p⟩ := h
  refine tG_bind R p fun vs ds ρ1 H1 _ g1 R1 q1 p1 => ?_
  have hl := DdAll.length q1
  split at p1
  · rename_i hc
    refine ⟨by rw [line_, hl]; exact hc, fun t n => ?_⟩
    have s : Same H1 (upd H1 t (.lst vs)) := fun q o e => by rw [upd_ne (ne_of_none e n)]; exact e
    refine p1 _ _ (Go.ext R1 s) (R1.ext s) ⟨t, rfl, n, fun z => ?_, R1.plus (o := .ls ds) s n ⟨_, upd_same⟩, vs, upd_same, ddAll_mono (fun b u e => ?_) _ _ q1⟩
    · obtain ⟨u, hu⟩ := R1.mlive z
      rw [n] at hu; cases hu
    · obtain ⟨e1, e2⟩ := rs_of e
      refine rs_mk (s _ _ e1) fun z => ?_
      rcases z with (z | z) | z
      · exact e2 (.inl z)
      · rw [z, n] at e1; cases e1
      · exact e2 (.inr z)
  · exact p1.elim
theorem o_lst (h : PA X es (tL X.K cl W gs)) : PE X (.List es pos) (tO X.K cl W (eLst gs)) := PE.weak (pe_lst h) lst_w
end

/-! ### statements -/
inductive Fl where
  | nx | rt (d : D) | bk | ct
def Sst (K : PySem.W.Frag) (cl : Cl) (W : WX) (M : Addr → Prop) (E : Ends) (σ : St) (ρ : Rho) (H : Hp) (r : Res Fl) : Prop := match r with
  | .ok .nx ρ' => ∀ σ' H', Go σ ρ H σ' ρ' H' → Rel K M σ' H' ρ' → E.nx σ' H'
  | .ok (.rt d) ρ' => ∀ v σ' H', Go σ ρ H σ' ρ' H' → Rel K M σ' H' ρ' → Dd K (rs (Mu M σ' ρ') H') v d → E.rt v H'
  | .ok .bk ρ' => ∀ σ' H', Go σ ρ H σ' ρ' H' → Rel K M σ' H' ρ' → E.bk σ' H'
  | .ok .ct ρ' => ∀ σ' H', Go σ ρ H σ' ρ' H' → Rel K M σ' H' ρ' → E.ct σ' H'
  | .er c ρ' => ∀ cls dd σ' H', cl c cls dd → Go σ ρ H σ' ρ' H' → Rel K M σ' H' ρ' → W cls dd σ' H'
  | .no => False
theorem Sst.step {K : PySem.W.Frag} {cl : Cl} {W : WX} {M : Addr → Prop} {E : Ends} {σ σ1 : St} {ρ ρ1 : Rho} {H H1 : Hp} {r : Res Fl} (g : Go σ ρ H σ1 ρ1 H1) (h : Sst K cl W M E σ ρ H r) : Sst K cl W M E σ1 ρ1 H1 r := by
  cases r with
  | ok f ρ' =>
    cases f with
    | nx => exact fun σ' H' g1 r1 => h σ' H' (g.trans g1) r1
    | rt d => exact fun v σ' H' g1 r1 q => h v σ' H' (g.trans g1) r1 q
    | bk => exact fun σ' H' g1 r1 => h σ' H' (g.trans g1) r1
    | ct => exact fun σ' H' g1 r1 => h σ' H' (g.trans g1) r1
  | er c ρ' => exact fun cls dd σ' H' c1 g1 r1 => h cls dd σ' H' c1 (g.trans g1) r1
  | no => exact h
def tS (K : PySem.W.Frag) (cl : Cl) (W : WX) (g : Ev Fl) : TS := fun E σ H => ∃ M ρ, Rel K M σ H ρ ∧ Sst K cl W M E σ ρ H (g ρ)
/-- a part that is an expression -/
theorem tS_bind {α β : Type} {K : PySem.W.Frag} {cl : Cl} {W : WX} {R : Rk α β}
    {M : Addr → Prop} {σ : St} {ρ : Rho} {H : Hp} {ga : Ev α} {f : α → Rho → Res Fl} {E : Ends} {k : β → Hp → Prop}
    (r : Rel K M σ H ρ) (h : Sst K cl W M E σ ρ H ((ga ρ).bind f))
    (hk : ∀ x a ρ1 H1, ga ρ = .ok a ρ1 → Go σ ρ H σ ρ1 H1 → Rel K M σ H1 ρ1 → R.R M σ ρ1 H H1 x a → Sst K cl W M E σ ρ1 H1 (f a ρ1) → k x H1) : tG K cl W R ga σ H k := by
  refine ⟨M, ρ, r, ?_⟩
  cases e : ga ρ with
  | ok a ρ1 =>
    rw [e] at h
    exact fun x H1 g1 r1 q => hk x a ρ1 H1 e g1 r1 q (Sst.step g1 h)
  | er c ρ1 => rw [e] at h; exact fun cls dd H' c1 g1 r1 => h cls dd σ H' c1 g1 r1
  | no => rw [e] at h; exact h
def seqS (g h : Ev Fl) : Ev Fl := fun ρ => (g ρ).bind fun f r => match f with
  | .nx => h r
  | f => .ok f r
def nxS : Ev Fl := fun ρ => .ok .nx ρ
section
variable {X : Cx} {cl : Cl} {W : WX} {st : Stmt} {sts : List Stmt} {e : Expr} {pos : Pos} {g h : Ev Fl}
theorem ss_nil : PSs X [] (tS X.K cl W nxS) := by
  refine PSs.weak pss_nil ?_
  rintro E σ H ⟨M, ρ, R, p⟩
  exact p σ H Go.refl R
theorem seq_w {K : PySem.W.Frag} (E : Ends) (σ : St) (H : Hp) (q : tS K cl W (seqS g h) E σ H) : tS K cl W g { E with nx := tS K cl W h E } σ H := by
  obtain ⟨M, ρ, R, p⟩ := q
  refine ⟨M, ρ, R, ?_⟩
  unfold seqS at p
  cases e : g ρ with
  | ok f ρ1 =>
    rw [e] at p
    cases f with
    | nx => exact fun σ' H' g1 R1 => ⟨M, ρ1, R1, Sst.step g1 p⟩
    | rt d => exact p
    | bk => exact p
    | ct => exact p
  | er c ρ1 => rw [e] at p; exact p
  | no => rw [e] at p; exact p
theorem ss_cons (h1 : PS X st (tS X.K cl W g)) (h2 : PSs X sts (tS X.K cl W h)) : PSs X (st :: sts) (tS X.K cl W (seqS g h)) := PSs.weak (pss_cons h1 h2) fun E σ H q => seq_w E σ H q
theorem ss_one (h1 : PS X st (tS X.K cl W g)) : PSs X [st] (tS X.K cl W g) := pss_one h1
def pt (f : Fl) : Ev Fl := fun ρ => .ok f ρ
theorem s_pass : PS X (.Pass pos) (tS X.K cl W nxS) := by
  refine PS.weak ps_pass ?_
  rintro E σ H ⟨M, ρ, R, p⟩
  exact p σ H Go.refl R
theorem s_break : PS X (.Break pos) (tS X.K cl W (pt .bk)) := by
  refine PS.weak ps_break ?_
  rintro E σ H ⟨M, ρ, R, p⟩
  exact p σ H Go.refl R
theorem s_cont : PS X (.Continue pos) (tS X.K cl W (pt .ct)) := by
  refine PS.weak ps_continue ?_
  rintro E σ H ⟨M, ρ, R, p⟩
  exact p σ H Go.refl R
theorem s_doc {x : Str} {j : Nat} {pos' : Pos} : PS X (.Expr (.Constant (.str x) j pos) pos') (tS X.K cl W nxS) := by
  refine PS.weak ps_doc ?_
  rintro E σ H ⟨M, ρ, R, p⟩
  exact p σ H Go.refl R
def exS {α : Type} (g : Ev α) : Ev Fl := fun ρ => (g ρ).bind fun _ r => .ok .nx r
theorem s_expr {g : Ev D} (he : PE X e (tE X.K cl W g)) (hs : swapsWith e none pos.line X.env = pure false := by rfl) : PS X (.Expr e pos) (tS X.K cl W (exS g)) := by
  refine PS.weak (ps_expr he hs) ?_
  rintro E σ H ⟨M, ρ, R, p⟩
  refine tS_bind R p fun v d ρ1 H1 _ g1 R1 q1 p1 => ?_
  exact p1 σ H1 Go.refl R1
def rtS (g : Ev D) : Ev Fl := fun ρ => (g ρ).bind fun d r => .ok (.rt d) r
theorem s_ret {g : Ev D} (he : PE X e (tE X.K cl W g)) : PS X (.Return (some e) pos) (tS X.K cl W (rtS g)) := by
  refine PS.weak (ps_ret he) ?_
  rintro E σ H ⟨M, ρ, R, p⟩
  refine tS_bind R p fun v d ρ1 H1 _ g1 R1 q1 p1 => ?_
  exact p1 v σ H1 Go.refl R1 q1
theorem s_retN : PS X (.Return none pos) (tS X.K cl W (pt (.rt .none))) := by
  refine PS.weak ps_retN ?_
  rintro E σ H ⟨M, ρ, R, p⟩
  exact p .non σ H Go.refl R .non
def ifS (c : Ev Bool) (g h : Ev Fl) : Ev Fl := fun ρ => (c ρ).bind fun b r => if b = true then g r else h r
theorem s_if {c : Expr} {a b : List Stmt} {gc : Ev Bool} (hc : PT X c (tT X.K cl W gc)) (ha : PSs X a (tS X.K cl W g)) (hb : PSs X b (tS X.K cl W h)) : PS X (.If c a b pos) (tS X.K cl W (ifS gc g h)) := by
  refine PS.weak (ps_if hc ha hb) ?_
  rintro E σ H ⟨M, ρ, R, p⟩
  refine tS_bind R p fun k k' ρ1 H1 _ g1 R1 q1 p1 => ?_
  have q1 : k = k' := q1
  subst q1
  cases k with
  | true => exact iteT ⟨M, ρ1, R1, p1⟩
  | false => exact iteF ⟨M, ρ1, R1, p1⟩
end

/-! ### stores -/
/-- a slot that may be stored: it is there, and it is no list that the caller handed in to be changed -/
@[simp] def sto (r : Rho) (i : Nat) (s : Sl) : Option Rho := match r[i]? with
  | none => none
  | some (.ow true _) => none
  | some _ => some (r.set i s)
section
variable {K : PySem.W.Frag} {M : Addr → Prop} {σ : St} {ρ ρ' : Rho} {H : Hp} {i : Nat} {v : V}
theorem sto_of {s : Sl} (h : sto ρ i s = some ρ') : i < ρ.length ∧ (∀ o, ρ[i]? ≠ some (.ow true o)) ∧ ρ' = ρ.set i s := by
  unfold sto at h
  split at h
  · cases h
  · cases h
  · rename_i s' n e
    refine ⟨(List.getElem?_eq_some_iff.mp e).1, fun o z => ?_, (Option.some.inj h).symm⟩
    rw [e] at z
    exact n o (Option.some.inj z)
theorem own_sto {s : Sl} {u : V} (hn : ∀ b o, s ≠ .ow b o) (hi : i < ρ.length) {p : Addr} (h : Own (σ.set i (some u)) (ρ.set i s) p) : Own σ ρ p := by
  obtain ⟨j, b, o, h1, h2⟩ := h
  by_cases e : i = j
  · subst e
    rw [List.getElem?_set_self hi] at h1
    exact absurd (Option.some.inj h1) (hn b o)
  · rw [List.getElem?_set_ne e] at h1 h2
    exact ⟨j, b, o, h1, h2⟩
theorem Rel.store (R : Rel K M σ H ρ) {d : D} (hv : Dd K (rs (Mu M σ ρ) H) v d) (h : sto ρ i (.fz d) = some ρ') : Rel K M (σ.set i (some v)) H ρ' ∧ Go σ ρ H (σ.set i (some v)) ρ' H := by
  obtain ⟨hi, hn, rfl⟩ := sto_of h
  have hiσ : i < σ.length := by rw [R.len]; exact hi
  have os : ∀ p, Own (σ.set i (some v)) (ρ.set i (.fz d)) p → Own σ ρ p := fun p => own_sto (fun _ _ z => by cases z) hi
  have le : ∀ p, Mu M (σ.set i (some v)) (ρ.set i (.fz d)) p → Mu M σ ρ p := fun p z => z.elim .inl fun z => .inr (os p z)
  refine ⟨⟨by rw [List.length_set, List.length_set, R.len], R.live, fun j d' q => ?_, fun j b o q => ?_, fun j k b o b' o' p q1 q2 q3 q4 => ?_⟩, ⟨fun _ _ h _ => h, fun p h => .inl (os p h), fun j o' q => ?_, fun _ o h => ⟨o, h⟩⟩⟩
  · by_cases ij : i = j
    · subst ij
      rw [List.getElem?_set_self hi] at q
      cases q
      exact ⟨v, List.getElem?_set_self hiσ, dd_mono (rs_le le) _ _ hv⟩
    · rw [List.getElem?_set_ne ij] at q ⊢
      obtain ⟨w, g1, g2⟩ := R.fz j d' q
      exact ⟨w, g1, dd_mono (rs_le le) _ _ g2⟩
  · by_cases ij : i = j
    · subst ij
      rw [List.getElem?_set_self hi] at q; cases q
    · rw [List.getElem?_set_ne ij] at q ⊢
      obtain ⟨p, g1, g2, g3⟩ := R.ow j b o q
      exact ⟨p, g1, g2, g3.mono (rs_le le) rfl⟩
  · by_cases ij : i = j
    · subst ij
      rw [List.getElem?_set_self hi] at q1; cases q1
    · by_cases ik : i = k
      · subst ik
        rw [List.getElem?_set_self hi] at q2; cases q2
      · rw [List.getElem?_set_ne ij] at q1 q3
        rw [List.getElem?_set_ne ik] at q2 q4
        exact R.inj j k _ _ _ _ p q1 q2 q3 q4
  · by_cases ij : i = j
    · subst ij
      rw [List.getElem?_set_self hi] at q; cases q
    · rw [List.getElem?_set_ne ij] at q ⊢
      exact ⟨⟨o', q⟩, rfl⟩
/-- a list of our own goes to a slot -/
theorem Rel.storeO (R : Rel K M σ H ρ) {o : Ob} {p : Addr} (hp : ¬ Mu M σ ρ p) (R2 : Rel K (fun q => M q ∨ q = p) σ H ρ) (ob : ObAt K (rs (Mu (fun q => M q ∨ q = p) σ ρ) H) H p o) (h : sto ρ i (.ow false o) = some ρ') :
    Rel K M (σ.set i (some (.ref p))) H ρ' ∧ ∀ ρ0 H0, Go σ ρ0 H0 σ ρ H → H0 p = none → Go σ ρ0 H0 (σ.set i (some (.ref p))) ρ' H := by
  obtain ⟨hi, hn, rfl⟩ := sto_of h
  have hiσ : i < σ.length := by rw [R.len]; exact hi
  have os : ∀ q, Own (σ.set i (some (.ref p))) (ρ.set i (.ow false o)) q → Own σ ρ q ∨ q = p := fun q ⟨j, b, o', z1, z2⟩ => by
    by_cases ij : i = j
    · subst ij
      rw [List.getElem?_set_self hiσ] at z2
      cases z2
      exact .inr rfl
    · rw [List.getElem?_set_ne ij] at z1 z2
      exact .inl ⟨j, b, o', z1, z2⟩
  have le : ∀ q, Mu M (σ.set i (some (.ref p))) (ρ.set i (.ow false o)) q → Mu (fun q => M q ∨ q = p) σ ρ q := fun q z => by
    rcases z with z | z
    · exact .inl (.inl z)
    · rcases os q z with z | z
      · exact .inr z
      · exact .inl (.inr z)
  refine ⟨⟨by rw [List.length_set, List.length_set, R.len], R.live, fun j d' q => ?_, fun j b o' q => ?_, fun j k b o1 b' o' a q1 q2 q3 q4 => ?_⟩, fun ρ0 H0 g h0 => ⟨g.keep, fun q h => ?_, fun j o' q => ?_, g.live⟩⟩
  · by_cases ij : i = j
    · subst ij
      rw [List.getElem?_set_self hi] at q; cases q
    · rw [List.getElem?_set_ne ij] at q ⊢
      obtain ⟨w, g1, g2⟩ := R2.fz j d' q
      exact ⟨w, g1, dd_mono (rs_le le) _ _ g2⟩
  · by_cases ij : i = j
    · subst ij
      rw [List.getElem?_set_self hi] at q
      cases q
      exact ⟨p, List.getElem?_set_self hiσ, fun z => hp (.inl z), ob.mono (rs_le le) rfl⟩
    · rw [List.getElem?_set_ne ij] at q ⊢
      obtain ⟨a, g1, g2, g3⟩ := R2.ow j b o' q
      exact ⟨a, g1, fun z => g2 (.inl z), g3.mono (rs_le le) rfl⟩
  · have nop : ∀ j b o, i ≠ j → ρ[j]? = some (.ow b o) → σ[j]? ≠ some (some (.ref p)) := fun j b o _ z1 z2 => hp (.inr ⟨j, b, o, z1, z2⟩)
    by_cases ij : i = j
    · subst ij
      rw [List.getElem?_set_self hiσ] at q3
      cases q3
      by_cases ik : i = k
      · exact ik
      · rw [List.getElem?_set_ne ik] at q2 q4
        exact absurd q4 (nop k _ _ ik q2)
    · rw [List.getElem?_set_ne ij] at q1 q3
      by_cases ik : i = k
      · subst ik
        rw [List.getElem?_set_self hiσ] at q4
        cases q4
        exact absurd q3 (nop j _ _ ij q1)
      · rw [List.getElem?_set_ne ik] at q2 q4
        exact R.inj j k _ _ _ _ a q1 q2 q3 q4
  · rcases os q h with z | z
    · exact g.own q z
    · rw [z]; exact .inr h0
  · by_cases ij : i = j
    · subst ij
      rw [List.getElem?_set_self hi] at q; cases q
    · rw [List.getElem?_set_ne ij] at q ⊢
      exact g.io j o' q
end
/-- a store's outcome -/
def stR (o : Option Rho) : Res Fl := match o with
  | some r => .ok .nx r
  | none => .no
@[simp] theorem stR_some (r : Rho) : stR (some r) = .ok .nx r := Eq.trans rfl rfl
@[simp] theorem stR_none : stR none = .no := Eq.trans rfl rfl
def setS (i : Nat) (g : Ev D) : Ev Fl := fun ρ => (g ρ).bind fun d r => stR (sto r i (.fz d))
def setO (i : Nat) (g : Ev Ob) : Ev Fl := fun ρ => (g ρ).bind fun o r => stR (sto r i (.ow false o))
section
variable {X : Cx} {cl : Cl} {W : WX} {e : Expr} {pos pos' : Pos} {i : Nat} {x : Str}
theorem setS_w {K : PySem.W.Frag} {g : Ev D} (E : Ends) (σ : St) (H : Hp) (h : tS K cl W (setS i g) E σ H) : tE K cl W g σ H fun v H1 => E.nx (σ.set i (some v)) H1 := by
  obtain ⟨M, ρ, R, p⟩ := h
  refine tS_bind R p fun v d ρ1 H1 _ g1 R1 q1 p1 => ?_
  cases q : sto ρ1 i (.fz d) with
  | none => rw [q] at p1; exact p1.elim
  | some ρ2 =>
    rw [q] at p1
    obtain ⟨R2, g2⟩ := R1.store q1 q
    exact p1 _ H1 g2 R2
/-- the generic way to a list of our own -/
theorem tO_bind {K : PySem.W.Frag} {M : Addr → Prop} {σ : St} {ρ : Rho} {H : Hp} {ga : Ev Ob} {f : Ob → Rho → Res Fl} {E : Ends} {k : V → Hp → Prop}
    (r : Rel K M σ H ρ) (h : Sst K cl W M E σ ρ H ((ga ρ).bind f))
    (hk : ∀ p o ρ1 H1, Go σ ρ H σ ρ1 H1 → Rel K M σ H1 ρ1 → H p = none → ¬ Mu M σ ρ1 p → Rel K (fun q => M q ∨ q = p) σ H1 ρ1 → ObAt K (rs (Mu (fun q => M q ∨ q = p) σ ρ1) H1) H1 p o → Sst K cl W M E σ ρ H (f o ρ1) → k (.ref p) H1) : tO K cl W ga σ H k := by
  refine ⟨M, ρ, r, ?_⟩
  cases e : ga ρ with
  | ok a ρ1 =>
    rw [e] at h
    intro x H1 g1 r1 q
    obtain ⟨p, rfl, n0, n, R2, ob⟩ := q
    exact hk p a ρ1 H1 g1 r1 n0 n R2 ob h
  | er c ρ1 => rw [e] at h; exact fun cls dd H' c1 g1 r1 => h cls dd σ H' c1 g1 r1
  | no => rw [e] at h; exact h
theorem setO_w {K : PySem.W.Frag} {g : Ev Ob} (E : Ends) (σ : St) (H : Hp) (h : tS K cl W (setO i g) E σ H) : tO K cl W g σ H fun v H1 => E.nx (σ.set i (some v)) H1 := by
  obtain ⟨M, ρ, R, p⟩ := h
  refine tO_bind R p fun a o ρ1 H1 g1 R1 n0 n R2 ob p1 => ?_
  cases q : sto ρ1 i (.ow false o) with
  | none => rw [q] at p1; exact p1.elim
  | some ρ2 =>
    rw [q] at p1
    obtain ⟨R3, g3⟩ := R1.storeO n R2 ob q
    exact p1 _ H1 (g3 ρ H g1 n0) R3
theorem s_setO {g : Ev Ob} (hN : X.N.Nodup) (hi : X.N[i]? = some x) (hx : Loc X.env.scope x) (he : PE X e (tO X.K cl W g)) (hs : swapsWith e (some (.Name x pos')) pos.line X.env = pure false := by rfl)
    (hf : X.fn x = true ∨ X.env.scope.names.lookup x = some .local := by first | exact .inl rfl | exact .inr rfl | assumption) : PS X (.Assign [.Name x pos'] e pos) (tS X.K cl W (setO i g)) :=
  PS.weak (ps_set hN hi hx he hs hf) fun E σ H h => setO_w E σ H h
theorem s_set {g : Ev D} (hN : X.N.Nodup) (hi : X.N[i]? = some x) (hx : Loc X.env.scope x) (he : PE X e (tE X.K cl W g)) (hs : swapsWith e (some (.Name x pos')) pos.line X.env = pure false := by rfl)
    (hf : X.fn x = true ∨ X.env.scope.names.lookup x = some .local := by first | exact .inl rfl | exact .inr rfl | assumption) : PS X (.Assign [.Name x pos'] e pos) (tS X.K cl W (setS i g)) :=
  PS.weak (ps_set hN hi hx he hs hf) fun E σ H h => setS_w E σ H h
end
end DL
end
section
set_option Elab.async false
set_option linter.all false
set_option maxRecDepth 100000
set_option autoImplicit false
namespace DL
open PySem PySem.Spec L2

/-! ### targets -/
/-- a target: the slots it stores, what it does -/
structure Tg where
  ss : List Nat
  f : D → Rho → Option Rho
def tgN (i : Nat) : Tg := ⟨[i], fun d r => sto r i (.fz d)⟩
def tgs : List Tg → List D → Rho → Option Rho
  | [], [], r => some r
  | t :: ts, d :: ds, r => (t.f d r).bind fun r1 => tgs ts ds r1
  | _, _, _ => none
def tgT (ts : List Tg) : Tg := ⟨(ts.map Tg.ss).flatten, fun d r => match d with
  | .tuple ds => tgs ts ds r
  | _ => none⟩
def gD (K : PySem.W.Frag) (t : Tg) : TG := fun v σ H Q => ∃ M ρ d ρ', Rel K M σ H ρ ∧ Dd K (rs (Mu M σ ρ) H) v d ∧ t.f d ρ = some ρ' ∧ ∀ σ', Go σ ρ H σ' ρ' H → Rel K M σ' H ρ' → (∀ j, j ∉ t.ss → σ'[j]? = σ[j]?) → σ'.length = σ.length → Q σ' H
def gDs (K : PySem.W.Frag) (ts : List Tg) : TGs := fun vs σ H Q => ∃ M ρ ds ρ', Rel K M σ H ρ ∧ DdAll K (rs (Mu M σ ρ) H) vs ds ∧ tgs ts ds ρ = some ρ' ∧ ∀ σ', Go σ ρ H σ' ρ' H → Rel K M σ' H ρ' → (∀ j, j ∉ (ts.map Tg.ss).flatten → σ'[j]? = σ[j]?) → σ'.length = σ.length → Q σ' H
theorem PG.weak {X : Cx} {e : Expr} {t t' : TG} (h : PG X e t) (w : ∀ v σ H Q, t' v σ H Q → t v σ H Q) : PG X e t' := ⟨fun pins s σ H v u Q I r q => h.run pins s σ H v u Q I r (w v σ H Q q)⟩
theorem PGs.weak {X : Cx} {e : List Expr} {t t' : TGs} (h : PGs X e t) (w : ∀ v σ H Q, t' v σ H Q → t v σ H Q) : PGs X e t' := ⟨fun pins s σ H v u Q I r q => h.run pins s σ H v u Q I r (w v σ H Q q)⟩
section
variable {X : Cx} {pos : Pos}
theorem g_name {i : Nat} {x : Str} (hN : X.N.Nodup) (hi : X.N[i]? = some x) (hx : Loc X.env.scope x) (hf : X.fn x = true ∨ X.env.scope.names.lookup x = some .local := by first | exact .inl rfl | exact .inr rfl | assumption) : PG X (.Name x pos) (gD X.K (tgN i)) := by
  refine PG.weak (pg_name hN hi hx hf) ?_
  rintro v σ H Q ⟨M, ρ, d, ρ', R, hd, e, q⟩
  obtain ⟨R2, g2⟩ := R.store hd e
  refine q _ g2 R2 (fun j hj => ?_) (List.length_set ..)
  rw [List.getElem?_set_ne]
  intro z
  subst z
  exact hj (by simp [tgN])
theorem gs_nil : PGs X [] (gDs X.K []) := by
  refine PGs.weak pgs_nil ?_
  rintro v σ H Q ⟨M, ρ, d, ρ', R, hd, e, q⟩
  cases d with
  | nil =>
    have e : some ρ = some ρ' := e
    cases e
    cases hd
    exact ⟨rfl, q σ Go.refl R (fun _ _ => rfl) rfl⟩
  | cons _ _ => cases e
theorem gs_cons {e : Expr} {es : List Expr} {t : Tg} {ts : List Tg} (h1 : PG X e (gD X.K t)) (h2 : PGs X es (gDs X.K ts))
    (hs : (assignEach (e :: es) X.env).map (·.2) = assign e X.env :: (assignEach es X.env).map (·.2) := by rfl) : PGs X (e :: es) (gDs X.K (t :: ts)) := by
  refine PGs.weak (pgs_cons h1 h2 hs) ?_
  rintro v σ H Q ⟨M, ρ, d, ρ', R, hd, e, q⟩
  cases hd with
  | nil => cases e
  | cons a b =>
    obtain ⟨ρ1, e1, e2⟩ := Option.bind_eq_some_iff.mp e
    refine ⟨_, _, rfl, M, ρ, _, ρ1, R, a, e1, fun σ1 g1 R1 s1 l1 => ?_⟩
    refine ⟨M, ρ1, _, ρ', R1, ddAll_mono g1.same _ _ b, e2, fun σ2 g2 R2 s2 l2 => ?_⟩
    refine q σ2 (g1.trans g2) R2 (fun j hj => ?_) (l2.trans l1)
    simp only [List.map_cons, List.flatten_cons, List.mem_append, not_or] at hj
    exact (s2 j hj.2).trans (s1 j hj.1)
theorem tgs_len : ∀ {ts : List Tg} {ds : List D} {ρ ρ' : Rho}, tgs ts ds ρ = some ρ' → ds.length = ts.length
  | [], [], _, _, _ => rfl
  | t :: ts, d :: ds, ρ, ρ', h => by
    obtain ⟨r1, _, e2⟩ := Option.bind_eq_some_iff.mp (show (t.f d ρ).bind (fun r1 => tgs ts ds r1) = some ρ' from h)
    simp [tgs_len e2]
  | [], _ :: _, _, _, h => by cases h
  | _ :: _, [], _, _, h => by cases h
theorem g_tup {es : List Expr} {k : Nat} {ts : List Tg} {n : Nat} (hc : X.calm = true) (h : PGs X es (gDs X.K ts)) (hl : ts.length = n := by rfl)
    (hn : (assignEach es X.env).length = n := by rfl) (hst : (assignEach es X.env).findIdx? (·.1) = none := by rfl) : PG X (.Tuple es k pos) (gD X.K (tgT ts)) := by
  refine PG.weak (pg_tup (n := n) hc h hn hst) ?_
  rintro v σ H Q ⟨M, ρ, d, ρ', R, hd, e, q⟩
  cases d with
  | tuple ds =>
    have e : tgs ts ds ρ = some ρ' := e
    cases hd with
    | tup hs ha => exact ⟨_, _, rfl, .inl (.inl (rs_of hs).1), by rw [ha.length, tgs_len e, hl], M, ρ, ds, ρ', R, ha, e, q⟩
  | none => cases e
  | bool _ => cases e
  | int _ => cases e
  | str _ => cases e
  | list _ => cases e
  | dict _ => cases e
end
/-- (a, b) = e -/
def asgS (t : Tg) (g : Ev D) : Ev Fl := fun ρ => (g ρ).bind fun d r => stR (t.f d r)
theorem s_asg {X : Cx} {cl : Cl} {W : WX} {tg e : Expr} {pos : Pos} {t : Tg} {g : Ev D} (he : PE X e (tE X.K cl W g)) (hg : PG X tg (gD X.K t)) (hs : swapsWithSole [tg] e pos.line X.env = pure false := by rfl) (hw : swappedStores [tg] e X.env = pure none := by rfl)
    (h1 : (assignEach [tg] X.env).map (·.2) = [assign tg X.env] := by rfl) : PS X (.Assign [tg] e pos) (tS X.K cl W (asgS t g)) := by
  refine PS.weak (ps_asg he hg hs hw h1) ?_
  rintro E σ H ⟨M, ρ, R, p⟩
  refine tS_bind R p fun v d ρ1 H1 _ g1 R1 q1 p1 => ?_
  cases e : t.f d ρ1 with
  | none => rw [e] at p1; exact p1.elim
  | some ρ2 =>
    rw [e] at p1
    exact ⟨M, ρ1, d, ρ2, R1, q1, e, fun σ' g2 R2 _ _ => p1 σ' H1 g2 R2⟩

/-! ### what is walked -/
structure WalkD (K : PySem.W.Frag) (J : It) (G : Hp) (ds : List D) : Prop where
  stop : ∀ H, Same G H → J.stop ds.length H
  go : ∀ i d H, ds[i]? = some d → Same G H → J.go i H ∧ ∀ x H', J.yld i H x H' → Same H H' ∧ Dd K (Ex G H H') x d
def RI (K : PySem.W.Frag) : Rk (List D) It := ⟨fun M σ ρ _ H J ds => WalkD K J (rs (Mu M σ ρ) H) ds, fun _ h => h⟩
abbrev tI (K : PySem.W.Frag) (cl : Cl) (W : WX) (g : Ev (List D)) : TI := tG K cl W (RI K) g
theorem PI.weak {X : Cx} {tg e : Expr} {t t' : TI} (h : PI X tg e t) (w : ∀ σ H Q, t' σ H Q → t σ H Q) : PI X tg e t' := ⟨fun pins s σ H R I q => h.run pins s σ H R I (w σ H R q)⟩
def iterD : D → Option (List D)
  | .list xs => some xs
  | .tuple xs => some xs
  | .str z => some (z.cps.toList.map fun c => .str ⟨#[c]⟩)
  | _ => none
def iSeq (K : PySem.W.Frag) (tl : TE) : TI := fun σ H R => tl σ H fun x H1 => (∃ a, x = .ref a ∧ (∃ xs, SqL K H1 a xs) ∧ R (Itl K a) H1) ∨ (∃ a, x = .ref a ∧ (∃ xs, SqT K H1 a xs) ∧ R (Itt K a) H1) ∨ (∃ z, x = .str z ∧ R (Its z) H1)
def tJust (v : V) (H0 : Hp) : TE := fun _ H Q => H = H0 ∧ Q v H
section
variable {X : Cx} {cl : Cl} {W : WX} {tg l : Expr}
theorem pi_seq {tl : TE} (hl : PE X l tl) : PI X tg l (iSeq X.K tl) := by
  refine ⟨fun pins s σ H R I h => ?_⟩
  refine thn (hl.run pins s σ H _ I h) fun v s1 ⟨x, H1, I1, r1, q1⟩ => ?_
  rcases q1 with ⟨a, rfl, ⟨xs, hq⟩, q⟩ | ⟨a, rfl, ⟨xs, hq⟩, q⟩ | ⟨z, rfl, q⟩
  · cases r1
    obtain ⟨_, _, pl, _⟩ := I1.list hq
    exact wpAny_pyIter_list pl.isList (pi_one (tk := s1.toks) I1 _ (turn_list a _) ⟨_, Heap.get?_push_size _ rfl, rfl, rfl⟩ q)
  · cases r1
    obtain ⟨_, _, pl, _⟩ := I1.tuple hq
    exact wpAny_pyIter_tuple pl (pi_one (tk := s1.toks) I1 _ (turn_tuple a _) ⟨_, Heap.get?_push_size _ rfl, rfl, rfl⟩ q)
  · obtain ⟨t, rfl⟩ := r1
    cases ha : z.cps.all (· < 128)
    · exact wpAny_pyIter_wide ha (pi_one (tk := s1.toks) I1 _ (turn_str _ z t "str_iterator" (.inr rfl)) ⟨_, Heap.get?_push_size _ rfl, rfl, rfl⟩ q)
    · exact wpAny_pyIter_ascii ha (pi_one (tk := s1.toks) I1 _ (turn_str _ z t "str_ascii_iterator" (.inl rfl)) ⟨_, Heap.get?_push_size _ rfl, rfl, rfl⟩ q)
end
def eIt (g : Ev D) : Ev (List D) := fun ρ => (g ρ).bind fun d r => ofO (iterD d) r
section
variable {X : Cx} {cl : Cl} {W : WX} {tg l : Expr} {K : PySem.W.Frag} {G : Hp}
theorem walk_l {a : Addr} {vs : List V} {ds : List D} (h : G a = some (.lst vs)) (hd : DdAll K G vs ds) : WalkD K (Itl K a) G ds := by
  have hl := hd.length
  refine ⟨fun H s => ⟨vs, .inl (.inl (s _ _ h)), by omega⟩, fun i d H e s => ?_⟩
  obtain ⟨v, h1, h2⟩ := hd.get e
  refine ⟨⟨vs, v, .inl (.inl (s _ _ h)), h1⟩, fun x H' y => ?_⟩
  obtain ⟨rfl, y⟩ := y
  have z := y vs (.inl (.inl (s _ _ h)))
  rw [h1] at z
  cases z
  exact ⟨Same.refl _, dd_mono (ex_same s) _ _ h2⟩
theorem walk_t {a : Addr} {vs : List V} {ds : List D} (h : SqT K G a vs) (hd : DdAll K G vs ds) : WalkD K (Itt K a) G ds := by
  have hl := hd.length
  refine ⟨fun H s => ⟨vs, sqT_mono s h, by omega⟩, fun i d H e s => ?_⟩
  obtain ⟨v, h1, h2⟩ := hd.get e
  refine ⟨⟨vs, v, sqT_mono s h, h1⟩, fun x H' y => ?_⟩
  obtain ⟨rfl, y⟩ := y
  have z := y vs (sqT_mono s h)
  rw [h1] at z
  cases z
  exact ⟨Same.refl _, dd_mono (ex_same s) _ _ h2⟩
theorem walk_s {z : Str} : WalkD K (Its z) G (z.cps.toList.map fun c => PyData.str ⟨#[c]⟩) := by
  refine ⟨fun H s => ?_, fun i d H e s => ?_⟩
  · show z.cps.size ≤ _
    simp
  · rw [List.getElem?_map, Array.getElem?_toList] at e
    cases q : z.cps[i]? with
    | none => rw [q] at e; cases e
    | some c =>
      rw [q] at e
      cases e
      refine ⟨(Array.getElem?_eq_some_iff.mp q).1, fun x H' y => ?_⟩
      obtain ⟨rfl, c', h1, rfl⟩ := y
      rw [q] at h1
      cases h1
      exact ⟨Same.refl _, .str _⟩
theorem i_seq {g : Ev D} (hl : PE X l (tE X.K cl W g)) : PI X tg l (tI X.K cl W (eIt g)) := by
  refine PI.weak (pi_seq hl) ?_
  rintro σ H Q ⟨M, ρ, R, p⟩
  refine tG_bind R p fun v d ρ1 H1 _ g1 R1 q1 p1 => ?_
  cases d with
  | list ds =>
    cases q1 with
    | lst hs ha => exact .inl ⟨_, rfl, ⟨_, .inl (.inl (rs_of hs).1)⟩, p1 _ H1 Go.refl R1 (walk_l hs ha)⟩
  | tuple ds =>
    cases q1 with
    | tup hs ha => exact .inr (.inl ⟨_, rfl, ⟨_, .inl (.inl (rs_of hs).1)⟩, p1 _ H1 Go.refl R1 (walk_t (.inl (.inl hs)) ha)⟩)
  | str z =>
    cases q1
    exact .inr (.inr ⟨z, rfl, p1 _ H1 Go.refl R1 walk_s⟩)
  | none => exact p1.elim
  | bool _ => exact p1.elim
  | int _ => exact p1.elim
  | dict _ => exact p1.elim
/-- range(n), range(a, b) -/
def rgD (a b : Int) : List D := (List.range (b - a).toNat).map fun i => .int (a + (i : Nat))
theorem walk_r {lo : Int} {n : Nat} : WalkD K (Itr lo n) G ((List.range n).map fun i => PyData.int (lo + (i : Nat))) := by
  refine ⟨fun H s => ?_, fun i d H e s => ?_⟩
  · show n ≤ _
    simp
  · have hi : i < n := by
      have := (List.getElem?_eq_some_iff.mp e).1
      simpa using this
    rw [List.getElem?_map, List.getElem?_range hi] at e
    cases e
    refine ⟨hi, fun x H' y => ?_⟩
    obtain ⟨rfl, rfl⟩ := y
    exact ⟨Same.refl _, .int _⟩
/-- one expression's value as an argument list -/
def eOne (a : Opd) : Ev (List OV) := fun ρ => (a.run ρ).bind fun x r => .ok [x] r
def rg1D : D → Option (List D)
  | .int j => if -(2 ^ 62) ≤ j ∧ j < 2 ^ 62 then some (rgD 0 j) else none
  | _ => none
def rg2D : D → D → Option (List D)
  | .int i, .int j => if -(2 ^ 62) ≤ i ∧ i < 2 ^ 62 ∧ -(2 ^ 62) ≤ j ∧ j < 2 ^ 62 then some (rgD i j) else none
  | _, _ => none
variable {A B : Opd} {a b : Expr} {p pos : Pos}
theorem tc1_w {R : Rk (List D) It} {f : D → Option (List D)} {k : List V → Hp → Prop} (M : Addr → Prop) (ρ : Rho) (σ : St) (H : Hp) (Q : It → Hp → Prop) (hR : Rel K M σ H ρ) (p : Pst K cl W R M σ ρ H (e1 f A ρ) Q)
    (hk : ∀ v d ds ρ1 H1, Rel K M σ H1 ρ1 → DpB K (rs (Mu M σ ρ1) H1) H1 v d → f d = some ds → Pst K cl W R M σ ρ1 H1 (.ok ds ρ1) Q → k [v] H1) : tCons (tP K cl W A) tNil σ H k := by
  refine tG_bind hR p fun v x ρ1 H1 _ g1 R1 q1 p1 => ?_
  cases q : (x.fin ρ1).bind f with
  | none => rw [q] at p1; exact p1.elim
  | some ds =>
    rw [q] at p1
    obtain ⟨d, e1, e2⟩ := Option.bind_eq_some_iff.mp q
    exact hk v d ds ρ1 H1 R1 (RV0.fin R1 q1 e1) e2 p1
theorem i_range1 (hg : Gl X "range") (hm : X.mg "range" = none) (ha : PE X a (tP X.K cl W A)) (hs : starEach [a] X.env = [(false, eval a X.env)] := by rfl) : PI X tg (.Call (.Name "range" p) [a] [] pos) (tI X.K cl W (e1 rg1D A)) := by
  refine PI.weak (pi_range1 hg hm (pa_cons ha pa_nil (by rw [hs]; rfl)) hs) ?_
  rintro σ H Q ⟨M, ρ, R, q⟩
  refine tc1_w M ρ σ H Q R q fun v d ds ρ1 H1 R1 hd e p1 => ?_
  cases d with
  | int j =>
    simp only [rg1D] at e
    split at e
    · rename_i hc
      cases e
      refine ⟨j, by rw [hd.int], hc.1, hc.2, p1 _ H1 Go.refl R1 ?_⟩
      have z : j.toNat = (j - 0).toNat := by simp
      rw [z]
      exact walk_r
    · cases e
  | none => cases e
  | bool _ => cases e
  | str _ => cases e
  | list _ => cases e
  | tuple _ => cases e
  | dict _ => cases e
theorem i_range2 (hg : Gl X "range") (hm : X.mg "range" = none) (ha : PE X a (tP X.K cl W A)) (hb : PE X b (tP X.K cl W B)) (hs : starEach [a, b] X.env = [(false, eval a X.env), (false, eval b X.env)] := by rfl) (hs2 : starEach [b] X.env = [(false, eval b X.env)] := by rfl) :
    PI X tg (.Call (.Name "range" p) [a, b] [] pos) (tI X.K cl W (e2 rg2D A B)) := by
  refine PI.weak (pi_range2 hg hm (pa_cons ha (pa_cons hb pa_nil (by rw [hs2]; rfl)) (by rw [hs, hs2])) hs hs2) ?_
  rintro σ H Q ⟨M, ρ, R, q⟩
  refine tG_bind R q fun v x ρ1 H1 _ g1 R1 q1 p1 => ?_
  refine tG_bind R1 p1 fun w y ρ2 H2 _ g2 R2 q2 p2 => ?_
  cases z : (x.fin ρ2).bind (fun p => (y.fin ρ2).bind fun q => rg2D p q) with
  | none => rw [z] at p2; exact p2.elim
  | some ds =>
    rw [z] at p2
    obtain ⟨d1, e1, z⟩ := Option.bind_eq_some_iff.mp z
    obtain ⟨d2, e2, z⟩ := Option.bind_eq_some_iff.mp z
    have h1 := RV0.fin R2 (RV0.go g2 q1) e1
    have h2 := RV0.fin R2 q2 e2
    unfold rg2D at z
    split at z
    · split at z
      · rename_i hc
        cases z
        exact ⟨_, _, by rw [h1.int, h2.int], hc, p2 _ H2 Go.refl R2 walk_r⟩
      · cases z
    · cases z
end

/-! ### for -/
def loopS (t : Tg) (body : Ev Fl) : List D → Ev Fl
  | [], r => .ok .nx r
  | d :: ds, r => match t.f d r with
    | none => .no
    | some r1 => (body r1).bind fun f r2 => match f with
      | .nx => loopS t body ds r2
      | .ct => loopS t body ds r2
      | .bk => .ok .nx r2
      | .rt v => .ok (.rt v) r2
def forS (gi : Ev (List D)) (t : Tg) (body : Ev Fl) : Ev Fl := fun ρ => (gi ρ).bind fun ds r => loopS t body ds r
section
variable {X : Cx} {cl : Cl} {W : WX} {tg iter : Expr} {body : List Stmt} {pos : Pos} {gi : Ev (List D)} {t : Tg} {gb : Ev Fl}
theorem s_for (hp : PassesOwn (model X.prog X.w) X.A X.env X.xe) (hc : X.calm = true) (hi : PI X tg iter (tI X.K cl W gi)) (hg : PG X tg (gD X.K t)) (hb : PSs X body (tS X.K cl W gb))
    (hs : ∀ x, foldedSetIterable iter X.env x = pure x := by intro _; rfl) : PS X (.For tg iter body [] pos) (tS X.K cl W (forS gi t gb)) := by
  refine PS.weak (ps_for hp hc hi hg hb hs) ?_
  rintro E σ H ⟨M, ρ, R, p⟩
  refine tS_bind R p fun J ds ρ1 H1 _ g1 R1 q1 p1 => ?_
  refine ⟨fun i m σ' H' => m = ds.length - i ∧ i ≤ ds.length ∧ ∃ ρ', Go σ ρ1 H1 σ' ρ' H' ∧ Rel X.K M σ' H' ρ' ∧ Sst X.K cl W M E σ' ρ' H' (loopS t gb (ds.drop i) ρ'), ⟨ds.length, by simp, Nat.zero_le _, ρ1, Go.refl, R1, p1⟩, ?_⟩
  rintro i m σ2 H2 ⟨rfl, hi2, ρ2, g2, R2, p2⟩
  by_cases hlt : i < ds.length
  · have ed : ds[i]? = some ds[i] := List.getElem?_eq_getElem hlt
    have sm := g2.same (M := M)
    obtain ⟨go, yl⟩ := q1.go i ds[i] H2 ed fun q o e => rs_sub _ _ _ _ (sm q o e)
    rw [List.drop_eq_getElem_cons hlt] at p2
    refine .inr ⟨go, fun σ' H' => ∃ ρ', Go σ ρ1 H1 σ' ρ' H' ∧ Rel X.K M σ' H' ρ' ∧ Sst X.K cl W M E σ' ρ' H' (loopS t gb (ds.drop (i + 1)) ρ'), fun σ' H' z => ⟨ds.length - (i + 1), by omega, rfl, hlt, z⟩, fun x H3 y => ?_⟩
    obtain ⟨s3, hx⟩ := yl x H3 y
    have g3 : Go σ2 ρ2 H2 σ2 ρ2 H3 := Go.ext R2 s3
    have R3 := R2.ext s3
    have hx : Dd X.K (rs (Mu M σ2 ρ2) H3) x ds[i] := by
      refine dd_mono (fun q o e => ?_) _ _ hx
      refine R2.ex_le s3 q o ?_
      unfold Ex at e ⊢
      cases z : H2 q with
      | none => rw [z] at e; exact e
      | some u => rw [z] at e; exact sm q o e
    have p3 := Sst.step g3 p2
    unfold loopS at p3
    cases et : t.f ds[i] ρ2 with
    | none => rw [et] at p3; exact p3.elim
    | some ρ4 =>
      rw [et] at p3
      refine ⟨M, ρ2, ds[i], ρ4, R3, hx, et, fun σ4 g4 R4 _ _ => ?_⟩
      have p4 := Sst.step g4 p3
      refine ⟨M, ρ4, R4, ?_⟩
      have back : ∀ {σ5 H5 ρ5}, Go σ4 ρ4 H3 σ5 ρ5 H5 → Go σ ρ1 H1 σ5 ρ5 H5 := fun g5 => g2.trans (g3.trans (g4.trans g5))
      dsimp only at p4
      cases eb : gb ρ4 with
      | ok f ρ5 =>
        rw [eb] at p4
        cases f with
        | nx => exact fun σ5 H5 g5 R5 => ⟨ρ5, back g5, R5, Sst.step g5 p4⟩
        | ct => exact fun σ5 H5 g5 R5 => ⟨ρ5, back g5, R5, Sst.step g5 p4⟩
        | bk => exact p4
        | rt d => exact p4
      | er c ρ5 => rw [eb] at p4; exact p4
      | no => rw [eb] at p4; exact p4
  · have ei : i = ds.length := by omega
    subst ei
    rw [List.drop_length] at p2
    exact .inl ⟨q1.stop H2 fun q o e => rs_sub _ _ _ _ (g2.same (M := M) q o e), p2 σ2 H2 Go.refl R2⟩

/-! ### while -/
def whileS (c : Ev Bool) (body : Ev Fl) : Nat → Ev Fl
  | 0, _ => .no
  | n + 1, r => (c r).bind fun b r1 => if b = true then (body r1).bind fun f r2 => match f with
      | .nx => whileS c body n r2
      | .ct => whileS c body n r2
      | .bk => .ok .nx r2
      | .rt v => .ok (.rt v) r2
    else .ok .nx r1
theorem s_while (n : Nat) {c : Expr} {gc : Ev Bool} (hp : PassesOwn (model X.prog X.w) X.A X.env X.xe) (hc : PT X c (tT X.K cl W gc)) (hb : PSs X body (tS X.K cl W gb)) : PS X (.While c body [] pos) (tS X.K cl W (whileS gc gb n)) := by
  refine PS.weak (ps_while hp hc hb) ?_
  rintro E σ H ⟨M, ρ, R, p⟩
  refine ⟨fun m σ' H' => ∃ ρ', Rel X.K M σ' H' ρ' ∧ Sst X.K cl W M E σ' ρ' H' (whileS gc gb m ρ'), ⟨n, ρ, R, p⟩, ?_⟩
  rintro m σ1 H1 ⟨ρ1, R1, p1⟩
  cases m with
  | zero => exact p1.elim
  | succ m =>
    unfold whileS at p1
    refine tS_bind R1 p1 fun k k' ρ2 H2 _ g2 R2 q2 p2 => ?_
    have q2 : k = k' := q2
    subst q2
    cases k with
    | false =>
      rw [if_neg (by decide)] at p2 ⊢
      exact p2 σ1 H2 Go.refl R2
    | true =>
      rw [if_pos rfl] at p2 ⊢
      refine ⟨fun σ' H' => ∃ ρ', Rel X.K M σ' H' ρ' ∧ Sst X.K cl W M E σ' ρ' H' (whileS gc gb m ρ'), fun σ' H' z => ⟨m, Nat.lt_succ_self m, z⟩, M, ρ2, R2, ?_⟩
      cases eb : gb ρ2 with
      | ok f ρ5 =>
        rw [eb] at p2
        cases f with
        | nx => exact fun σ5 H5 g5 R5 => ⟨ρ5, R5, Sst.step g5 p2⟩
        | ct => exact fun σ5 H5 g5 R5 => ⟨ρ5, R5, Sst.step g5 p2⟩
        | bk => exact p2
        | rt d => exact p2
      | er c ρ5 => rw [eb] at p2; exact p2
      | no => rw [eb] at p2; exact p2
end
end DL
end
section
set_option Elab.async false
set_option linter.all false
set_option maxRecDepth 100000
set_option autoImplicit false
namespace DL
open PySem PySem.Spec L2

/-! ### arguments: data, or a list of our own that the callee may change -/
inductive AE where
  | g (e : Ev D)
  | s (i : Nat)
inductive AV where
  | d (x : D)
  | s (i : Nat)
def argE : AE → Ev AV
  | .g e => fun ρ => (e ρ).bind fun x r => .ok (.d x) r
  | .s i => fun ρ => match ρ[i]? with
    | some (.ow _ _) => .ok (.s i) ρ
    | _ => .no
def argsE : List AE → Ev (List AV)
  | [] => fun ρ => .ok [] ρ
  | a :: as => fun ρ => (argE a ρ).bind fun x r => (argsE as r).bind fun xs r2 => .ok (x :: xs) r2
def RA0 (K : PySem.W.Frag) (M : Addr → Prop) (σ : St) (ρ : Rho) (H : Hp) (v : V) (x : AV) : Prop := match x with
  | .d d => Dd K (rs (Mu M σ ρ) H) v d
  | .s i => σ[i]? = some (some v)
def RA (K : PySem.W.Frag) : Rk AV V := ⟨fun M σ ρ _ H v x => RA0 K M σ ρ H v x, fun _ h => h⟩
def RAs (K : PySem.W.Frag) : Rk (List AV) (List V) := ⟨fun M σ ρ _ H vs xs => Paired (RA0 K M σ ρ H) vs xs, fun _ h => h⟩
theorem RA0.go {K : PySem.W.Frag} {M : Addr → Prop} {σ : St} {ρ ρ' : Rho} {H H' : Hp} {v : V} {x : AV} (g : Go σ ρ H σ ρ' H') (h : RA0 K M σ ρ H v x) : RA0 K M σ ρ' H' v x := by
  cases x with
  | d d => exact dd_mono g.same _ _ h
  | s i => exact h
abbrev tAe (K : PySem.W.Frag) (cl : Cl) (W : WX) (a : AE) : TE := tG K cl W (RA K) (argE a)
abbrev tAs (K : PySem.W.Frag) (cl : Cl) (W : WX) (as : List AE) : TA := tG K cl W (RAs K) (argsE as)
section
variable {X : Cx} {cl : Cl} {W : WX} {e : Expr} {es : List Expr} {a : AE} {as : List AE}
theorem a_g {g : Ev D} (h : PE X e (tE X.K cl W g)) : PE X e (tAe X.K cl W (.g g)) := by
  refine PE.weak h ?_
  rintro σ H Q ⟨M, ρ, r, p⟩
  refine tG_bind (f := fun x r => Res.ok (AV.d x) r) r p fun v d ρ1 H1 _ g1 r1 q p1 => ?_
  exact p1 v H1 Go.refl r1 q
theorem a_s {i : Nat} (h : PE X e (tVar i)) : PE X e (tAe X.K cl W (.s i)) := by
  refine PE.weak h ?_
  rintro σ H Q ⟨M, ρ, R, p⟩
  cases q : ρ[i]? with
  | none => simp only [argE, q] at p; exact p.elim
  | some sl =>
    cases sl with
    | un => simp only [argE, q] at p; exact p.elim
    | fz d => simp only [argE, q] at p; exact p.elim
    | ow b o =>
      simp only [argE, q] at p
      obtain ⟨a, h1, h2⟩ := R.ow i _ _ q
      exact ⟨_, h1, p _ H Go.refl R h1⟩
theorem as_nil : PA X [] (tAs X.K cl W []) := by
  refine PA.weak pa_nil ?_
  rintro σ H Q ⟨M, ρ, R, p⟩
  exact p [] H Go.refl R .nil
theorem as_cons (ha : PE X e (tAe X.K cl W a)) (hr : PA X es (tAs X.K cl W as)) (hs : starEach (e :: es) X.env = (false, eval e X.env) :: starEach es X.env := by rfl) : PA X (e :: es) (tAs X.K cl W (a :: as)) := by
  refine PA.weak (pa_cons ha hr hs) ?_
  rintro σ H Q ⟨M, ρ, R, p⟩
  refine tG_bind R p fun v d ρ1 H1 _ g1 R1 q1 p1 => ?_
  refine tG_bind R1 p1 fun vs ds ρ2 H2 _ g2 R2 q2 p2 => ?_
  exact p2 _ H2 Go.refl R2 (.cons (RA0.go g2 q1) q2)
end

/-! ### what the callee gets, what comes back -/
def slots : List AV → List Nat
  | [] => []
  | .d _ :: as => slots as
  | .s i :: as => i :: slots as
def mk : List AV → Rho → Option Rho
  | [], _ => some []
  | .d x :: as, r => (mk as r).map (Sl.fz x :: ·)
  | .s i :: as, r => match r[i]? with
    | some (.ow _ o) => (mk as r).map (Sl.ow true o :: ·)
    | _ => none
def back (o : Sl) (s : Option Sl) : Sl := match o, s with
  | .ow true o', some (.ow b _) => .ow b o'
  | _, _ => .un
theorem back_at {o s : Sl} {q : Option Sl} (h : back o q = s) : s = Sl.un ∨ ∃ (o' : Ob) (b : Bool) (o2 : Ob), o = Sl.ow true o' ∧ q = some (Sl.ow b o2) ∧ s = Sl.ow b o' := by
  unfold back at h
  split at h
  · exact .inr ⟨_, _, _, rfl, rfl, h.symm⟩
  · exact .inl h.symm
def put : List AV → Rho → Rho → Rho
  | .d _ :: as, _ :: out, r => put as out r
  | .s i :: as, o :: out, r => put as out (r.set i (back o r[i]?))
  | .d _ :: as, [], r => put as [] r
  | .s i :: as, [], r => put as [] (r.set i .un)
  | [], _, r => r
theorem mk_len : ∀ {as : List AV} {r q : Rho}, mk as r = some q → q.length = as.length
  | [], _, _, h => by cases h; rfl
  | .d x :: as, r, q, h => by
    obtain ⟨q', e, rfl⟩ := Option.map_eq_some_iff.mp (show (mk as r).map (Sl.fz x :: ·) = some q from h)
    simp [mk_len e]
  | .s i :: as, r, q, h => by
    unfold mk at h
    split at h
    · obtain ⟨q', e, rfl⟩ := Option.map_eq_some_iff.mp h
      simp [mk_len e]
    · cases h
theorem mk_at : ∀ {as : List AV} {r q : Rho} {j : Nat} {s : Sl}, mk as r = some q → q[j]? = some s → (∃ x, as[j]? = some (.d x) ∧ s = .fz x) ∨ (∃ (i : Nat) (b : Bool) (o : Ob), as[j]? = some (AV.s i) ∧ r[i]? = some (Sl.ow b o) ∧ s = Sl.ow true o)
  | [], _, _, j, s, h, e => by cases h; simp at e
  | .d x :: as, r, q, j, s, h, e => by
    obtain ⟨q', e', rfl⟩ := Option.map_eq_some_iff.mp (show (mk as r).map (Sl.fz x :: ·) = some q from h)
    cases j with
    | zero => simp at e; subst e; exact .inl ⟨x, rfl, rfl⟩
    | succ j => exact mk_at (j := j) e' (by simpa using e)
  | .s i :: as, r, q, j, s, h, e => by
    unfold mk at h
    split at h
    · rename_i b o hi
      obtain ⟨q', e', rfl⟩ := Option.map_eq_some_iff.mp h
      cases j with
      | zero => simp at e; subst e; exact .inr ⟨i, b, o, rfl, hi, rfl⟩
      | succ j => exact mk_at (j := j) e' (by simpa using e)
    · cases h
theorem mk_slot : ∀ {as : List AV} {r q : Rho} {i : Nat}, mk as r = some q → i ∈ slots as → ∃ (j : Nat) (b : Bool) (o : Ob), as[j]? = some (AV.s i) ∧ r[i]? = some (Sl.ow b o) ∧ q[j]? = some (Sl.ow true o)
  | [], _, _, _, _, e => by simp [slots] at e
  | .d x :: as, r, q, i, h, e => by
    obtain ⟨q', e', rfl⟩ := Option.map_eq_some_iff.mp (show (mk as r).map (Sl.fz x :: ·) = some q from h)
    obtain ⟨j, b, o, h1, h2, h3⟩ := mk_slot e' (by simpa [slots] using e)
    exact ⟨j + 1, b, o, by simpa using h1, h2, by simpa using h3⟩
  | .s k :: as, r, q, i, h, e => by
    unfold mk at h
    split at h
    · rename_i b o hi
      obtain ⟨q', e', rfl⟩ := Option.map_eq_some_iff.mp h
      by_cases ik : i = k
      · subst ik
        exact ⟨0, b, o, rfl, hi, rfl⟩
      · obtain ⟨j, b, o, h1, h2, h3⟩ := mk_slot e' (by simpa [slots, ik] using e)
        exact ⟨j + 1, b, o, by simpa using h1, h2, by simpa using h3⟩
    · cases h
theorem slot_mem : ∀ {as : List AV} {j i : Nat}, as[j]? = some (.s i) → i ∈ slots as
  | [], _, _, h => by simp at h
  | .d x :: as, 0, i, h => by simp at h
  | .s k :: as, 0, i, h => by simp at h; simp [slots, h]
  | .d x :: as, j + 1, i, h => by simpa [slots] using slot_mem (as := as) (j := j) (by simpa using h)
  | .s k :: as, j + 1, i, h => by
    have := slot_mem (as := as) (j := j) (i := i) (by simpa using h)
    simp [slots, this]
theorem slot_inj : ∀ {as : List AV} {j k i : Nat}, (slots as).Nodup → as[j]? = some (.s i) → as[k]? = some (.s i) → j = k
  | [], _, _, _, _, h, _ => by simp at h
  | .d x :: as, 0, _, i, _, h, _ => by simp at h
  | .d x :: as, j + 1, 0, i, _, _, h => by simp at h
  | .d x :: as, j + 1, k + 1, i, n, h, h' => by
    have := slot_inj (as := as) (j := j) (k := k) (by simpa [slots] using n) (by simpa using h) (by simpa using h')
    omega
  | .s l :: as, 0, 0, i, n, h, h' => rfl
  | .s l :: as, 0, k + 1, i, n, h, h' => by
    simp at h
    subst h
    have n1 : l ∉ slots as := (List.nodup_cons.mp (show (l :: slots as).Nodup from n)).1
    exact absurd (slot_mem (j := k) (by simpa using h')) n1
  | .s l :: as, j + 1, 0, i, n, h, h' => by
    simp at h'
    subst h'
    have n1 : l ∉ slots as := (List.nodup_cons.mp (show (l :: slots as).Nodup from n)).1
    exact absurd (slot_mem (j := j) (by simpa using h)) n1
  | .s l :: as, j + 1, k + 1, i, n, h, h' => by
    have := slot_inj (as := as) (j := j) (k := k) (List.nodup_cons.mp (show (l :: slots as).Nodup from n)).2 (by simpa using h) (by simpa using h')
    omega
theorem put_len : ∀ {as : List AV} {out r : Rho}, (put as out r).length = r.length
  | [], _, _ => by unfold put; rfl
  | .d _ :: as, _ :: out, r => by unfold put; exact put_len
  | .d _ :: as, [], r => by unfold put; exact put_len
  | .s i :: as, o :: out, r => by unfold put; rw [put_len, List.length_set]
  | .s i :: as, [], r => by unfold put; rw [put_len, List.length_set]
theorem put_out : ∀ {as : List AV} {out r : Rho} {k : Nat}, k ∉ slots as → (put as out r)[k]? = r[k]?
  | [], _, _, _, _ => by unfold put; rfl
  | .d _ :: as, _ :: out, r, k, h => by unfold put; exact put_out (by simpa [slots] using h)
  | .d _ :: as, [], r, k, h => by unfold put; exact put_out (by simpa [slots] using h)
  | .s i :: as, o :: out, r, k, h => by
    have h' : k ≠ i ∧ k ∉ slots as := by simpa [slots] using h
    unfold put; rw [put_out h'.2, List.getElem?_set_ne h'.1.symm]
  | .s i :: as, [], r, k, h => by
    have h' : k ≠ i ∧ k ∉ slots as := by simpa [slots] using h
    unfold put; rw [put_out h'.2, List.getElem?_set_ne h'.1.symm]
theorem put_in : ∀ {as : List AV} {out r : Rho} {j k : Nat} {s : Sl}, (slots as).Nodup → as[j]? = some (.s k) → (put as out r)[k]? = some s → s = Sl.un ∨ ∃ (b : Bool) (o o' : Ob), out[j]? = some (Sl.ow true o') ∧ r[k]? = some (Sl.ow b o) ∧ s = Sl.ow b o'
  | [], _, _, _, _, _, _, h, _ => by simp at h
  | .d _ :: as, out, r, 0, k, s, n, h, e => by simp at h
  | .d _ :: as, o :: out, r, j + 1, k, s, n, h, e => by
    unfold put at e
    rcases put_in (j := j) (by simpa [slots] using n) (by simpa using h) e with z | ⟨b, o1, o2, h1, h2, h3⟩
    · exact .inl z
    · exact .inr ⟨b, o1, o2, by simpa using h1, h2, h3⟩
  | .d _ :: as, [], r, j + 1, k, s, n, h, e => by
    unfold put at e
    rcases put_in (j := j) (by simpa [slots] using n) (by simpa using h) e with z | ⟨b, o1, o2, h1, h2, h3⟩
    · exact .inl z
    · simp at h1
  | .s i :: as, [], r, 0, k, s, n, h, e => by
    simp at h
    subst h
    have n1 : i ∉ slots as := (List.nodup_cons.mp (show (i :: slots as).Nodup from n)).1
    unfold put at e
    rw [put_out n1] at e
    by_cases hl : i < r.length
    · rw [List.getElem?_set_self hl] at e; cases e; exact .inl rfl
    · rw [List.getElem?_eq_none (by simpa using hl)] at e; cases e
  | .s i :: as, o :: out, r, 0, k, s, n, h, e => by
    simp at h
    subst h
    have n1 : i ∉ slots as := (List.nodup_cons.mp (show (i :: slots as).Nodup from n)).1
    unfold put at e
    rw [put_out n1] at e
    by_cases hl : i < r.length
    · rw [List.getElem?_set_self hl] at e
      have e : back o r[i]? = s := Option.some.inj e
      rcases back_at e with z | ⟨o', b, o2, h1, h2, h3⟩
      · exact .inl z
      · exact .inr ⟨b, o2, o', by simp [h1], h2, h3⟩
    · rw [List.getElem?_eq_none (by simpa using hl)] at e; cases e
  | .s i :: as, [], r, j + 1, k, s, n, h, e => by
    have n2 := List.nodup_cons.mp (show (i :: slots as).Nodup from n)
    have ik : i ≠ k := fun z => by subst z; exact n2.1 (slot_mem (j := j) (by simpa using h))
    unfold put at e
    rcases put_in (j := j) n2.2 (by simpa using h) e with z | ⟨b, o1, o2, h1, h2, h3⟩
    · exact .inl z
    · simp at h1
  | .s i :: as, o :: out, r, j + 1, k, s, n, h, e => by
    have n2 := List.nodup_cons.mp (show (i :: slots as).Nodup from n)
    have ik : i ≠ k := fun z => by subst z; exact n2.1 (slot_mem (j := j) (by simpa using h))
    unfold put at e
    rcases put_in (j := j) n2.2 (by simpa using h) e with z | ⟨b, o1, o2, h1, h2, h3⟩
    · exact .inl z
    · rw [List.getElem?_set_ne ik] at h2
      exact .inr ⟨b, o1, o2, by simpa using h1, h2, h3⟩
theorem paired_at {α β : Type} {F : α → β → Prop} : ∀ {l : List α} {m : List β} {j : Nat} {y : β}, Paired F l m → m[j]? = some y → ∃ x, l[j]? = some x ∧ F x y
  | _, _, _, _, .nil, e => by simp at e
  | _, _, 0, _, .cons r _, e => by simp at e; subst e; exact ⟨_, rfl, r⟩
  | _, _, j + 1, y, .cons _ t, e => by
    obtain ⟨x, h1, h2⟩ := paired_at (j := j) (y := y) t (by simpa using e)
    exact ⟨x, by simpa using h1, h2⟩

section
variable {K : PySem.W.Frag} {M : Addr → Prop} {σ : St} {r as' out : Rho} {H H' : Hp} {vs : List V} {avs : List AV}
def Psd (σ : St) (avs : List AV) (p : Addr) : Prop := ∃ i ∈ slots avs, σ[i]? = some (some (.ref p))
def Mc (M : Addr → Prop) (σ : St) (r : Rho) (avs : List AV) (p : Addr) : Prop := M p ∨ (Own σ r p ∧ ¬ Psd σ avs p)
abbrev st_ (vs : List V) : St := vs.map some
theorem st_at {vs : List V} {j : Nat} {v : V} (h : vs[j]? = some v) : (st_ vs)[j]? = some (some v) := by simp [st_, h]
theorem at_st {vs : List V} {j : Nat} {v : V} (h : (st_ vs)[j]? = some (some v)) : vs[j]? = some v := by simpa [st_] using h
theorem own_mk (hv : Paired (RA0 K M σ r H) vs avs) (hm : mk avs r = some as') {p : Addr} (h : Own (st_ vs) as' p) : Own σ r p ∧ Psd σ avs p := by
  obtain ⟨j, b, o, h1, h2⟩ := h
  rcases mk_at hm h1 with ⟨x, e1, e2⟩ | ⟨i, b', o', e1, e2, e3⟩
  · cases e2
  · obtain ⟨v, v1, v2⟩ := paired_at hv e1
    have v2 : σ[i]? = some (some v) := v2
    rw [at_st h2] at v1
    cases v1
    exact ⟨⟨i, b', o', e2, v2⟩, i, slot_mem e1, v2⟩
theorem mu_mk (hv : Paired (RA0 K M σ r H) vs avs) (hm : mk avs r = some as') {p : Addr} (h : Mu (Mc M σ r avs) (st_ vs) as' p) : Mu M σ r p := by
  rcases h with (h | h) | h
  · exact .inl h
  · exact .inr h.1
  · exact .inr (own_mk hv hm h).1
theorem rel_mk (R : Rel K M σ H r) (hn : (slots avs).Nodup) (hv : Paired (RA0 K M σ r H) vs avs) (hm : mk avs r = some as') : Rel K (Mc M σ r avs) (st_ vs) H as' where
  len := by rw [mk_len hm, ← Paired.length hv]; simp [st_]
  live := fun p h => h.elim (R.live p) fun h => R.olive h.1
  fz := fun j d e => by
    rcases mk_at hm e with ⟨x, e1, e2⟩ | ⟨i, b', o', e1, e2, e3⟩
    · cases e2
      obtain ⟨v, v1, v2⟩ := paired_at hv e1
      exact ⟨v, st_at v1, dd_mono (rs_le fun p => mu_mk hv hm) _ _ v2⟩
    · cases e3
  ow := fun j b o e => by
    rcases mk_at hm e with ⟨x, e1, e2⟩ | ⟨i, b', o', e1, e2, e3⟩
    · cases e2
    · cases e3
      obtain ⟨v, v1, v2⟩ := paired_at hv e1
      have v2 : σ[i]? = some (some v) := v2
      obtain ⟨p, h1, h2, h3⟩ := R.ow i _ _ e2
      rw [v2] at h1
      cases h1
      exact ⟨p, st_at v1, fun z => z.elim h2 fun z => z.2 ⟨i, slot_mem e1, v2⟩, h3.mono (rs_le fun p => mu_mk hv hm) rfl⟩
  inj := fun j k b o b' o' p h1 h2 h3 h4 => by
    rcases mk_at hm h1 with ⟨x, e1, e2⟩ | ⟨i1, b1, o1, e1, e2, e3⟩
    · cases e2
    rcases mk_at hm h2 with ⟨x, f1, f2⟩ | ⟨i2, b2, o2, f1, f2, f3⟩
    · cases f2
    obtain ⟨v, v1, v2⟩ := paired_at hv e1
    obtain ⟨u, u1, u2⟩ := paired_at hv f1
    have v2 : σ[i1]? = some (some v) := v2
    have u2 : σ[i2]? = some (some u) := u2
    rw [at_st h3] at v1
    rw [at_st h4] at u1
    cases v1
    cases u1
    have e := R.inj i1 i2 _ _ _ _ p e2 f2 v2 u2
    subst e
    exact slot_inj hn e1 f1
/-- behind the call -/
theorem rel_put (R : Rel K M σ H r) (hn : (slots avs).Nodup) (hv : Paired (RA0 K M σ r H) vs avs) (hm : mk avs r = some as') (g : Go (st_ vs) as' H (st_ vs) out H') (R' : Rel K (Mc M σ r avs) (st_ vs) H' out) :
    Go σ r H σ (put avs out r) H' ∧ Rel K M σ H' (put avs out r) ∧ Same (rs (Mu (Mc M σ r avs) (st_ vs) out) H') (rs (Mu M σ (put avs out r)) H') := by
  -- a slot behind the call
  have cs : ∀ (k : Nat) (s : Sl), (put avs out r)[k]? = some s → (k ∉ slots avs ∧ r[k]? = some s) ∨ (s = Sl.un) ∨ ∃ (j : Nat) (b : Bool) (o o' : Ob), avs[j]? = some (AV.s k) ∧ out[j]? = some (Sl.ow true o') ∧ r[k]? = some (Sl.ow b o) ∧ s = Sl.ow b o' := fun k s e => by
    by_cases hk : k ∈ slots avs
    · obtain ⟨j, b, o, h1, h2, h3⟩ := mk_slot hm hk
      rcases put_in hn h1 e with z | ⟨b', o1, o', z1, z2, z3⟩
      · exact .inr (.inl z)
      · exact .inr (.inr ⟨j, b', o1, o', h1, z1, z2, z3⟩)
    · rw [put_out hk] at e
      exact .inl ⟨hk, e⟩
  have va : ∀ {j k : Nat} {p : Addr}, avs[j]? = some (AV.s k) → σ[k]? = some (some (V.ref p)) → (st_ vs)[j]? = some (some (V.ref p)) := fun {j k p} h1 h2 => by
    obtain ⟨v, v1, v2⟩ := paired_at hv h1
    have v2 : σ[k]? = some (some v) := v2
    rw [h2] at v2
    cases v2
    exact st_at v1
  have npsd : ∀ {k : Nat} {b : Bool} {o : Ob} {p : Addr}, k ∉ slots avs → r[k]? = some (Sl.ow b o) → σ[k]? = some (some (V.ref p)) → ¬ Psd σ avs p := fun {k b o p} hk h1 h2 ⟨i, hi, h3⟩ => by
    obtain ⟨j, b', o', z1, z2, z3⟩ := mk_slot hm hi
    have := R.inj i k _ _ _ _ p z2 h1 h3 h2
    subst this
    exact hk hi
  have ow : ∀ {p}, Own σ (put avs out r) p → Own σ r p ∧ Mu (Mc M σ r avs) (st_ vs) out p := fun {p} ⟨k, b, o, h1, h2⟩ => by
    rcases cs k _ h1 with ⟨hk, e⟩ | z | ⟨j, b', o1, o', e1, e2, e3, e4⟩
    · exact ⟨⟨k, b, o, e, h2⟩, .inl (.inr ⟨⟨k, b, o, e, h2⟩, npsd hk e h2⟩)⟩
    · cases z
    · exact ⟨⟨k, b', o1, e3, h2⟩, .inr ⟨j, true, o', e2, va e1 h2⟩⟩
  have le : ∀ p, Mu M σ (put avs out r) p → Mu (Mc M σ r avs) (st_ vs) out p := fun p z => z.elim (fun z => .inl (.inl z)) fun z => (ow z).2
  have sm : Same (rs (Mu (Mc M σ r avs) (st_ vs) out) H') (rs (Mu M σ (put avs out r)) H') := rs_le le
  have sm0 : Same (rs (Mu M σ r) H) (rs (Mu M σ (put avs out r)) H') := fun q u e => sm q u (g.same (M := Mc M σ r avs) q u (rs_le (fun p => mu_mk hv hm) q u e))
  refine ⟨⟨fun p o h n => g.keep p o h fun z => n (own_mk hv hm z).1, fun p h => .inl (ow h).1, fun k o' h => ?_, g.live⟩, ⟨by rw [put_len, R.len], fun p h => ?_, fun k d h => ?_, fun k b o h => ?_, fun k l b o b' o' p h1 h2 h3 h4 => ?_⟩, sm⟩
  · rcases cs k _ h with ⟨hk, e⟩ | z | ⟨j, b', o1, o2, e1, e2, e3, e4⟩
    · exact ⟨⟨o', e⟩, rfl⟩
    · cases z
    · cases e4
      exact ⟨⟨o1, e3⟩, rfl⟩
  · obtain ⟨o, e⟩ := R.live p h
    exact g.live p o e
  · rcases cs k _ h with ⟨hk, e⟩ | z | ⟨j, b', o1, o', e1, e2, e3, e4⟩
    · obtain ⟨v, h1, h2⟩ := R.fz k d e
      exact ⟨v, h1, dd_mono sm0 _ _ h2⟩
    · cases z
    · cases e4
  · rcases cs k _ h with ⟨hk, e⟩ | z | ⟨j, b', o1, o', e1, e2, e3, e4⟩
    · obtain ⟨p, h1, h2, h3⟩ := R.ow k b o e
      obtain ⟨u, hu⟩ := h3.live
      refine ⟨p, h1, h2, h3.mono sm0 ?_⟩
      rw [hu, g.keep p u hu fun z => npsd hk e h1 (own_mk hv hm z).2]
    · cases z
    · cases e4
      obtain ⟨p, h1, h2, h3⟩ := R'.ow j _ _ e2
      obtain ⟨a, g1, _⟩ := R.ow k _ _ e3
      have := va e1 g1
      rw [h1] at this
      cases this
      exact ⟨p, g1, fun z => h2 (.inl z), h3.mono sm rfl⟩
  · have own : ∀ {k : Nat} {b : Bool} {o : Ob}, (put avs out r)[k]? = some (Sl.ow b o) → ∃ (b : Bool) (o : Ob), r[k]? = some (Sl.ow b o) := fun {k b o} h => by
      rcases cs k _ h with ⟨hk, e⟩ | z | ⟨j, b', o1, o', e1, e2, e3, e4⟩
      · exact ⟨_, _, e⟩
      · cases z
      · exact ⟨_, _, e3⟩
    obtain ⟨b1, o1, e1⟩ := own h1
    obtain ⟨b2, o2, e2⟩ := own h2
    exact R.inj k l _ _ _ _ p e1 e2 h3 h4
end

/-! ### calls of defs -/
def callR (F : Rho → Res D) (avs : List AV) (r : Rho) : Res D := if (slots avs).Nodup then match mk avs r with
    | none => .no
    | some as => match F as with
      | .ok d out => .ok d (put avs out r)
      | .er c out => .er c (put avs out r)
      | .no => .no
  else .no
def callE (F : Rho → Res D) (as : List AE) : Ev D := fun ρ => (argsE as ρ).bind fun avs r => callR F avs r
/-- a def's promise: it hands back what F says -/
def spF (K : PySem.W.Frag) (cl : Cl) (n : Nat) (F : Rho → Res D) : Sp := fun vs H Q E => vs.length = n ∧ ∃ M as, Rel K M (st_ vs) H as ∧ Pst K cl (fun cls dd _ H => E cls dd H) (RD K) M (st_ vs) as H (F as) Q
section
variable {X : Cx} {cl : Cl} {W : WX} {k : Nat} {f : Addr} {fd : FuncData} {ps : List Str} {x : Str} {p pos : Pos} {e : Expr} {es : List Expr} {as : List AE} {F : Rho → Res D}
theorem d_call (tk : Takes X W) (G : FnOk X.prog X.w X.K X.mg X.base (L2.CX X.prog X.w) k f fd ps (spF X.K cl ps.length F)) (hr : Room k X.A) (hg : Gl X x) (hm : X.mg x = some (.ref f)) (hk : PySem.W.keepIn X.K (.ref f) = true) (hb : Binds X.K fd ps [])
    (ha : PA X (e :: es) (tAs X.K cl W as)) (hl : as.length = ps.length := by rfl) (hdb : (x == ("__debug__" : Str)) = false := by decide) (he : starEach (e :: es) X.env = (false, eval e X.env) :: starEach es X.env := by rfl) (hpl : (backTo pos (starEach es X.env)).any (·.1) = false := by rfl) :
    PE X (.Call (.Name x p) (e :: es) [] pos) (tE X.K cl W (callE F as)) := by
  refine PE.weak (pe_callS (E := WE W) G hr hg hm hk hb (fun σ => passAt tk σ) ha hdb he hpl) ?_
  rintro σ H Q ⟨M, ρ, R, q⟩
  refine tG_bind R q fun vs avs ρ1 H1 ea g1 R1 q1 p1 => ?_
  have q1 : Paired (RA0 X.K M σ ρ1 H1) vs avs := q1
  have lz : ∀ {as : List AE} {ρ ρ1 : Rho} {avs : List AV}, argsE as ρ = .ok avs ρ1 → avs.length = as.length := by
    intro as
    induction as with
    | nil => intro ρ ρ1 avs h; cases h; rfl
    | cons a as ih =>
      intro ρ ρ1 avs h
      unfold argsE at h
      cases h1 : argE a ρ with
      | ok x r =>
        rw [h1] at h
        simp only [Res.bind_ok] at h
        cases h2 : argsE as r with
        | ok xs r2 =>
          rw [h2] at h
          cases h
          simp [ih h2]
        | er c r2 => rw [h2] at h; cases h
        | no => rw [h2] at h; cases h
      | er c r => rw [h1] at h; cases h
      | no => rw [h1] at h; cases h
  unfold callR at p1
  split at p1
  · rename_i hn
    split at p1
    · exact p1.elim
    · rename_i as' hm'
      refine ⟨by rw [Paired.length q1, lz ea, hl], Mc M σ ρ1 avs, as', rel_mk R1 hn q1 hm', ?_⟩
      cases eF : F as' with
      | ok d out =>
        rw [eF] at p1
        intro v H2 g2 R2 hv
        obtain ⟨z1, z2, z3⟩ := rel_put R1 hn q1 hm' g2 R2
        exact p1 v H2 z1 z2 (dd_mono z3 _ _ hv)
      | er c out =>
        rw [eF] at p1
        intro cls dd H2 hc g2 R2
        obtain ⟨z1, z2, z3⟩ := rel_put R1 hn q1 hm' g2 R2
        exact p1 cls dd H2 hc z1 z2
      | no => rw [eF] at p1; exact p1.elim
  · exact p1.elim
end

/-! ### a def by its body -/
@[simp] def keepO : Sl → Sl → Sl
  | .ow true _, .ow true o => .ow true o
  | _, _ => .un
@[simp] def outOf : Rho → Rho → Rho
  | a :: as, b :: r => keepO a b :: outOf as r
  | _ :: as, [] => .un :: outOf as []
  | [], _ => []
theorem outOf_len : ∀ {as r : Rho}, (outOf as r).length = as.length
  | [], _ => by unfold outOf; rfl
  | a :: as, [] => by
    unfold outOf
    simp [outOf_len (as := as) (r := [])]
  | a :: as, s :: r => by
    unfold outOf
    simp [outOf_len (as := as) (r := r)]
theorem keepO_at {a b s : Sl} (h : keepO a b = s) : s = Sl.un ∨ ∃ (o o' : Ob), a = Sl.ow true o ∧ b = Sl.ow true o' ∧ s = Sl.ow true o' := by
  unfold keepO at h
  split at h
  · exact .inr ⟨_, _, rfl, rfl, h.symm⟩
  · exact .inl h.symm
theorem outOf_at : ∀ {as r : Rho} {j : Nat} {s : Sl}, (outOf as r)[j]? = some s → s = Sl.un ∨ ∃ (o o' : Ob), as[j]? = some (Sl.ow true o) ∧ r[j]? = some (Sl.ow true o') ∧ s = Sl.ow true o'
  | [], r, j, s, h => by unfold outOf at h; simp at h
  | a :: as, [], 0, s, h => by unfold outOf at h; simp at h; exact .inl h.symm
  | a :: as, [], j + 1, s, h => by
    unfold outOf at h
    rcases outOf_at (as := as) (r := []) (j := j) (by simpa using h) with z | ⟨o, o', h1, h2, h3⟩
    · exact .inl z
    · simp at h2
  | a :: as, b :: r, 0, s, h => by
    unfold outOf at h
    rcases keepO_at (a := a) (b := b) (s := s) (by simpa using h) with z | ⟨o, o', h1, h2, h3⟩
    · exact .inl z
    · exact .inr ⟨o, o', by simp [h1], by simp [h2], h3⟩
  | a :: as, b :: r, j + 1, s, h => by
    unfold outOf at h
    rcases outOf_at (as := as) (r := r) (j := j) (by simpa using h) with z | ⟨o, o', h1, h2, h3⟩
    · exact .inl z
    · exact .inr ⟨o, o', by simpa using h1, by simpa using h2, h3⟩
/-- what a body with n names hands back for its arguments -/
def bodyF (n : Nat) (g : Ev Fl) (as : Rho) : Res D := match g (as ++ List.replicate (n - as.length) .un) with
  | .ok (.rt d) r => .ok d (outOf as r)
  | .ok .nx r => .ok .none (outOf as r)
  | .er c r => .er c (outOf as r)
  | _ => .no
section
variable {K : PySem.W.Frag} {M : Addr → Prop} {σ' : St} {as r : Rho} {H H' : Hp} {vs : List V} {n : Nat}
theorem start_at {N : List Str} {i : Nat} (h : i < vs.length) : (L2.start N vs)[i]? = (st_ vs)[i]? := by
  unfold L2.start
  rw [List.getElem?_append_left (by simpa using h)]
theorem as_at {i : Nat} {s : Sl} (hs : s ≠ .un) (h : (as ++ List.replicate n Sl.un)[i]? = some s) : as[i]? = some s := by
  by_cases hi : i < as.length
  · rw [List.getElem?_append_left hi] at h; exact h
  · rw [List.getElem?_append_right (by omega), List.getElem?_replicate] at h
    split at h
    · exact absurd (Option.some.inj h).symm hs
    · cases h
theorem own_start {N : List Str} (R : Rel K M (st_ vs) H as) {p : Addr} : Own (L2.start N vs) (as ++ List.replicate n Sl.un) p ↔ Own (st_ vs) as p := by
  have hl := R.len
  constructor
  · rintro ⟨i, b, o, h1, h2⟩
    have h1 := as_at (by intro z; cases z) h1
    have hi := (List.getElem?_eq_some_iff.mp h1).1
    exact ⟨i, b, o, h1, by rw [← start_at (N := N) (by simp [st_] at hl; omega)]; exact h2⟩
  · rintro ⟨i, b, o, h1, h2⟩
    have hi := (List.getElem?_eq_some_iff.mp h1).1
    exact ⟨i, b, o, by rw [List.getElem?_append_left hi]; exact h1, by rw [start_at (by simp [st_] at hl; omega)]; exact h2⟩
theorem rel_start {N : List Str} (R : Rel K M (st_ vs) H as) (hn : n = N.length - vs.length) (hN : vs.length ≤ N.length) : Rel K M (L2.start N vs) H (as ++ List.replicate n Sl.un) := by
  have hl := R.len
  have hv : as.length = vs.length := by simp [st_] at hl; omega
  have le : ∀ p, Mu M (L2.start N vs) (as ++ List.replicate n Sl.un) p → Mu M (st_ vs) as p := fun p z => z.elim .inl fun z => .inr ((own_start R).mp z)
  refine ⟨by unfold L2.start; simp; omega, R.live, fun i d e => ?_, fun i b o e => ?_, fun i j b o b' o' p h1 h2 h3 h4 => ?_⟩
  · have e := as_at (by intro z; cases z) e
    have hi := (List.getElem?_eq_some_iff.mp e).1
    obtain ⟨v, h1, h2⟩ := R.fz i d e
    exact ⟨v, by rw [start_at (by omega)]; exact h1, dd_mono (rs_le le) _ _ h2⟩
  · have e := as_at (by intro z; cases z) e
    have hi := (List.getElem?_eq_some_iff.mp e).1
    obtain ⟨p, h1, h2, h3⟩ := R.ow i b o e
    exact ⟨p, by rw [start_at (by omega)]; exact h1, h2, h3.mono (rs_le le) rfl⟩
  · have h1 := as_at (by intro z; cases z) h1
    have h2 := as_at (by intro z; cases z) h2
    have i1 := (List.getElem?_eq_some_iff.mp h1).1
    have i2 := (List.getElem?_eq_some_iff.mp h2).1
    rw [start_at (by omega)] at h3 h4
    exact R.inj i j _ _ _ _ p h1 h2 h3 h4
theorem rel_out {N : List Str} (R : Rel K M (st_ vs) H as) (g : Go (L2.start N vs) (as ++ List.replicate n Sl.un) H σ' r H') (R' : Rel K M σ' H' r) :
    Go (st_ vs) as H (st_ vs) (outOf as r) H' ∧ Rel K M (st_ vs) H' (outOf as r) ∧ Same (rs (Mu M σ' r) H') (rs (Mu M (st_ vs) (outOf as r)) H') := by
  have hl := R.len
  have hv : as.length = vs.length := by simp [st_] at hl; omega
  -- a slot that comes back stands where it stood
  have at_ : ∀ {j : Nat} {o o' : Ob}, as[j]? = some (Sl.ow true o) → r[j]? = some (Sl.ow true o') → σ'[j]? = (st_ vs)[j]? := fun {j o o'} h1 h2 => by
    have hj := (List.getElem?_eq_some_iff.mp h1).1
    rw [← start_at (N := N) (by omega)]
    exact (g.io j o' h2).2
  have ow : ∀ {p}, Own (st_ vs) (outOf as r) p → Own (st_ vs) as p ∧ Own σ' r p := fun {p} ⟨j, b, o, h1, h2⟩ => by
    rcases outOf_at h1 with z | ⟨o1, o2, e1, e2, e3⟩
    · cases z
    · exact ⟨⟨j, _, _, e1, h2⟩, j, _, _, e2, by rw [at_ e1 e2]; exact h2⟩
  have le : ∀ p, Mu M (st_ vs) (outOf as r) p → Mu M σ' r p := fun p z => z.elim .inl fun z => .inr (ow z).2
  refine ⟨⟨fun p o h z => g.keep p o h fun y => z ((own_start R).mp y), fun p h => .inl (ow h).1, fun j o' h => ?_, g.live⟩, ⟨by rw [outOf_len, hl], fun p h => ?_, fun j d h => ?_, fun j b o h => ?_, fun j k b o b' o' p h1 h2 h3 h4 => ?_⟩, rs_le le⟩
  · rcases outOf_at h with z | ⟨o1, o2, e1, e2, e3⟩
    · cases z
    · exact ⟨⟨o1, e1⟩, rfl⟩
  · exact R'.live p h
  · rcases outOf_at h with z | ⟨o1, o2, e1, e2, e3⟩
    · cases z
    · cases e3
  · rcases outOf_at h with z | ⟨o1, o2, e1, e2, e3⟩
    · cases z
    · cases e3
      obtain ⟨p, h1, h2, h3⟩ := R'.ow j _ _ e2
      exact ⟨p, by rw [← at_ e1 e2]; exact h1, h2, h3.mono (rs_le le) rfl⟩
  · rcases outOf_at h1 with z | ⟨o1, o2, e1, e2, e3⟩
    · cases z
    rcases outOf_at h2 with z | ⟨p1, p2, f1, f2, f3⟩
    · cases z
    exact R'.inj j k _ _ _ _ p e2 f2 (by rw [at_ e1 e2]; exact h3) (by rw [at_ f1 f2]; exact h4)
end
section
variable {P : Program} {w : World} {K : PySem.W.Frag} {mg : Str → Option Value} {base : Heap}
abbrev bx (P : Program) (w : World) (K : PySem.W.Frag) (mg : Str → Option Value) (base : Heap) (N : List Str) (qual : Str) (st : Stmt) (f : Addr) (cdv : Value) (A : Around) (outer : List Env) (s : Shared) (H : Hp) (E : XK) : Cx :=
  cxOf (L2.CX P w) P w K mg base N qual (defScope st) f cdv A outer s H E
abbrev WF (E : XK) : WX := fun cls dd _ H => E cls dd H
theorem def_ok {x qual : Str} {st : Stmt} {f : Addr} {fd : FuncData} {N ps : List Str} {k : Nat} {cl : Cl} {g : Ev Fl} (F : Fun K x qual st f fd) (S : FnScope N ps (defScope st)) (hN : ps.length ≤ N.length)
    (hbody : ∀ (cdv : Value) (A : Around) (outer : List Env) (s : Shared) (H : Hp) (E : XK), Room k (A.deeper (PyProof.Rows.envOfC qual (defScope st) s.heap.objs.size f cdv)) →
      PSs (bx P w K mg base N qual st f cdv A outer s H E) (defBody st) (tS K cl (WF E) g)) : FnOk P w K mg base (L2.CX P w) (k + 1) f fd ps (spF K cl ps.length (bodyF N.length g)) := by
  refine F.okX S (fun vs H Q E h => h.1) (fun cdv A outer s H vs Q E hr h => ⟨_, hbody cdv A outer s H E hr, ?_⟩)
  obtain ⟨hl, M, as, R, p⟩ := h
  have hv : as.length = vs.length := by have := R.len; simp [st_] at this; omega
  refine ⟨M, as ++ List.replicate (N.length - as.length) .un, rel_start R (by omega) (by omega), ?_⟩
  unfold bodyF at p
  cases e : g (as ++ List.replicate (N.length - as.length) .un) with
  | ok f r =>
    rw [e] at p
    cases f with
    | nx =>
      intro σ' H' g1 R1
      obtain ⟨z1, z2, z3⟩ := rel_out R g1 R1
      exact p .non H' z1 z2 .non
    | rt d =>
      intro v σ' H' g1 R1 hd
      obtain ⟨z1, z2, z3⟩ := rel_out R g1 R1
      exact p v H' z1 z2 (dd_mono z3 _ _ hd)
    | bk => exact p.elim
    | ct => exact p.elim
  | er c r =>
    rw [e] at p
    intro cls dd σ' H' hc g1 R1
    obtain ⟨z1, z2, z3⟩ := rel_out R g1 R1
    exact p cls dd H' hc z1 z2
  | no => rw [e] at p; exact p
theorem def_no {f : Addr} {fd : FuncData} {ps : List Str} {k : Nat} {cl : Cl} : FnOk P w K mg base (L2.CX P w) k f fd ps (spF K cl ps.length fun _ => .no) :=
  ⟨fun vs H Q E h => h.1, fun A outer s H args us vs Q E hr e0 hb hv h => by obtain ⟨_, M, as, _, z⟩ := h; exact z.elim⟩
end
end DL
end
section
set_option Elab.async false
set_option linter.all false
set_option maxRecDepth 100000
set_option autoImplicit false
namespace DL
open PySem PySem.Spec L2

/-! ### comprehensions -/
/-- the slots of the block's own names forgotten -/
def wipeR (ρ : Rho) : List Nat → Rho
  | [] => ρ
  | v :: vs => (wipeR ρ vs).set v .un
theorem wipeR_len (ρ : Rho) : ∀ vs : List Nat, (wipeR ρ vs).length = ρ.length
  | [] => rfl
  | v :: vs => by unfold wipeR; rw [List.length_set, wipeR_len ρ vs]
theorem wipeR_at {ρ : Rho} {i : Nat} {s : Sl} (hs : s ≠ .un) : ∀ {vs : List Nat}, (wipeR ρ vs)[i]? = some s → ρ[i]? = some s ∧ i ∉ vs
  | [], h => ⟨h, by simp⟩
  | v :: vs, h => by
    unfold wipeR at h
    by_cases hi : v = i
    · subst hi
      by_cases hv : v < (wipeR ρ vs).length
      · rw [List.getElem?_set_self hv] at h
        exact absurd (Option.some.inj h).symm hs
      · rw [List.getElem?_eq_none (by simpa using hv)] at h; cases h
    · rw [List.getElem?_set_ne hi] at h
      obtain ⟨h1, h2⟩ := wipeR_at hs h
      exact ⟨h1, by simp only [List.mem_cons, not_or]; exact ⟨fun e => hi e.symm, h2⟩⟩
theorem wipeR_ne {ρ : Rho} {i : Nat} : ∀ {vs : List Nat}, i ∉ vs → (wipeR ρ vs)[i]? = ρ[i]?
  | [], _ => rfl
  | v :: vs, h => by
    simp only [List.mem_cons, not_or] at h
    unfold wipeR
    rw [List.getElem?_set_ne (Ne.symm h.1)]
    exact wipeR_ne h.2
def Wp (ρ : Rho) (vs : List Nat) : Prop := ∀ i s, ρ[i]? = some s → s ≠ Sl.un → i ∉ vs
theorem wp_wipe (ρ : Rho) (vs : List Nat) : Wp (wipeR ρ vs) vs := fun i s h hs => (wipeR_at hs h).2
theorem wipe_eq {σ σ2 : St} {vs : List Nat} (hl : σ2.length = σ.length) (h : ∀ j, j ∉ vs → σ2[j]? = σ[j]?) : wipe σ2 vs = wipe σ vs := by
  induction vs generalizing σ σ2 with
  | nil => exact List.ext_getElem? fun j => h j (by simp)
  | cons v vs ih =>
    unfold wipe
    refine List.ext_getElem? fun j => ?_
    by_cases e : v = j
    · subst e
      by_cases hv : v < σ.length
      · rw [List.getElem?_set_self (by rw [wipe_length]; omega), List.getElem?_set_self (by rw [wipe_length]; omega)]
      · rw [List.getElem?_eq_none (by rw [List.length_set, wipe_length]; omega), List.getElem?_eq_none (by rw [List.length_set, wipe_length]; omega)]
    · rw [List.getElem?_set_ne e, List.getElem?_set_ne e]
      by_cases hj : j ∈ vs
      · have z : ∀ (τ : St), τ.length = σ.length → ∀ us : List Nat, j ∈ us → (wipe τ us)[j]? = if j < σ.length then some none else none := by
          intro τ ht us hu
          induction us with
          | nil => simp at hu
          | cons u us ihu =>
            unfold wipe
            by_cases eu : u = j
            · subst eu
              by_cases hjl : u < σ.length
              · rw [List.getElem?_set_self (by rw [wipe_length]; omega), if_pos hjl]
              · rw [List.getElem?_eq_none (by rw [List.length_set, wipe_length]; omega), if_neg hjl]
            · rw [List.getElem?_set_ne eu]
              exact ihu (by simpa [Ne.symm eu] using hu)
        rw [z σ2 hl vs hj, z σ rfl vs hj]
      · rw [wipe_out hj, wipe_out hj]
        exact h j (by simp [hj, Ne.symm e])
theorem wipe_ne {σ : St} {vs : List Nat} {j : Nat} (h : j ∉ vs) : (wipe σ vs)[j]? = σ[j]? := wipe_out h
section
variable {K : PySem.W.Frag} {M : Addr → Prop} {σ σ2 : St} {ρ ρ0 ρ2 : Rho} {H H0 H2 : Hp} {vs : List Nat}
/-- the slots of other names alike -/
def Alk (vs : List Nat) (σ σ2 : St) : Prop := σ2.length = σ.length ∧ ∀ j, j ∉ vs → σ2[j]? = σ[j]?
theorem Alk.wipe (σ : St) (vs : List Nat) : Alk vs σ (wipe σ vs) := ⟨wipe_length σ vs, fun j h => wipe_ne h⟩
theorem own_alk (a : Alk vs σ σ2) (w : Wp ρ vs) {p : Addr} : Own σ2 ρ p ↔ Own σ ρ p := by
  constructor
  · rintro ⟨i, b, o, h1, h2⟩
    exact ⟨i, b, o, h1, by rw [← a.2 i (w i _ h1 (by intro z; cases z))]; exact h2⟩
  · rintro ⟨i, b, o, h1, h2⟩
    exact ⟨i, b, o, h1, by rw [a.2 i (w i _ h1 (by intro z; cases z))]; exact h2⟩
theorem mu_alk (a : Alk vs σ σ2) (w : Wp ρ vs) : (Mu M σ2 ρ) = (Mu M σ ρ) := by
  funext p
  exact propext ⟨fun z => z.elim .inl fun z => .inr ((own_alk a w).mp z), fun z => z.elim .inl fun z => .inr ((own_alk a w).mpr z)⟩
/-- slots whose names are forgotten don't matter -/
theorem rel_alk (a : Alk vs σ σ2) (w : Wp ρ vs) (R : Rel K M σ2 H ρ) : Rel K M σ H ρ := by
  refine ⟨by rw [← a.1, R.len], R.live, fun i d e => ?_, fun i b o e => ?_, fun i j b o b' o' p h1 h2 h3 h4 => ?_⟩
  · obtain ⟨v, h1, h2⟩ := R.fz i d e
    rw [a.2 i (w i _ e (by intro z; cases z))] at h1
    rw [mu_alk a w] at h2
    exact ⟨v, h1, h2⟩
  · obtain ⟨p, h1, h2, h3⟩ := R.ow i b o e
    rw [a.2 i (w i _ e (by intro z; cases z))] at h1
    rw [mu_alk a w] at h3
    exact ⟨p, h1, h2, h3⟩
  · rw [← a.2 i (w i _ h1 (by intro z; cases z))] at h3
    rw [← a.2 j (w j _ h2 (by intro z; cases z))] at h4
    exact R.inj i j _ _ _ _ p h1 h2 h3 h4
theorem Alk.symm (a : Alk vs σ σ2) : Alk vs σ2 σ := ⟨a.1.symm, fun j h => (a.2 j h).symm⟩
theorem Alk.trans {σ3 : St} (a : Alk vs σ σ2) (b : Alk vs σ2 σ3) : Alk vs σ σ3 := ⟨b.1.trans a.1, fun j h => (b.2 j h).trans (a.2 j h)⟩
theorem own_wipe {p : Addr} (h : Own σ (wipeR ρ vs) p) : Own σ ρ p := by
  obtain ⟨i, b, o, h1, h2⟩ := h
  exact ⟨i, b, o, (wipeR_at (by intro z; cases z) h1).1, h2⟩
theorem rel_wipe (R : Rel K M σ H ρ) : Rel K M σ H (wipeR ρ vs) := by
  have le : ∀ p, Mu M σ (wipeR ρ vs) p → Mu M σ ρ p := fun p z => z.elim .inl fun z => .inr (own_wipe z)
  refine ⟨by rw [wipeR_len, R.len], R.live, fun i d e => ?_, fun i b o e => ?_, fun i j b o b' o' p h1 h2 h3 h4 => ?_⟩
  · obtain ⟨v, h1, h2⟩ := R.fz i d (wipeR_at (by intro z; cases z) e).1
    exact ⟨v, h1, dd_mono (rs_le le) _ _ h2⟩
  · obtain ⟨p, h1, h2, h3⟩ := R.ow i b o (wipeR_at (by intro z; cases z) e).1
    exact ⟨p, h1, h2, h3.mono (rs_le le) rfl⟩
  · exact R.inj i j _ _ _ _ p (wipeR_at (by intro z; cases z) h1).1 (wipeR_at (by intro z; cases z) h2).1 h3 h4
theorem go_wipe : Go σ ρ H σ (wipeR ρ vs) H := ⟨fun _ _ h _ => h, fun p h => .inl (own_wipe h), fun i o h => ⟨⟨o, (wipeR_at (by intro z; cases z) h).1⟩, rfl⟩, fun _ o h => ⟨o, h⟩⟩
/-- from within the block -/
theorem go_alk (a : Alk vs σ σ2) (w : Wp ρ vs) (w2 : Wp ρ2 vs) (g : Go σ2 ρ H σ2 ρ2 H2) : Go σ ρ H σ ρ2 H2 :=
  ⟨fun p o h n => g.keep p o h fun z => n ((own_alk a w).mp z), fun p h => (g.own p ((own_alk a w2).mpr h)).imp (own_alk a w).mp id, fun i o h => ⟨(g.io i o h).1, rfl⟩, g.live⟩
/-- .. and what the block's store did -/
theorem go_in (a : Alk vs σ (wipe σ vs)) (w : Wp ρ vs) (g : Go (wipe σ vs) ρ H σ2 ρ2 H2) (a2 : Alk vs σ σ2) : Go σ ρ H σ2 ρ2 H2 :=
  ⟨fun p o h n => g.keep p o h fun z => n ((own_alk a w).mp z), fun p h => (g.own p h).imp (own_alk a w).mp id, fun i o h => by
    obtain ⟨⟨o1, h1⟩, h2⟩ := g.io i o h
    exact ⟨⟨o1, h1⟩, by rw [h2]; exact a.2 i (w i _ h1 (by intro z; cases z))⟩, g.live⟩
theorem go_out (g : Go σ ρ H σ2 ρ2 H2) (a2 : Alk vs σ σ2) : Go σ ρ H σ (wipeR ρ2 vs) H2 :=
  ⟨g.keep, fun p h => by
    obtain ⟨i, b, o, h1, h2⟩ := h
    obtain ⟨h3, h4⟩ := wipeR_at (by intro z; cases z) h1
    exact g.own p ⟨i, b, o, h3, by rw [a2.2 i h4]; exact h2⟩, fun i o h => ⟨(g.io i o (wipeR_at (by intro z; cases z) h).1).1, rfl⟩, g.live⟩
/-- a write to what the things changed hold -/
theorem rel_upd {D : Addr} {o : HO} (R : Rel K M σ H ρ) (hD : M D) : Rel K M σ (upd H D o) ρ ∧ rs (Mu M σ ρ) (upd H D o) = rs (Mu M σ ρ) H := by
  have e : rs (Mu M σ ρ) (upd H D o) = rs (Mu M σ ρ) H := by
    funext p
    unfold rs
    by_cases z : Mu M σ ρ p
    · rw [if_pos z, if_pos z]
    · rw [if_neg z, if_neg z, upd_ne]
      intro q
      subst q
      exact z (.inl hD)
  refine ⟨⟨R.len, fun p h => ?_, fun i d q => by rw [e]; exact R.fz i d q, fun i b ob q => ?_, R.inj⟩, e⟩
  · by_cases z : p = D
    · exact ⟨o, by rw [z, upd_same]⟩
    · rw [upd_ne z]; exact R.live p h
  · obtain ⟨p, h1, h2, h3⟩ := R.ow i b ob q
    have ne : p ≠ D := fun z => h2 (by rw [z]; exact hD)
    exact ⟨p, h1, h2, by rw [e]; exact h3.mono (Same.refl _) (upd_ne ne)⟩
end
def W0 : WX := fun _ _ _ _ => False
/-- nothing is raised in a block -/
def noEr {α : Type} : Res α → Res α
  | .er _ _ => .no
  | x => x
def lcLoop (t : Tg) (tt : Ev Bool) (te : Ev D) (vs : List Nat) : List D → Nat → Rho → Res (List D)
  | [], _, r => .ok [] r
  | d :: ds, n, r => match t.f d r with
    | none => .no
    | some r1 => (noEr (tt r1)).bind fun b r2 => if b = true then (noEr (te r2)).bind fun x r3 => if n < 16777216 then (lcLoop t tt te vs ds (n + 1) (wipeR r3 vs)).bind fun xs r4 => .ok (x :: xs) r4 else .no
      else lcLoop t tt te vs ds n (wipeR r2 vs)
def lcE (gi : Ev (List D)) (t : Tg) (tt : Ev Bool) (te : Ev D) (vs : List Nat) : Ev Ob := fun ρ => (gi ρ).bind fun ds r => (lcLoop t tt te vs ds 0 (wipeR r vs)).bind fun xs r2 => .ok (.ls xs) r2
def apR (acc : List D) (x : Res (List D)) : Res (List D) := x.bind fun xs r => .ok (acc ++ xs) r
theorem apR_nil (x : Res (List D)) : apR [] x = x := by cases x <;> rfl
theorem apR_cons (acc : List D) (y : D) (x : Res (List D)) : apR acc (x.bind fun xs r4 => .ok (y :: xs) r4) = apR (acc ++ [y]) x := by
  cases x with
  | ok xs r => simp [apR]
  | er c r => rfl
  | no => rfl
def yesT : Ev Bool := fun ρ => .ok true ρ
section
variable {K : PySem.W.Frag} {cl : Cl} {W : WX} {gi : Ev (List D)} {t : Tg} {tt : Ev Bool} {te : Ev D} {vs : List Nat}
theorem lc_w (hts : ∀ j, j ∈ t.ss → j ∈ vs) (σ : St) (H : Hp) (Q : VK) (h : tO K cl W (lcE gi t tt te vs) σ H Q) : tLc (tI K cl W gi) (gD K t) (tT K cl W0 tt) (tE K cl W0 te) vs σ H Q := by
  obtain ⟨M, ρ, R, p⟩ := h
  refine tG_bind R p fun J ds ρ1 H1 _ g1 R1 q1 p1 => ?_
  intro D hD
  have q1 : WalkD K J (rs (Mu M σ ρ1) H1) ds := q1
  have nM : ¬ M D := fun z => by obtain ⟨o, e⟩ := R1.live D z; rw [hD] at e; cases e
  generalize hL : lcLoop t tt te vs ds 0 (wipeR ρ1 vs) = LL at p1
  have s0 : Same H1 (upd H1 D (.lst [])) := fun q o e => by rw [upd_ne (ne_of_none e hD)]; exact e
  -- what holds ahead of turn i
  refine ⟨fun i m H' => m = ds.length - i ∧ i ≤ ds.length ∧ ∃ ρ' acc va, Wp ρ' vs ∧ Go σ ρ1 H1 σ ρ' H' ∧ Rel K (fun q => M q ∨ q = D) σ H' ρ' ∧ H' D = some (.lst va) ∧ DdAll K (rs (Mu (fun q => M q ∨ q = D) σ ρ') H') va acc ∧
      LL = apR acc (lcLoop t tt te vs (ds.drop i) acc.length ρ'), ⟨ds.length, by simp, Nat.zero_le _, wipeR ρ1 vs, [], [], wp_wipe _ _, ?_, ?_, upd_same, .nil, ?_⟩, ?_⟩
  · exact (go_wipe (vs := vs)).trans (Go.ext (rel_wipe R1) s0)
  · exact (rel_wipe R1).plus (o := .ls []) s0 hD ⟨_, upd_same⟩
  · rw [List.drop_zero, apR_nil]; exact hL.symm
  rintro i m H2 ⟨rfl, hi, ρ2, acc, va, w2, g2, R2, hacc, dacc, eL⟩
  -- what was frozen ahead of the loop
  have sm : Same (rs (Mu M σ ρ1) H1) (rs (Mu (fun q => M q ∨ q = D) σ ρ2) H2) := fun q o e => by
    have e2 := g2.same (M := M) q o e
    obtain ⟨z1, z2⟩ := rs_of e2
    refine rs_mk z1 fun z => ?_
    rcases z with (z | z) | z
    · exact z2 (.inl z)
    · obtain ⟨y1, _⟩ := rs_of e
      rw [z, hD] at y1; cases y1
    · exact z2 (.inr z)
  by_cases hlt : i < ds.length
  · have ed : ds[i]? = some ds[i] := List.getElem?_eq_getElem hlt
    obtain ⟨go, yl⟩ := q1.go i ds[i] H2 ed fun q o e => rs_sub _ _ _ _ (sm q o e)
    rw [List.drop_eq_getElem_cons hlt] at eL
    refine .inr ⟨go, fun H' => ∃ ρ' acc va, Wp ρ' vs ∧ Go σ ρ1 H1 σ ρ' H' ∧ Rel K (fun q => M q ∨ q = D) σ H' ρ' ∧ H' D = some (.lst va) ∧ DdAll K (rs (Mu (fun q => M q ∨ q = D) σ ρ') H') va acc ∧
      LL = apR acc (lcLoop t tt te vs (ds.drop (i + 1)) acc.length ρ'), fun H' z => ⟨ds.length - (i + 1), by omega, rfl, hlt, z⟩, fun x H3 y => ?_⟩
    obtain ⟨s3, hx⟩ := yl x H3 y
    have a0 := Alk.wipe σ vs
    have R3 : Rel K (fun q => M q ∨ q = D) (wipe σ vs) H3 ρ2 := rel_alk a0.symm w2 (R2.ext s3)
    have g3 : Go σ ρ2 H2 σ ρ2 H3 := Go.ext R2 s3
    have hx : Dd K (rs (Mu (fun q => M q ∨ q = D) (wipe σ vs) ρ2) H3) x ds[i] := by
      rw [mu_alk a0 w2]
      refine dd_mono (fun q o e => ?_) _ _ hx
      refine R2.ex_le s3 q o ?_
      unfold Ex at e ⊢
      cases z : H2 q with
      | none => rw [z] at e; exact e
      | some u => rw [z] at e; exact sm q o e
    unfold lcLoop at eL
    cases et : t.f ds[i] ρ2 with
    | none => rw [et] at eL; rw [eL] at p1; exact p1.elim
    | some ρ4 =>
      rw [et] at eL
      refine ⟨_, ρ2, ds[i], ρ4, R3, hx, et, fun σ4 g4 R4 h4 l4 => ?_⟩
      have a4 : Alk vs (wipe σ vs) σ4 := ⟨l4, fun j hj => h4 j fun z => hj (hts j z)⟩
      have a5 : Alk vs σ σ4 := a0.trans a4
      have G4 : Go σ ρ1 H1 σ4 ρ4 H3 := (g2.trans g3).trans (go_in a0 w2 g4 a5)
      refine ⟨by rw [wipe_eq a4.1 a4.2]; exact wipe_eq (wipe_length σ vs) fun j hj => wipe_ne hj, _, ρ4, R4, ?_⟩
      dsimp only at eL
      cases ett : tt ρ4 with
      | er c r => rw [ett] at eL; rw [eL] at p1; exact p1.elim
      | no => rw [ett] at eL; rw [eL] at p1; exact p1.elim
      | ok b ρ5 =>
        rw [ett] at eL
        intro b' H5 g5 R5 eb
        have eb : b' = b := eb
        subst eb
        have stay : H5 D = H3 D := by
          have e3 : H3 D = some (.lst va) := s3 _ _ hacc
          rw [e3]
          exact g5.keep D _ e3 fun z => by
            obtain ⟨k, b, o, z1, z2⟩ := z
            obtain ⟨q, y1, y2, _⟩ := R4.ow k b o z1
            rw [z2] at y1; cases y1
            exact y2 (.inr rfl)
        have e3 : H3 D = some (.lst va) := s3 _ _ hacc
        have G5 := G4.trans g5
        cases b' with
        | false =>
          rw [if_neg (by decide)]
          refine ⟨wipeR ρ5 vs, acc, va, wp_wipe _ _, go_out G5 a5, rel_alk a5 (wp_wipe _ _) (rel_wipe R5), by rw [stay, e3], ?_, eL⟩
          have z1 := ddAll_mono (fun q u e => ?_ : Same (rs (Mu (fun q => M q ∨ q = D) σ ρ2) H2) (rs (Mu (fun q => M q ∨ q = D) σ (wipeR ρ5 vs)) H5)) _ _ dacc
          exact z1
          have := ((g3.trans (go_in a0 w2 g4 a5)).trans g5)
          exact (go_out this a5).same (M := fun q => M q ∨ q = D) q u e
        | true =>
          rw [if_pos rfl]
          refine ⟨_, ρ5, R5, ?_⟩
          have eL : LL = apR acc ((noEr (te ρ5)).bind fun x r3 => if acc.length < 16777216 then (lcLoop t tt te vs (ds.drop (i + 1)) (acc.length + 1) (wipeR r3 vs)).bind fun xs r4 => .ok (x :: xs) r4 else .no) := eL
          cases ete : te ρ5 with
          | er c r => rw [ete] at eL; rw [eL] at p1; exact p1.elim
          | no => rw [ete] at eL; rw [eL] at p1; exact p1.elim
          | ok yd ρ6 =>
            rw [ete] at eL
            intro yv H6 g6 R6 hy
            have hy : Dd K (rs (Mu (fun q => M q ∨ q = D) σ4 ρ6) H6) yv yd := hy
            have e6 : H6 D = some (.lst va) := by
              have e5 : H5 D = some (.lst va) := stay.trans e3
              exact g6.keep D _ e5 fun z => by
                obtain ⟨k, b, o, z1, z2⟩ := z
                obtain ⟨q, y1, y2, _⟩ := R5.ow k b o z1
                rw [z2] at y1; cases y1
                exact y2 (.inr rfl)
            have hln := DdAll.length dacc
            by_cases hn : acc.length < 16777216
            · have eL : LL = apR acc (if acc.length < 16777216 then (lcLoop t tt te vs (ds.drop (i + 1)) (acc.length + 1) (wipeR ρ6 vs)).bind fun xs r4 => .ok (yd :: xs) r4 else .no) := eL
              rw [if_pos hn, apR_cons] at eL
              have G6 := G5.trans g6
              have R7 : Rel K (fun q => M q ∨ q = D) σ H6 (wipeR ρ6 vs) := rel_alk a5 (wp_wipe _ _) (rel_wipe R6)
              obtain ⟨R8, er⟩ := rel_upd (o := .lst (va ++ [yv])) R7 (.inr rfl)
              refine ⟨va, e6, by rw [line_, hln]; exact hn, wipeR ρ6 vs, acc ++ [yd], va ++ [yv], wp_wipe _ _, ?_, R8, upd_same, ?_, by rw [List.length_append]; exact eL⟩
              · have z := go_out G6 a5
                refine ⟨fun q o e n => ?_, z.own, z.io, fun q o e => ?_⟩
                · rw [upd_ne (ne_of_none e hD)]; exact z.keep q o e n
                · rw [upd_ne (ne_of_none e hD)]; exact z.live q o e
              · rw [er]
                refine DdAll.append (ddAll_mono (fun q u e => ?_) _ _ dacc) (.cons (dd_mono (fun q u e => ?_) _ _ hy) .nil)
                · have := ((g3.trans (go_in a0 w2 g4 a5)).trans g5).trans g6
                  exact (go_out this a5).same (M := fun q => M q ∨ q = D) q u e
                · obtain ⟨z1, z2⟩ := rs_of e
                  refine rs_mk z1 fun z => z2 ?_
                  rcases z with z | ⟨k, b, o, y1, y2⟩
                  · exact .inl z
                  · obtain ⟨y3, y4⟩ := wipeR_at (by intro z; cases z) y1
                    exact .inr ⟨k, b, o, y3, by rw [a5.2 k y4]; exact y2⟩
            · have eL : LL = apR acc (if acc.length < 16777216 then (lcLoop t tt te vs (ds.drop (i + 1)) (acc.length + 1) (wipeR ρ6 vs)).bind fun xs r4 => .ok (yd :: xs) r4 else .no) := eL
              rw [if_neg hn] at eL
              rw [eL] at p1; exact p1.elim
  · have ei : i = ds.length := by omega
    subst ei
    rw [List.drop_length] at eL
    have eL : LL = .ok acc ρ2 := by rw [eL]; simp [lcLoop, apR]
    rw [eL] at p1
    refine .inl ⟨q1.stop H2 fun q o e => rs_sub _ _ _ _ (sm q o e), p1 _ H2 g2 ?_ ⟨D, rfl, hD, fun z => ?_, R2, va, hacc, dacc⟩⟩
    · exact R2.weak fun _ z => .inl z
    · rcases z with z | ⟨k, b, o, z1, z2⟩
      · exact nM z
      · obtain ⟨q, y1, y2, _⟩ := R2.ow k b o z1
        rw [z2] at y1; cases y1
        exact y2 (.inr rfl)
end
end DL
end
section
set_option Elab.async false
set_option linter.all false
set_option maxRecDepth 100000
set_option autoImplicit false
namespace DL
open PySem PySem.Spec L2

/-! ### the block's rules -/
section
variable {X : Cx} {cl : Cl} {W : WX} {elt tg iter : Expr} {ifs : List Expr} {scope : Scope} {own : List (Str × Nat)} {pos : Pos} {gi : Ev (List D)} {t : Tg} {tt : Ev Bool} {te : Ev D} {vs : List Nat}
theorem PTs.weak {X : Cx} {e : List Expr} {t t' : TT} (h : PTs X e t) (w : ∀ σ H Q, t' σ H Q → t σ H Q) : PTs X e t' := ⟨fun pins s σ H Q I q => h.run pins s σ H Q I (w σ H Q q)⟩
theorem c_nil {W : WX} : PTs X [] (tT X.K cl W yesT) := by
  refine PTs.weak pts_nil ?_
  rintro σ H Q ⟨M, ρ, R, p⟩
  exact p true H Go.refl R rfl
theorem c_one {W : WX} {c : Expr} {g : Ev Bool} (h : PT X c (tT X.K cl W g)) : PTs X [c] (tT X.K cl W g) := pts_one h
theorem o_lc (hc : X.calm = true) (hN : X.N.Nodup) (hi : PI X tg iter (tI X.K cl W gi)) (ok : BlkOk X.N X.env.scope scope own)
    (hg : ∀ (s : Shared) (H : Hp) (C : Addr) (ce : List (Str × Addr)) (fp : List Addr), PG (X.blk s H scope (compEnvC scope ce C X.env) fp) tg (gD X.K t)) (ht : ∀ (s : Shared) (H : Hp) (C : Addr) (ce : List (Str × Addr)) (fp : List Addr), PTs (X.blk s H scope (compEnvC scope ce C X.env) fp) ifs (tT X.K cl W0 tt))
    (he : ∀ (s : Shared) (H : Hp) (C : Addr) (ce : List (Str × Addr)) (fp : List Addr), PE (X.blk s H scope (compEnvC scope ce C X.env) fp) elt (tE X.K cl W0 te)) (hvs : own.map (·.2) = vs := by rfl) (hts : ∀ j, j ∈ t.ss → j ∈ own.map (·.2) := by decide) (hs : ∀ x, foldedSetIterable iter X.env x = pure x := by intro _; rfl) :
    PE X (.ListComp elt [⟨tg, iter, ifs, 0⟩] scope pos) (tO X.K cl W (lcE gi t tt te vs)) := by
  subst hvs
  exact PE.weak (pe_lc hc hN hi ok hg ht he hs) (lc_w hts)
theorem s_setLc {i : Nat} {y : Str} {py spos : Pos} (hc : X.calm = true) (hN : X.N.Nodup) (hy : X.N[i]? = some y) (hyl : X.env.scope.names.lookup y = some .local)
    (hsw : swapsWith (.ListComp elt [⟨tg, iter, ifs, 0⟩] scope pos) (some (.Name y py)) spos.line X.env = pure true) (hi : PI X tg iter (tI X.K cl W gi)) (ok : BlkOk X.N X.env.scope scope own)
    (hg : ∀ (s : Shared) (H : Hp) (C : Addr) (ce : List (Str × Addr)) (fp : List Addr), PG (X.blk s H scope (compEnvC scope ce C X.env) fp) tg (gD X.K t)) (ht : ∀ (s : Shared) (H : Hp) (C : Addr) (ce : List (Str × Addr)) (fp : List Addr), PTs (X.blk s H scope (compEnvC scope ce C X.env) fp) ifs (tT X.K cl W0 tt))
    (he : ∀ (s : Shared) (H : Hp) (C : Addr) (ce : List (Str × Addr)) (fp : List Addr), PE (X.blk s H scope (compEnvC scope ce C X.env) fp) elt (tE X.K cl W0 te)) (hvs : own.map (·.2) = vs := by rfl) (hts : ∀ j, j ∈ t.ss → j ∈ own.map (·.2) := by decide) (hs : ∀ x, foldedSetIterable iter X.env x = pure x := by intro _; rfl) :
    PS X (.Assign [.Name y py] (.ListComp elt [⟨tg, iter, ifs, 0⟩] scope pos) spos) (tS X.K cl W (setO i (lcE gi t tt te vs))) := by
  subst hvs
  exact PS.weak (ps_setLc hc hN hy hyl hsw hi ok hg ht he hs) fun E σ H h => lc_w hts σ H _ (setO_w E σ H h)
end

/-! ### calls of built-ins by name -/
def Sb1 (K : PySem.W.Frag) (r : List V → Hp → VK → Prop) (f : D → Option D) : Prop := ∀ G H v d1 d Q, Same G H → DpB K G H v d1 → f d1 = some d → (∀ u H', Same H H' → Dd K (Ex G H H') u d → Q u H') → r [v] H Q
def Sb2 (K : PySem.W.Frag) (r : List V → Hp → VK → Prop) (f : D → D → Option D) : Prop := ∀ G H v w d1 d2 d Q, Same G H → DpB K G H v d1 → DpB K G H w d2 → f d1 d2 = some d → (∀ u H', Same H H' → Dd K (Ex G H H') u d → Q u H') → r [v, w] H Q
def Sc1 (K : PySem.W.Frag) (r : List V → Hp → VK → Prop) (f : D → Option Ob) : Prop := ∀ G H v d1 o Q, Same G H → DpB K G H v d1 → f d1 = some o → (∀ p H', Same H H' → H p = none → ObAt K G H' p o → Q (.ref p) H') → r [v] H Q
section
variable {K : PySem.W.Frag} {cl : Cl} {W : WX} {A B : Opd} {r : List V → Hp → VK → Prop}
theorem cb1_w {f : D → Option D} (S : Sb1 K r f) (σ : St) (H : Hp) (Q : VK) (h : tE K cl W (e1 f A) σ H Q) : tCB r (tCons (tP K cl W A) tNil) σ H Q := by
  obtain ⟨M, ρ, R, p⟩ := h
  refine tG_bind R p fun v x ρ1 H1 _ g1 R1 q1 p1 => ?_
  refine end_d R1 p1 fun d e k => ?_
  obtain ⟨d1, e1, e⟩ := Option.bind_eq_some_iff.mp e
  exact S _ H1 v d1 d Q (rs_sub _ _) (RV0.fin R1 q1 e1) e k
theorem cc1_w {f : D → Option Ob} (S : Sc1 K r f) (σ : St) (H : Hp) (Q : VK) (h : tO K cl W (e1 f A) σ H Q) : tCB r (tCons (tP K cl W A) tNil) σ H Q := by
  obtain ⟨M, ρ, R, p⟩ := h
  refine tG_bind R p fun v x ρ1 H1 _ g1 R1 q1 p1 => ?_
  refine end_o R1 p1 fun d e k => ?_
  obtain ⟨d1, e1, e⟩ := Option.bind_eq_some_iff.mp e
  exact S _ H1 v d1 d Q (rs_sub _ _) (RV0.fin R1 q1 e1) e k
theorem cb2_w {f : D → D → Option D} (S : Sb2 K r f) (σ : St) (H : Hp) (Q : VK) (h : tE K cl W (e2 f A B) σ H Q) : tCB r (tCons (tP K cl W A) (tCons (tP K cl W B) tNil)) σ H Q := by
  obtain ⟨M, ρ, R, p⟩ := h
  refine tG_bind R p fun v x ρ1 H1 _ g1 R1 q1 p1 => ?_
  refine tG_bind R1 p1 fun w y ρ2 H2 _ g2 R2 q2 p2 => ?_
  refine end_d R2 p2 fun d e k => ?_
  obtain ⟨d1, e1, e⟩ := Option.bind_eq_some_iff.mp e
  obtain ⟨d2, e2, e⟩ := Option.bind_eq_some_iff.mp e
  exact S _ H2 v w d1 d2 d Q (rs_sub _ _) (RV0.fin R2 (RV0.go g2 q1) e1) (RV0.fin R2 q2 e2) e k
end
section
variable {X : Cx} {cl : Cl} {W : WX} {a b : Expr} {A B : Opd} {x : Str} {id : String} {p pos : Pos} {r : List V → Hp → VK → Prop}
theorem d_b1 {f : D → Option D} (hc : CallR X (.builtin id) r) (S : Sb1 X.K r f) (hg : Gl X x) (hm : X.mg x = none) (hv : bootBuiltins x = some (.builtin id)) (ha : PE X a (tP X.K cl W A)) (hn : x ≠ "__name__" := by decide) (hdb : (x == ("__debug__" : Str)) = false := by decide)
    (he : starEach [a] X.env = (false, eval a X.env) :: starEach [] X.env := by rfl) (hpl : (backTo pos (starEach [] X.env)).any (·.1) = false := by rfl) : PE X (.Call (.Name x p) [a] [] pos) (tE X.K cl W (e1 f A)) :=
  PE.weak (pe_callB hc hg hm hv (pa_cons ha pa_nil he) hn hdb he hpl) (cb1_w S)
theorem d_y1 {f : D → Option D} (hc : CallR X (.type id) r) (S : Sb1 X.K r f) (hg : Gl X x) (hm : X.mg x = none) (hv : bootBuiltins x = some (.type id)) (ha : PE X a (tP X.K cl W A)) (hn : x ≠ "__name__" := by decide) (hdb : (x == ("__debug__" : Str)) = false := by decide)
    (he : starEach [a] X.env = (false, eval a X.env) :: starEach [] X.env := by rfl) (hpl : (backTo pos (starEach [] X.env)).any (·.1) = false := by rfl) : PE X (.Call (.Name x p) [a] [] pos) (tE X.K cl W (e1 f A)) :=
  PE.weak (pe_callTy hc hg hm hv (pa_cons ha pa_nil he) hn hdb he hpl) (cb1_w S)
theorem o_b1 {f : D → Option Ob} (hc : CallR X (.builtin id) r) (S : Sc1 X.K r f) (hg : Gl X x) (hm : X.mg x = none) (hv : bootBuiltins x = some (.builtin id)) (ha : PE X a (tP X.K cl W A)) (hn : x ≠ "__name__" := by decide) (hdb : (x == ("__debug__" : Str)) = false := by decide)
    (he : starEach [a] X.env = (false, eval a X.env) :: starEach [] X.env := by rfl) (hpl : (backTo pos (starEach [] X.env)).any (·.1) = false := by rfl) : PE X (.Call (.Name x p) [a] [] pos) (tO X.K cl W (e1 f A)) :=
  PE.weak (pe_callB hc hg hm hv (pa_cons ha pa_nil he) hn hdb he hpl) (cc1_w S)
theorem o_y1 {f : D → Option Ob} (hc : CallR X (.type id) r) (S : Sc1 X.K r f) (hg : Gl X x) (hm : X.mg x = none) (hv : bootBuiltins x = some (.type id)) (ha : PE X a (tP X.K cl W A)) (hn : x ≠ "__name__" := by decide) (hdb : (x == ("__debug__" : Str)) = false := by decide)
    (he : starEach [a] X.env = (false, eval a X.env) :: starEach [] X.env := by rfl) (hpl : (backTo pos (starEach [] X.env)).any (·.1) = false := by rfl) : PE X (.Call (.Name x p) [a] [] pos) (tO X.K cl W (e1 f A)) :=
  PE.weak (pe_callTy hc hg hm hv (pa_cons ha pa_nil he) hn hdb he hpl) (cc1_w S)
theorem d_b2 {f : D → D → Option D} (hc : CallR X (.builtin id) r) (S : Sb2 X.K r f) (hg : Gl X x) (hm : X.mg x = none) (hv : bootBuiltins x = some (.builtin id)) (ha : PE X a (tP X.K cl W A)) (hb : PE X b (tP X.K cl W B)) (hn : x ≠ "__name__" := by decide) (hdb : (x == ("__debug__" : Str)) = false := by decide)
    (he : starEach [a, b] X.env = (false, eval a X.env) :: starEach [b] X.env := by rfl) (he2 : starEach [b] X.env = (false, eval b X.env) :: starEach [] X.env := by rfl) (hpl : (backTo pos (starEach [b] X.env)).any (·.1) = false := by rfl) : PE X (.Call (.Name x p) [a, b] [] pos) (tE X.K cl W (e2 f A B)) :=
  PE.weak (pe_callB hc hg hm hv (pa_cons ha (pa_cons hb pa_nil he2) he) hn hdb he hpl) (cb2_w S)
end
section
variable {K : PySem.W.Frag} {X : Cx}
def lenD : D → Option D
  | .str z => if z.length ≤ 16777216 then some (.int z.length) else none
  | .list xs => some (.int xs.length)
  | .tuple xs => some (.int xs.length)
  | _ => none
theorem sb_len : Sb1 K (fun xs H Q => ∃ x n, xs = [x] ∧ LenV K x H n ∧ Q (.int n) H) lenD := by
  intro G H v d1 d Q s h1 e k
  unfold lenD at e
  split at e
  · split at e
    · rename_i z hz
      cases e
      rw [h1.str]
      exact ⟨_, _, rfl, ⟨by rw [line_]; exact hz, rfl⟩, keep_ k (.int _)⟩
    · cases e
  · cases e
    obtain ⟨p, vs, rfl, hp, hd⟩ := h1.list s
    exact ⟨_, vs.length, rfl, .inl ⟨vs, .inl (.inl hp), rfl⟩, by rw [hd.length]; exact keep_ k (.int _)⟩
  · cases e
    obtain ⟨p, vs, rfl, hp, hd⟩ := h1.tuple s
    exact ⟨_, vs.length, rfl, .inr ⟨vs, .inl (.inl (s _ _ hp)), rfl⟩, by rw [hd.length]; exact keep_ k (.int _)⟩
  · cases e
/-- int(..) of a whole number or a truth value -/
def intD : D → Option D
  | .int i => some (.int i)
  | .bool b => some (.int (if b then 1 else 0))
  | _ => none
theorem sb_int : Sb1 K (fun xs H Q => (∃ i, xs = [.int i] ∧ Q (.int i) H) ∨ ∃ k, xs = [.bl k] ∧ Q (.int (if k then 1 else 0)) H) intD := by
  intro G H v d1 d Q s h1 e k
  unfold intD at e
  split at e
  · cases e
    rw [h1.int]
    exact .inl ⟨_, rfl, keep_ k (.int _)⟩
  · cases e
    rw [h1.bool]
    exact .inr ⟨_, rfl, keep_ k (.int _)⟩
  · cases e
def maxD : D → D → Option D
  | .int i, .int j => some (.int (if j > i then j else i))
  | _, _ => none
def minD : D → D → Option D
  | .int i, .int j => some (.int (if j < i then j else i))
  | _, _ => none
theorem sb_max : Sb2 K (fun xs H Q => ∃ i j, xs = [.int i, .int j] ∧ Q (.int (if j > i then j else i)) H) maxD := by
  intro G H v w d1 d2 d Q s h1 h2 e k
  unfold maxD at e
  split at e
  · cases e
    rw [h1.int, h2.int]
    exact ⟨_, _, rfl, keep_ k (.int _)⟩
  · cases e
theorem sb_min : Sb2 K (fun xs H Q => ∃ i j, xs = [.int i, .int j] ∧ Q (.int (if j < i then j else i)) H) minD := by
  intro G H v w d1 d2 d Q s h1 h2 e k
  unfold minD at e
  split at e
  · cases e
    rw [h1.int, h2.int]
    exact ⟨_, _, rfl, keep_ k (.int _)⟩
  · cases e
/-- tuple(..) of a list, a tuple -/
@[simp] def tupD : D → Option D
  | .list xs => some (.tuple xs)
  | .tuple xs => some (.tuple xs)
  | _ => none
theorem sb_tup : Sb1 K (fun xs H Q => ∃ p ys, xs = [.ref p] ∧ ((SqL K H p ys ∧ ∀ l, H l = none → Q (.ref l) (upd H l (.tup ys))) ∨ (SqT K H p ys ∧ Q (.ref p) H))) tupD := by
  intro G H v d1 d Q s h1 e k
  unfold tupD at e
  split at e
  · cases e
    obtain ⟨p, vs, rfl, hp, hd⟩ := h1.list s
    refine ⟨p, vs, rfl, .inl ⟨.inl (.inl hp), fun l n => ?_⟩⟩
    exact k _ _ (fun q o e => by rw [upd_ne (ne_of_none e n)]; exact e) (.tup (ex_new n upd_same) (ddAll_mono (ex_same s) _ _ hd))
  · cases e
    obtain ⟨p, vs, rfl, hp, hd⟩ := h1.tuple s
    exact ⟨p, vs, rfl, .inr ⟨.inl (.inl (s _ _ hp)), keep_ k (dd_mono (ex_same s) _ _ (.tup hp hd))⟩⟩
  · cases e
/-- list(..) of a list, a tuple: a list of our own -/
@[simp] def lstO : D → Option Ob
  | .list xs => some (.ls xs)
  | .tuple xs => some (.ls xs)
  | _ => none
theorem sc_lst : Sc1 K (fun xs H Q => ∃ p ys, xs = [.ref p] ∧ (SqL K H p ys ∨ SqT K H p ys) ∧ ∀ l, H l = none → Q (.ref l) (upd H l (.lst ys))) lstO := by
  intro G H v d1 o Q s h1 e k
  unfold lstO at e
  split at e
  · cases e
    obtain ⟨p, vs, rfl, hp, hd⟩ := h1.list s
    exact ⟨p, vs, rfl, .inl (.inl (.inl hp)), fun l n => k l _ (fun q o e => by rw [upd_ne (ne_of_none e n)]; exact e) n ⟨_, upd_same, hd⟩⟩
  · cases e
    obtain ⟨p, vs, rfl, hp, hd⟩ := h1.tuple s
    exact ⟨p, vs, rfl, .inr (.inl (.inl (s _ _ hp))), fun l n => k l _ (fun q o e => by rw [upd_ne (ne_of_none e n)]; exact e) n ⟨_, upd_same, hd⟩⟩
  · cases e

/-! ### sorted -/
def rSortedD (K : PySem.W.Frag) : List V → Hp → VK → Prop := fun xs H Q => ∃ (p : Addr) (bs : List (V × D)), xs = [.ref p] ∧ H p = some (.lst (bs.map Prod.fst)) ∧ (∀ b ∈ bs, Dp K H b.1 b.2) ∧ PySem.W.AllAlike (bs.map Prod.snd) ∧ PySem.W.Sortable (bs.map Prod.snd) ∧ (∀ b ∈ bs, b.2.depth ≤ 64) ∧
  ∀ l, H l = none → Q (.ref l) (upd H l (.lst ((bs.mergeSort (PySem.W.dataLe false Prod.snd)).map Prod.fst)))
theorem vals_each {bs : List (V × D)} : ∀ {us : List Value}, Vals (bs.map Prod.fst) us → PySem.W.EachIs (fun u (b : V × D) => RelV b.1 u) us bs := by
  induction bs with
  | nil => intro us h; cases h; exact .nil
  | cons b bs ih =>
    intro us h
    cases h with
    | cons r t => exact .cons r (ih t)
theorem each_vals {bs : List (V × D)} : ∀ {us : List Value}, PySem.W.EachIs (fun u (b : V × D) => RelV b.1 u) us bs → Vals (bs.map Prod.fst) us := by
  induction bs with
  | nil => intro us h; cases h; exact .nil
  | cons b bs ih =>
    intro us h
    cases h with
    | cons r t => exact .cons r (ih t)
theorem each_reads {pins : List (Addr × Obj)} {σ : St} {H : Hp} {s : Shared} (I : Inv X pins σ H s) {bs : List (V × D)} (h : ∀ b ∈ bs, Dp X.K H b.1 b.2) : ∀ {us : List Value}, Vals (bs.map Prod.fst) us → PySem.W.EachIs (fun u (b : V × D) => ∃ as, Reads s.heap u b.2 as) us bs := by
  induction bs with
  | nil => intro us h; cases h; exact .nil
  | cons b bs ih =>
    intro us hv
    cases hv with
    | cons r t => exact .cons (Dp.reads I _ _ _ (h b (by simp)) r) (ih (fun c hc => h c (by simp [hc])) t)
theorem cr_sortedD (hu : X.A.units + 200 < cLine) : CallR X (.builtin "sorted") (rSortedD X.K) := by
  intro pins s σ H xs us Q I r h
  obtain ⟨p, bs, rfl, hp, hd, ha, hs, hdep, q⟩ := h
  rw [Vals.ref1 r]
  obtain ⟨z, its, n, rv, hl, e⟩ := I.lstM hp
  have hz : bs.length ≤ sizeLine := by simpa using z
  refine PySem.W.sorted_data (vs := its) (bs := bs) (enc := Prod.snd) (R := fun u b => RelV b.1 u) ⟨_, e, rfl, _, rfl⟩ (vals_each rv) (each_reads I hd rv) ha hs hz (fun b hb => by have := hdep b hb; omega) fun out ho eo => ?_
  obtain ⟨c, hc⟩ := PyProof.Rows.sortedAll_at s.heap its out.toArray
  have hn : H (s.heap.objs.size + 1) = none := I.hok.fresh (Nat.le_succ _)
  refine ⟨.ref (s.heap.objs.size + 1), _, I.laid (t' := s.toks) (o := .lst ((bs.mergeSort (PySem.W.dataLe false Prod.snd)).map Prod.fst)) (fun b u q => PyProof.Rows.sortedAll_old q) (Nat.le_succ _) ⟨?_, out, c, each_vals eo, hc⟩, rfl, q _ hn⟩
  rw [List.length_map, List.length_mergeSort]
  exact hz
/-- the conditions under which data are sorted -/
def sortOk (ds : List D) : Bool := (ds.all fun x => ds.all fun y => PySem.W.alike x y) && (ds.all fun d => decide (d.depth ≤ 64)) && ((ds.all fun d => match d with | .tuple (_ :: _) => true | _ => false) || ds.all fun d => match d with | .tuple _ => false | .none => false | _ => true)
def sortL (ds : List D) : List D := ds.mergeSort (PySem.W.dataLe false id)
def sortO : D → Option Ob
  | .list ds => if sortOk ds = true then some (.ls (sortL ds)) else none
  | _ => none
theorem sortOk_of {ds : List D} (h : sortOk ds = true) : PySem.W.AllAlike ds ∧ PySem.W.Sortable ds ∧ ∀ d ∈ ds, d.depth ≤ 64 := by
  unfold sortOk at h
  simp only [Bool.and_eq_true, Bool.or_eq_true, List.all_eq_true, decide_eq_true_eq] at h
  obtain ⟨⟨h1, h2⟩, h3⟩ := h
  refine ⟨fun d hd e he => h1 d hd e he, ?_, h2⟩
  rcases h3 with h3 | h3
  · refine .inl fun d hd => ?_
    have := h3 d hd
    split at this
    · exact ⟨_, _, rfl⟩
    · cases this
  · refine .inr fun d hd => ?_
    have := h3 d hd
    split at this
    · cases this
    · cases this
    · rename_i n1 n2
      exact ⟨fun z => n2 z, fun xs z => n1 xs z⟩
theorem zip_dd {K : PySem.W.Frag} {G : Hp} : ∀ {vs : List V} {ds : List D}, DdAll K G vs ds → (vs.zip ds).map Prod.fst = vs ∧ (vs.zip ds).map Prod.snd = ds ∧ ∀ b ∈ vs.zip ds, Dd K G b.1 b.2
  | _, _, .nil => ⟨rfl, rfl, fun _ h => by simp at h⟩
  | _, _, .cons h t => by
    obtain ⟨h1, h2, h3⟩ := zip_dd t
    refine ⟨by simp [h1], by simp [h2], fun b hb => ?_⟩
    simp only [List.zip_cons_cons, List.mem_cons] at hb
    rcases hb with rfl | hb
    · exact h
    · exact h3 b hb
theorem dd_zip {K : PySem.W.Frag} {G : Hp} : ∀ {bs : List (V × D)}, (∀ b ∈ bs, Dd K G b.1 b.2) → DdAll K G (bs.map Prod.fst) (bs.map Prod.snd)
  | [], _ => .nil
  | b :: bs, h => .cons (h b (by simp)) (dd_zip fun c hc => h c (by simp [hc]))
theorem sc_sorted : Sc1 K (rSortedD K) sortO := by
  intro G H v d1 o Q s h1 e k
  unfold sortO at e
  split at e
  · split at e
    · rename_i ds hc
      cases e
      obtain ⟨p, vs, rfl, hp, hd⟩ := h1.list s
      obtain ⟨z1, z2, z3⟩ := zip_dd hd
      obtain ⟨c1, c2, c3⟩ := sortOk_of hc
      refine ⟨p, vs.zip ds, rfl, by rw [z1]; exact hp, fun b hb => Dd.dp _ _ (dd_mono s _ _ (z3 b hb)), by rw [z2]; exact c1, by rw [z2]; exact c2, fun b hb => c3 b.2 (by rw [← z2]; exact List.mem_map_of_mem hb), fun l n => ?_⟩
      refine k l _ (fun q o e => by rw [upd_ne (ne_of_none e n)]; exact e) n ⟨_, upd_same, ?_⟩
      have e2 : sortL ds = ((vs.zip ds).mergeSort (PySem.W.dataLe false Prod.snd)).map Prod.snd := by
        have z := PySem.W.sort_maps (r := PySem.W.dataLe false (Prod.snd : V × D → D)) (s := PySem.W.dataLe false id) (Prod.snd : V × D → D) (l := vs.zip ds) (fun _ _ _ _ => rfl)
        rw [z2] at z
        exact z.symm
      rw [e2]
      exact dd_zip fun b hb => z3 b ((List.mergeSort_perm _ _).mem_iff.mp hb)
    · cases e
  · cases e
end
end DL
end
section
set_option Elab.async false
set_option linter.all false
set_option maxRecDepth 100000
set_option autoImplicit false
namespace DL
open PySem PySem.Spec L2

/-! ### isinstance -/
def tyN : D → String
  | .none => "NoneType"
  | .bool _ => "bool"
  | .int _ => "int"
  | .str _ => "str"
  | .list _ => "list"
  | .tuple _ => "tuple"
  | .dict _ => "dict"
def isiB (T : String) : D → Bool
  | .none => T == "NoneType"
  | .bool _ => T == "bool" || T == "int"
  | .int _ => T == "int"
  | .str _ => T == "str"
  | .list _ => T == "list"
  | .tuple _ => T == "tuple"
  | .dict _ => false
def isiD (T : String) (d : D) : Option D := match d with
  | .dict _ => none
  | d => some (.bool (isiB T d))
def KitOk (T : String) : Prop := kitB "NoneType" T = some (T == "NoneType") ∧ kitB "bool" T = some (T == "bool" || T == "int") ∧ kitB "int" T = some (T == "int") ∧ kitB "str" T = some (T == "str") ∧ kitB "list" T = some (T == "list") ∧ kitB "tuple" T = some (T == "tuple")
theorem kit_int : KitOk "int" := by unfold KitOk; decide +kernel
theorem kit_bool : KitOk "bool" := by unfold KitOk; decide +kernel
theorem kit_str : KitOk "str" := by unfold KitOk; decide +kernel
theorem kit_list : KitOk "list" := by unfold KitOk; decide +kernel
theorem kit_tuple : KitOk "tuple" := by unfold KitOk; decide +kernel
theorem tyx_of {K : PySem.W.Frag} {G H : Hp} {v : V} {d : D} (s : Same G H) (h : DpB K G H v d) : TyX K H v (.type (tyN d)) := by
  have h := h.dd s
  cases h with
  | non => exact .base .non
  | bl b => exact .base (.bl b)
  | int i => exact .base (.int i)
  | str x => exact .base (.str x)
  | lst hs _ => exact .base (.lst hs)
  | tup hs _ => exact .base (.tup hs)
section
variable {X : Cx} {cl : Cl} {W : WX} {a : Expr} {A : Opd} {x : Str} {T : String} {p p2 pos : Pos}
theorem d_isi (kt : KitOk T) (hg : Gl X "isinstance") (hm : X.mg "isinstance" = none) (hgT : Gl X x) (hmT : X.mg x = none) (hvT : bootBuiltins x = some (.type T)) (ha : PE X a (tP X.K cl W A)) (hnT : x ≠ "__name__" := by decide) (hdT : (x == ("__debug__" : Str)) = false := by decide)
    (he : starEach [a, .Name x p2] X.env = (false, eval a X.env) :: starEach [.Name x p2] X.env := by rfl) (he2 : starEach [Expr.Name x p2] X.env = (false, eval (.Name x p2) X.env) :: starEach [] X.env := by rfl) (hpl : (backTo pos (starEach [Expr.Name x p2] X.env)).any (·.1) = false := by rfl) :
    PE X (.Call (.Name "isinstance" p) [a, .Name x p2] [] pos) (tE X.K cl W (e1 (isiD T) A)) := by
  have hT : PE X (.Name x p2) (tC (.ty T)) := pe_bltn hgT hmT hvT rfl hnT hdT
  refine PE.weak (pe_callB call_isi hg hm PyProof.Rows.boot_isinstance (pa_cons ha (pa_cons hT pa_nil he2) he) (by decide) (by decide) he hpl) ?_
  rintro σ H Q ⟨M, ρ, R, q⟩
  refine tG_bind R q fun v y ρ1 H1 _ g1 R1 q1 p1 => ?_
  refine end_d R1 p1 fun d e k => ?_
  obtain ⟨d1, h1, e⟩ := Option.bind_eq_some_iff.mp e
  have hb := RV0.fin R1 q1 h1
  have ty := tyx_of (rs_sub _ _) hb
  have fin : ∀ b, some (PyData.bool b) = some d → Q (.bl b) H1 := fun b z => by
    cases z
    exact keep_ k (.bl _)
  obtain ⟨k1, k2, k3, k4, k5, k6⟩ := kt
  refine ⟨v, .ty T, _, .type T, isiB T d1, rfl, .ty T, ty, ?_, fin _ ?_⟩
  · refine kit_ty ?_
    cases d1 with
    | none => exact k1
    | bool b => exact k2
    | int b => exact k3
    | str b => exact k4
    | list b => exact k5
    | tuple b => exact k6
    | dict b => cases e
  · cases d1 <;> first | exact e | cases e
end

/-! ### list(range(..)), tuple(range(..)) -/
theorem rgV_dd {K : PySem.W.Frag} {G : Hp} (a b : Int) : DdAll K G (rgV a b) (rgD a b) := by
  unfold rgV rgD
  have : ∀ l : List Nat, DdAll K G (l.map fun i => V.int (a + (i : Nat))) (l.map fun i => PyData.int (a + (i : Nat))) := fun l => by
    induction l with
    | nil => exact .nil
    | cons x l ih => exact .cons (.int _) ih
  exact this _
def rgC (a b : Int) : Bool := decide (-(2 ^ 62) ≤ a ∧ a < 2 ^ 62 ∧ -(2 ^ 62) ≤ b ∧ b < 2 ^ 62 ∧ (b - a).toNat ≤ 2 ^ 24)
@[simp] def lrg1 : D → Option Ob
  | .int n => if rgC 0 n = true then some (.ls (rgD 0 n)) else none
  | _ => none
@[simp] def trg1 : D → Option D
  | .int n => if rgC 0 n = true then some (.tuple (rgD 0 n)) else none
  | _ => none
section
variable {X : Cx} {cl : Cl} {W : WX} {a : Expr} {A : Opd} {p p2 pos pos2 : Pos}
theorem o_lrg1 (hc : X.calm = true) (hg : Gl X "list") (hm : X.mg "list" = none) (hgr : Gl X "range") (hmr : X.mg "range" = none) (ha : PE X a (tP X.K cl W A)) (na : starEach [a] X.env = (false, eval a X.env) :: starEach [] X.env := by rfl)
    (nb : starEach [Expr.Call (.Name "range" p2) [a] [] pos2] X.env = (false, eval (.Call (.Name "range" p2) [a] [] pos2) X.env) :: starEach [] X.env := by rfl) :
    PE X (.Call (.Name "list" p) [.Call (.Name "range" p2) [a] [] pos2] [] pos) (tO X.K cl W (e1 lrg1 A)) := by
  refine PE.weak (pe_listRg hc hg hm (prg_1 hgr hmr ha na) nb) ?_
  rintro σ H Q ⟨M, ρ, R, q⟩
  refine tG_bind R q fun v y ρ1 H1 _ g1 R1 q1 p1 => ?_
  refine end_o R1 p1 fun o e k => ?_
  obtain ⟨d1, h1, e⟩ := Option.bind_eq_some_iff.mp e
  unfold lrg1 at e
  split at e
  · split at e
    · rename_i hr
      cases e
      have hb := RV0.fin R1 q1 h1
      refine ⟨_, hb.int, (by unfold rgC at hr; have z := of_decide_eq_true hr; exact z), fun l n => ?_⟩
      exact k l _ (fun q o e => by rw [upd_ne (ne_of_none e n)]; exact e) n ⟨_, upd_same, rgV_dd _ _⟩
    · cases e
  · cases e
theorem d_trg1 (hc : X.calm = true) (hg : Gl X "tuple") (hm : X.mg "tuple" = none) (hgr : Gl X "range") (hmr : X.mg "range" = none) (ha : PE X a (tP X.K cl W A)) (na : starEach [a] X.env = (false, eval a X.env) :: starEach [] X.env := by rfl)
    (nb : starEach [Expr.Call (.Name "range" p2) [a] [] pos2] X.env = (false, eval (.Call (.Name "range" p2) [a] [] pos2) X.env) :: starEach [] X.env := by rfl) :
    PE X (.Call (.Name "tuple" p) [.Call (.Name "range" p2) [a] [] pos2] [] pos) (tE X.K cl W (e1 trg1 A)) := by
  refine PE.weak (pe_tupRg hc hg hm (prg_1 hgr hmr ha na) nb) ?_
  rintro σ H Q ⟨M, ρ, R, q⟩
  refine tG_bind R q fun v y ρ1 H1 _ g1 R1 q1 p1 => ?_
  refine end_d R1 p1 fun o e k => ?_
  obtain ⟨d1, h1, e⟩ := Option.bind_eq_some_iff.mp e
  unfold trg1 at e
  split at e
  · split at e
    · rename_i hr
      cases e
      have hb := RV0.fin R1 q1 h1
      refine ⟨_, hb.int, (by unfold rgC at hr; have z := of_decide_eq_true hr; exact z), fun l n => ?_⟩
      exact k _ _ (fun q o e => by rw [upd_ne (ne_of_none e n)]; exact e) (.tup (ex_new n upd_same) (rgV_dd _ _))
    · cases e
  · cases e
end

/-! ### slices -/
def optE : Option (Ev D) → Ev (Option Int)
  | none => fun ρ => .ok none ρ
  | some g => fun ρ => (g ρ).bind fun d r => match d with
    | .int i => .ok (some i) r
    | _ => .no
def eSl {α : Type} (f : D → Option Int → Option Int → Option α) (a : Opd) (lo hi : Option (Ev D)) : Ev α := fun ρ => (a.run ρ).bind fun x r => (optE lo r).bind fun l r2 => (optE hi r2).bind fun h r3 => ofO ((x.fin r3).bind fun d => f d l h) r3
def RPo : Rk (Option Int) (Option Int) := ⟨fun _ _ _ _ _ b c => b = c, fun _ h => h⟩
abbrev tPo (K : PySem.W.Frag) (cl : Cl) (W : WX) (o : Option (Ev D)) : TO := tG K cl W RPo (optE o)
theorem PO.weak {X : Cx} {e : Option Expr} {t t' : TO} (h : PO X e t) (w : ∀ σ H Q, t' σ H Q → t σ H Q) : PO X e t' := ⟨fun pins s σ H Q I q => h.run pins s σ H Q I (w σ H Q q)⟩
def cutL {α : Type} (xs : List α) (lo hi : Option Int) : List α := (xs.drop (HT.sIx xs.length 0 lo)).take (HT.sIx xs.length xs.length hi - HT.sIx xs.length 0 lo)
def slD : D → Option Int → Option Int → Option D
  | .tuple xs, lo, hi => some (.tuple (cutL xs lo hi))
  | .str z, lo, hi => if z.length ≤ 16777216 then some (.str (cutS z lo hi)) else none
  | _, _, _ => none
def slO : D → Option Int → Option Int → Option Ob
  | .list xs, lo, hi => some (.ls (cutL xs lo hi))
  | _, _, _ => none
theorem cut_dd {K : PySem.W.Frag} {G : Hp} {vs : List V} {ds : List D} (h : DdAll K G vs ds) (lo hi : Option Int) : DdAll K G (cutV vs lo hi) (cutL ds lo hi) := by
  unfold cutV cutL
  rw [h.length]
  exact (h.drop _).take _
theorem cutL_all {α : Type} {xs : List α} {lo hi : Option Int} (h : HT.sIx xs.length 0 lo = 0 ∧ HT.sIx xs.length xs.length hi = xs.length) : cutL xs lo hi = xs := by
  unfold cutL
  rw [h.1, h.2]
  simp
section
variable {X : Cx} {cl : Cl} {W : WX} {a : Expr} {A : Opd} {lo hi : Option Expr} {gl gh : Option (Ev D)} {p2 pos : Pos}
theorem p_no : PO X none (tPo X.K cl W none) := by
  refine PO.weak po_none ?_
  rintro σ H Q ⟨M, ρ, R, p⟩
  exact p none H Go.refl R rfl
theorem p_so {e : Expr} {g : Ev D} (h : PE X e (tE X.K cl W g)) : PO X (some e) (tPo X.K cl W (some g)) := by
  refine PO.weak (po_some h) ?_
  rintro σ H Q ⟨M, ρ, R, p⟩
  refine tG_bind R p fun v d ρ1 H1 _ g1 R1 q1 p1 => ?_
  cases d with
  | int i =>
    have e : v = .int i := by cases q1; rfl
    exact ⟨i, e, p1 _ H1 Go.refl R1 rfl⟩
  | none => exact p1.elim
  | bool _ => exact p1.elim
  | str _ => exact p1.elim
  | list _ => exact p1.elim
  | tuple _ => exact p1.elim
  | dict _ => exact p1.elim
theorem d_sl (ha : PE X a (tP X.K cl W A)) (hl : PO X lo (tPo X.K cl W gl)) (hh : PO X hi (tPo X.K cl W gh)) : PE X (.Subscript a (.Slice lo hi none p2) pos) (tE X.K cl W (eSl slD A gl gh)) := by
  refine PE.weak (pe_slice (sl_tupA.or sl_str) ha hl hh) ?_
  rintro σ H Q ⟨M, ρ, R, p⟩
  refine tG_bind R p fun v x ρ1 H1 _ g1 R1 q1 p1 => ?_
  refine tG_bind R1 p1 fun l l' ρ2 H2 _ g2 R2 q2 p2 => ?_
  refine tG_bind R2 p2 fun h h' ρ3 H3 _ g3 R3 q3 p3 => ?_
  have q2 : l = l' := q2
  have q3 : h = h' := q3
  subst q2 q3
  refine end_d R3 p3 fun d e k => ?_
  obtain ⟨d1, e1, e⟩ := Option.bind_eq_some_iff.mp e
  have hb := RV0.fin R3 (RV0.go (g2.trans g3) q1) e1
  have s := rs_sub (Mu M σ ρ3) H3
  unfold slD at e
  split at e
  · cases e
    obtain ⟨q, vs, rfl, hp, hd⟩ := hb.tuple s
    refine .inl ⟨q, vs, rfl, .inl (.inl (s _ _ hp)), fun w => ?_, fun w t n => ?_⟩
    · rw [hd.length] at w
      rw [cutL_all w] at k
      exact keep_ k (dd_mono (ex_same s) _ _ (.tup hp hd))
    · exact k _ _ (fun q o e => by rw [upd_ne (ne_of_none e n)]; exact e) (.tup (ex_new n upd_same) (ddAll_mono (ex_same s) _ _ (cut_dd hd _ _)))
  · split at e
    · rename_i hz
      cases e
      exact .inr ⟨_, hb.str, by rw [line_]; exact hz, keep_ k (.str _)⟩
    · cases e
  · cases e
theorem o_sl (ha : PE X a (tP X.K cl W A)) (hl : PO X lo (tPo X.K cl W gl)) (hh : PO X hi (tPo X.K cl W gh)) : PE X (.Subscript a (.Slice lo hi none p2) pos) (tO X.K cl W (eSl slO A gl gh)) := by
  refine PE.weak (pe_slice sl_list ha hl hh) ?_
  rintro σ H Q ⟨M, ρ, R, p⟩
  refine tG_bind R p fun v x ρ1 H1 _ g1 R1 q1 p1 => ?_
  refine tG_bind R1 p1 fun l l' ρ2 H2 _ g2 R2 q2 p2 => ?_
  refine tG_bind R2 p2 fun h h' ρ3 H3 _ g3 R3 q3 p3 => ?_
  have q2 : l = l' := q2
  have q3 : h = h' := q3
  subst q2 q3
  refine end_o R3 p3 fun o e k => ?_
  obtain ⟨d1, e1, e⟩ := Option.bind_eq_some_iff.mp e
  have hb := RV0.fin R3 (RV0.go (g2.trans g3) q1) e1
  have s := rs_sub (Mu M σ ρ3) H3
  unfold slO at e
  split at e
  · cases e
    obtain ⟨q, vs, rfl, hp, hd⟩ := hb.list s
    exact ⟨q, vs, rfl, .inl (.inl hp), fun t n => k t _ (fun q o e => by rw [upd_ne (ne_of_none e n)]; exact e) n ⟨_, upd_same, cut_dd hd _ _⟩⟩
  · cases e
theorem d_ix {b : Expr} {B : Opd} (ha : PE X a (tP X.K cl W A)) (hb : PE X b (tP X.K cl W B)) (hs : PlainIx b := by intro _ _; rfl) : PE X (.Subscript a b pos) (tE X.K cl W (e2 ixD A B)) :=
  PE.weak (pe_ix ix_seq ha hb hs) (tOp_d sd_ix)
end

/-! ### methods of texts -/
def eM1 (f : Str → D → Option D) (g : Ev D) (b : Opd) : Ev D := fun ρ => (g ρ).bind fun d r => match d with
  | .str z => (b.run r).bind fun y r2 => ofO ((y.fin r2).bind fun e => f z e) r2
  | _ => .no
def Sm1 (K : PySem.W.Frag) (r : V → List V → Hp → VK → Prop) (f : Str → D → Option D) : Prop :=
  ∀ G H z w d2 d Q, Same G H → DpB K G H w d2 → f z d2 = some d → (∀ u H', Same H H' → Dd K (Ex G H H') u d → Q u H') → r (.str z) [w] H Q
section
variable {X : Cx} {cl : Cl} {W : WX} {o a : Expr} {A : Opd} {g : Ev D} {id : String} {name : Str} {apos cpos : Pos} {r : V → List V → Hp → VK → Prop} {f : Str → D → Option D}
theorem m1_w {K : PySem.W.Frag} (S : Sm1 K r f) (σ : St) (H : Hp) (Q : VK) (h : tE K cl W (eM1 f g A) σ H Q) : tBM K "str" r (tE K cl W g) (tCons (tP K cl W A) tNil) σ H Q := by
  obtain ⟨M, ρ, R, p⟩ := h
  refine tG_bind R p fun v d ρ1 H1 _ g1 R1 q1 p1 => ?_
  cases d with
  | str z =>
    have e : v = .str z := by cases q1; rfl
    subst e
    refine ⟨rfl, ?_⟩
    refine tG_bind R1 p1 fun w y ρ2 H2 _ g2 R2 q2 p2 => ?_
    refine end_d R2 p2 fun d e k => ?_
    obtain ⟨d2, e2, e⟩ := Option.bind_eq_some_iff.mp e
    exact S _ H2 z w d2 d Q (rs_sub _ _) (RV0.fin R2 q2 e2) e k
  | none => exact p1.elim
  | bool _ => exact p1.elim
  | int _ => exact p1.elim
  | list _ => exact p1.elim
  | tuple _ => exact p1.elim
  | dict _ => exact p1.elim
theorem d_m1 (slot : Slot "str" name id) (hty : typeOf (.builtin id) = pure (.type "method_descriptor")) (hm : MtR X id r) (S : Sm1 X.K r f) (ho : PE X o (tE X.K cl W g)) (ha : PE X a (tP X.K cl W A))
    (hbase : attributeBase o name X.env (eval o X.env) = eval o X.env := by rfl)
    (hfew : ((backTo cpos (starEach [a] X.env)).all (fun x => !x.1) && (backToKw cpos (keywordEach [] X.env)).all (fun x => x.1.isSome)
      && decide (([a] : List Expr).length + ([] : List Keyword).length + (if ([] : List Keyword).isEmpty then 0 else 1) < 30)) = true := by rfl)
    (hline : (apos.endLine == cpos.line) = true := by rfl) (hs : starEach [a] X.env = (false, eval a X.env) :: starEach [] X.env := by rfl) (hplain : (backTo cpos (starEach [] X.env)).any (·.1) = false := by rfl) :
    PE X (.Call (.Attribute o name apos) [a] [] cpos) (tE X.K cl W (eM1 f g A)) :=
  PE.weak (pe_bm PySem.F.plainAttrs_str slot hty hm ho (pa_cons ha pa_nil hs) hbase hfew hline hs hplain) (m1_w S)
end
/-- the texts of a list -/
def strsOf : List D → Option (List Str)
  | [] => some []
  | .str z :: r => (strsOf r).map (z :: ·)
  | _ :: _ => none
def joinD (z : Str) : D → Option D
  | .list ds => (strsOf ds).bind fun ys => if (ys.map (·.length)).sum + ys.length * z.length ≤ 16777216 then some (.str (Txt.join z ys)) else none
  | .tuple ds => (strsOf ds).bind fun ys => if (ys.map (·.length)).sum + ys.length * z.length ≤ 16777216 then some (.str (Txt.join z ys)) else none
  | _ => none
theorem strs_dd {K : PySem.W.Frag} {G : Hp} : ∀ {vs : List V} {ds : List D} {ys : List Str}, DdAll K G vs ds → strsOf ds = some ys → vs = ys.map V.str
  | _, [], ys, h, e => by
    cases h
    cases e
    rfl
  | _, d :: ds, ys, h, e => by
    cases h with
    | cons h1 h2 =>
      cases d with
      | str z =>
        obtain ⟨zs, e1, rfl⟩ := Option.map_eq_some_iff.mp (show (strsOf ds).map (z :: ·) = some ys from e)
        cases h1
        rw [strs_dd h2 e1]
        rfl
      | none => cases e
      | bool _ => cases e
      | int _ => cases e
      | list _ => cases e
      | tuple _ => cases e
      | dict _ => cases e
def rJoin (K : PySem.W.Frag) : V → List V → Hp → VK → Prop := fun x xs H Q => ∃ a p, ∃ ys : List Str, x = .str a ∧ xs = [.ref p] ∧ (SqL K H p (ys.map V.str) ∨ SqT K H p (ys.map V.str)) ∧ (ys.map (·.length)).sum + ys.length * a.length ≤ 16777216 ∧ Q (.str (Txt.join a ys)) H
theorem sm_join {K : PySem.W.Frag} : Sm1 K (rJoin K) joinD := by
  intro G H z w d2 d Q s h2 e k
  unfold joinD at e
  split at e
  · obtain ⟨ys, e1, e⟩ := Option.bind_eq_some_iff.mp e
    split at e
    · rename_i hl
      cases e
      obtain ⟨p, vs, rfl, hp, hd⟩ := h2.list s
      exact ⟨z, p, ys, rfl, rfl, .inl (by rw [← strs_dd hd e1]; exact .inl (.inl hp)), hl, keep_ k (.str _)⟩
    · cases e
  · obtain ⟨ys, e1, e⟩ := Option.bind_eq_some_iff.mp e
    split at e
    · rename_i hl
      cases e
      obtain ⟨p, vs, rfl, hp, hd⟩ := h2.tuple s
      exact ⟨z, p, ys, rfl, rfl, .inr (by rw [← strs_dd hd e1]; exact .inl (.inl (s _ _ hp))), hl, keep_ k (.str _)⟩
    · cases e
  · cases e
def occs (x y : Str) : List Nat := Builtin.Str.occurrences x y 0 x.length 1
def sindexD (z : Str) : D → Option D
  | .str y => (occs z y).head?.map fun i => .int (i : Nat)
  | _ => none
def rSindex : V → List V → Hp → VK → Prop := fun x xs H Q => ∃ a b i rest, x = .str a ∧ xs = [.str b] ∧ Builtin.Str.occurrences a b 0 a.length 1 = i :: rest ∧ Q (.int (i : Nat)) H
theorem sm_sindex {K : PySem.W.Frag} : Sm1 K rSindex sindexD := by
  intro G H z w d2 d Q s h2 e k
  unfold sindexD at e
  split at e
  · rename_i y
    cases q : occs z y with
    | nil => rw [q] at e; cases e
    | cons i r =>
      rw [q] at e
      cases e
      rw [h2.str]
      exact ⟨z, y, i, r, rfl, rfl, q, keep_ k (.int _)⟩
  · cases e
section
variable {X : Cx} {cl : Cl} {W : WX} {o a : Expr} {A : Opd} {g : Ev D} {apos cpos : Pos}
theorem d_join (ho : PE X o (tE X.K cl W g)) (ha : PE X a (tP X.K cl W A)) (hbase : attributeBase o "join" X.env (eval o X.env) = eval o X.env := by rfl)
    (hfew : ((backTo cpos (starEach [a] X.env)).all (fun x => !x.1) && (backToKw cpos (keywordEach [] X.env)).all (fun x => x.1.isSome)
      && decide (([a] : List Expr).length + ([] : List Keyword).length + (if ([] : List Keyword).isEmpty then 0 else 1) < 30)) = true := by rfl)
    (hline : (apos.endLine == cpos.line) = true := by rfl) (hs : starEach [a] X.env = (false, eval a X.env) :: starEach [] X.env := by rfl) (hplain : (backTo cpos (starEach [] X.env)).any (·.1) = false := by rfl) :
    PE X (.Call (.Attribute o "join" apos) [a] [] cpos) (tE X.K cl W (eM1 joinD g A)) := d_m1 PySem.F.slot_str_join PySem.F.type_str_join mt_join sm_join ho ha hbase hfew hline hs hplain
theorem d_sindex (ho : PE X o (tE X.K cl W g)) (ha : PE X a (tP X.K cl W A)) (hbase : attributeBase o "index" X.env (eval o X.env) = eval o X.env := by rfl)
    (hfew : ((backTo cpos (starEach [a] X.env)).all (fun x => !x.1) && (backToKw cpos (keywordEach [] X.env)).all (fun x => x.1.isSome)
      && decide (([a] : List Expr).length + ([] : List Keyword).length + (if ([] : List Keyword).isEmpty then 0 else 1) < 30)) = true := by rfl)
    (hline : (apos.endLine == cpos.line) = true := by rfl) (hs : starEach [a] X.env = (false, eval a X.env) :: starEach [] X.env := by rfl) (hplain : (backTo cpos (starEach [] X.env)).any (·.1) = false := by rfl) :
    PE X (.Call (.Attribute o "index" apos) [a] [] cpos) (tE X.K cl W (eM1 sindexD g A)) := d_m1 PySem.F.slot_str_index PySem.F.type_str_index mt_sindex sm_sindex ho ha hbase hfew hline hs hplain
end
/-- text * int -/
def smulD : D → D → Option D
  | .str x, .int n => if x.length ≤ 1000 ∧ 0 ≤ n ∧ n ≤ 1000 then some (.str (Txt.mul x n)) else none
  | _, _ => none
def rSmul : R2 := fun x y H Q => ∃ z n, x = .str z ∧ y = .int n ∧ z.length ≤ 1000 ∧ 0 ≤ n ∧ n ≤ 1000 ∧ Q (.str (Txt.mul z n)) H
theorem op_smul {X : Cx} : OpR X (binaryOp .Mult) rSmul := by
  intro pins s σ H x y v u Q I rx ry h
  obtain ⟨z, n, rfl, rfl, h1, h2, h3, q⟩ := h
  obtain ⟨t, rfl⟩ := rx
  obtain ⟨t', rfl⟩ := ry
  exact SB.mul (PyProof.Rows.mulOk_of 1000 1000 h1 h3 (by omega) (by decide) (by decide)) fun t2 k => ⟨.str _, H, I.tok k, ⟨t2, rfl⟩, q⟩
theorem sd_smul {K : PySem.W.Frag} : Sd2 K rSmul smulD := by
  intro G H v w d1 d2 d Q s h1 h2 e k
  unfold smulD at e
  split at e
  · split at e
    · rename_i hc
      cases e
      exact ⟨_, _, h1.str, h2.int, hc.1, hc.2.1, hc.2.2, keep_ k (.str _)⟩
    · cases e
  · cases e

/-! ### what a list of our own becomes -/
section
variable {K : PySem.W.Frag} {M : Addr → Prop} {σ : St} {ρ : Rho} {H : Hp} {i : Nat} {b : Bool} {o o' : Ob} {p : Addr} {u : HO}
theorem own_obj (e : ρ[i]? = some (.ow b o)) (q : Addr) : Own σ (ρ.set i (.ow b o')) q ↔ Own σ ρ q := by
  have hl := (List.getElem?_eq_some_iff.mp e).1
  constructor
  · rintro ⟨j, b', o2, h1, h2⟩
    by_cases ij : i = j
    · subst ij; exact ⟨i, b, o, e, h2⟩
    · rw [List.getElem?_set_ne ij] at h1; exact ⟨j, b', o2, h1, h2⟩
  · rintro ⟨j, b', o2, h1, h2⟩
    by_cases ij : i = j
    · subst ij; exact ⟨i, b, o', List.getElem?_set_self hl, h2⟩
    · exact ⟨j, b', o2, by rw [List.getElem?_set_ne ij]; exact h1, h2⟩
theorem Rel.obj (R : Rel K M σ H ρ) (e : ρ[i]? = some (.ow b o)) (hp : σ[i]? = some (some (.ref p))) (new : ObAt K (rs (Mu M σ ρ) H) (upd H p u) p o') :
    Rel K M σ (upd H p u) (ρ.set i (.ow b o')) ∧ Go σ ρ H σ (ρ.set i (.ow b o')) (upd H p u) := by
  have hl := (List.getElem?_eq_some_iff.mp e).1
  have nM : ¬ M p := by
    obtain ⟨a, h1, h2, _⟩ := R.ow i b o e
    rw [hp] at h1; cases h1; exact h2
  have em : Mu M σ (ρ.set i (.ow b o')) = Mu M σ ρ := by
    funext q
    exact propext ⟨fun z => z.elim .inl fun z => .inr ((own_obj e q).mp z), fun z => z.elim .inl fun z => .inr ((own_obj e q).mpr z)⟩
  have er : rs (Mu M σ ρ) (upd H p u) = rs (Mu M σ ρ) H := by
    funext q
    unfold rs
    by_cases z : Mu M σ ρ q
    · rw [if_pos z, if_pos z]
    · rw [if_neg z, if_neg z, upd_ne]
      intro y
      subst y
      exact z (.inr ⟨i, b, o, e, hp⟩)
  have hlive : ∀ q w, H q = some w → ∃ w', upd H p u q = some w' := fun q w h => by
    by_cases z : q = p
    · exact ⟨u, by rw [z, upd_same]⟩
    · exact ⟨w, by rw [upd_ne z]; exact h⟩
  refine ⟨⟨by rw [R.len, List.length_set], fun q h => ?_, fun j d q => ?_, fun j b' o2 q => ?_, fun j k b1 o1 b2 o2 a h1 h2 h3 h4 => ?_⟩, ⟨fun q w h n => ?_, fun q h => .inl ((own_obj e q).mp h), fun j o2 h => ⟨?_, rfl⟩, hlive⟩⟩
  · obtain ⟨w, h⟩ := R.live q h
    exact hlive q w h
  · by_cases ij : i = j
    · subst ij; rw [List.getElem?_set_self hl] at q; cases q
    · rw [List.getElem?_set_ne ij] at q
      rw [em, er]
      exact R.fz j d q
  · rw [em, er]
    by_cases ij : i = j
    · subst ij
      rw [List.getElem?_set_self hl] at q
      cases q
      exact ⟨p, hp, nM, new⟩
    · rw [List.getElem?_set_ne ij] at q
      obtain ⟨a, h1, h2, h3⟩ := R.ow j b' o2 q
      have ne : a ≠ p := fun z => by
        subst z
        exact ij (R.inj i j _ _ _ _ a e q hp h1)
      exact ⟨a, h1, h2, h3.mono (Same.refl _) (upd_ne ne)⟩
  · have own : ∀ {j : Nat} {b' : Bool} {o2 : Ob}, (ρ.set i (.ow b o'))[j]? = some (Sl.ow b' o2) → ∃ (b' : Bool) (o2 : Ob), ρ[j]? = some (Sl.ow b' o2) := fun {j b' o2} h => by
      by_cases ij : i = j
      · subst ij; exact ⟨b, o, e⟩
      · rw [List.getElem?_set_ne ij] at h; exact ⟨b', o2, h⟩
    obtain ⟨_, _, z1⟩ := own h1
    obtain ⟨_, _, z2⟩ := own h2
    exact R.inj j k _ _ _ _ a z1 z2 h3 h4
  · rw [upd_ne]
    · exact h
    · intro z
      subst z
      exact n ⟨i, b, o, e, hp⟩
  · by_cases ij : i = j
    · subst ij
      rw [List.getElem?_set_self hl] at h
      cases h
      exact ⟨o, e⟩
    · rw [List.getElem?_set_ne ij] at h
      exact ⟨o2, h⟩
end
/-- a change of a list that a name holds: the name's slot, the data -/
def mutS (f : List D → D → Option (List D)) (i : Nat) (g : Ev D) : Ev Fl := fun ρ => match ρ[i]? with
  | some (.ow _ (.ls _)) => (g ρ).bind fun d r => match r[i]? with
    | some (.ow b (.ls xs)) => match f xs d with
      | some ys => .ok .nx (r.set i (.ow b (.ls ys)))
      | none => .no
    | _ => .no
  | _ => .no
def Smu (K : PySem.W.Frag) (r : V → List V → Hp → VK → Prop) (f : List D → D → Option (List D)) : Prop :=
  ∀ G H p vs w xs d ys Q, Same G H → H p = some (.lst vs) → DdAll K G vs xs → Dd K G w d → f xs d = some ys → (∀ ws u, DdAll K G ws ys → Q u (upd H p (.lst ws))) → r (.ref p) [w] H Q
section
variable {X : Cx} {cl : Cl} {W : WX} {o a : Expr} {g : Ev D} {id : String} {name : Str} {apos cpos pos : Pos} {r : V → List V → Hp → VK → Prop} {f : List D → D → Option (List D)} {i : Nat}
theorem mu_w {K : PySem.W.Frag} (S : Smu K r f) (E : Ends) (σ : St) (H : Hp) (h : tS K cl W (mutS f i g) E σ H) : tDrop (tBM K "list" r (tVar i) (tCons (tE K cl W g) tNil)) E σ H := by
  obtain ⟨M, ρ, R, p⟩ := h
  unfold mutS at p
  split at p
  · rename_i b0 xs0 e0
    obtain ⟨q, hq, nq, vs0, hv0, _⟩ := R.ow i _ _ e0
    refine ⟨_, hq, .inl ⟨rfl, vs0, .inl (.inl hv0)⟩, ?_⟩
    refine tS_bind R p fun w d ρ1 H1 _ g1 R1 q1 p1 => ?_
    split at p1
    · rename_i b xs e
      split at p1
      · rename_i ys ef
        obtain ⟨q', hq', nq', vs, hv, hd⟩ := R1.ow i _ _ e
        rw [hq] at hq'
        cases hq'
        refine S _ H1 q vs w xs d ys _ (rs_sub _ _) hv hd q1 ef fun ws u hw => ?_
        obtain ⟨R2, g2⟩ := R1.obj (o' := .ls ys) (u := .lst ws) e hq ⟨ws, upd_same, hw⟩
        exact p1 σ _ g2 R2
      · exact p1.elim
    · exact p1.elim
  · exact p.elim
theorem s_mut (slot : Slot "list" name id) (hty : typeOf (.builtin id) = pure (.type "method_descriptor")) (hm : MtR X id r) (S : Smu X.K r f) (ho : PE X o (tVar i)) (ha : PE X a (tE X.K cl W g))
    (hsw : swapsWith (.Call (.Attribute o name apos) [a] [] cpos) none pos.line X.env = pure false := by rfl)
    (hbase : attributeBase o name X.env (eval o X.env) = eval o X.env := by rfl)
    (hfew : ((backTo cpos (starEach [a] X.env)).all (fun x => !x.1) && (backToKw cpos (keywordEach [] X.env)).all (fun x => x.1.isSome)
      && decide (([a] : List Expr).length + ([] : List Keyword).length + (if ([] : List Keyword).isEmpty then 0 else 1) < 30)) = true := by rfl)
    (hline : (apos.endLine == cpos.line) = true := by rfl) (hs : starEach [a] X.env = (false, eval a X.env) :: starEach [] X.env := by rfl) (hplain : (backTo cpos (starEach [] X.env)).any (·.1) = false := by rfl) :
    PS X (.Expr (.Call (.Attribute o name apos) [a] [] cpos) pos) (tS X.K cl W (mutS f i g)) :=
  PS.weak (ps_expr (pe_bm PySem.F.plainAttrs_list slot hty hm ho (pa_cons ha pa_nil hs) hbase hfew hline hs hplain) hsw) fun E σ H h => mu_w S E σ H h
def appF (xs : List D) (d : D) : Option (List D) := if xs.length < 16777216 then some (xs ++ [d]) else none
def extF (xs : List D) (d : D) : Option (List D) := match d with
  | .list ys => if xs.length + ys.length ≤ 16777216 then some (xs ++ ys) else none
  | _ => none
theorem mu_app {K : PySem.W.Frag} : Smu K rAppend appF := by
  intro G H p vs w xs d ys Q s hv hd hw e k
  unfold appF at e
  split at e
  · rename_i hl
    cases e
    exact ⟨p, vs, w, rfl, rfl, hv, by rw [line_, hd.length]; exact hl, k _ _ (hd.append (.cons hw .nil))⟩
  · cases e
theorem mu_ext {K : PySem.W.Frag} : Smu K rExtend extF := by
  intro G H p vs w xs d ys Q s hv hd hw e k
  unfold extF at e
  split at e
  · split at e
    · rename_i zs hl
      cases e
      cases hw with
      | lst hz hzd => exact ⟨p, _, vs, _, rfl, rfl, hv, s _ _ hz, by rw [line_, hd.length, hzd.length]; exact hl, k _ _ (hd.append hzd)⟩
    · cases e
  · cases e
/-- xs[i] = e, xs a name -/
def ixS (i : Nat) (gi g : Ev D) : Ev Fl := fun ρ => (g ρ).bind fun d r => match r[i]? with
  | some (.ow _ (.ls _)) => (gi r).bind fun k r2 => match k, r2[i]? with
    | .int k, some (.ow b (.ls xs)) => match ixN xs.length k with
      | some j => .ok .nx (r2.set i (.ow b (.ls (xs.set j d))))
      | none => .no
    | _, _ => .no
  | _ => .no
theorem Rel.slot {K : PySem.W.Frag} {M : Addr → Prop} {σ : St} {ρ : Rho} {H : Hp} {b : Bool} {o : Ob} (R : Rel K M σ H ρ) {i : Nat} (e : ρ[i]? = some (.ow b o)) : ∃ p, σ[i]? = some (some (.ref p)) ∧ ObAt K (rs (Mu M σ ρ) H) H p o := by
  obtain ⟨p, h1, _, h2⟩ := R.ow i b o e
  exact ⟨p, h1, h2⟩
end
end DL
end
section
set_option Elab.async false
set_option linter.all false
set_option maxRecDepth 100000
set_option autoImplicit false
namespace DL
open PySem PySem.Spec L2

/-! ### stores into lists of our own -/
theorem DdAll.setV {K : PySem.W.Frag} {G : Hp} {vs : List V} {xs : List D} (h : DdAll K G vs xs) {v : V} {d : D} (hv : Dd K G v d) (j : Nat) : DdAll K G (vs.set j v) (xs.set j d) := DdAll.set hv j h
section
variable {X : Cx} {cl : Cl} {W : WX} {o ie e : Expr} {g gi : Ev D} {i : Nat} {pos tpos : Pos}
theorem s_ix (ho : PE X o (tVar i)) (hi : PE X ie (tE X.K cl W gi)) (he : PE X e (tE X.K cl W g))
    (ha : ∀ v, assign (.Subscript o ie tpos) X.env v = (do
      let ov ← holding [v] (eval o X.env)
      let iv ← holding [v, ov] (eval ie X.env)
      standAt tpos
      holding [v, ov, iv] (setItem ov iv v)
      release [v, ov, iv] []) := by intro _; rfl)
    (hs : swapsWithSole [.Subscript o ie tpos] e pos.line X.env = pure false := by rfl) (hw : swappedStores [.Subscript o ie tpos] e X.env = pure none := by rfl)
    (h1 : (assignEach [.Subscript o ie tpos] X.env).map (·.2) = [assign (.Subscript o ie tpos) X.env] := by rfl) : PS X (.Assign [.Subscript o ie tpos] e pos) (tS X.K cl W (ixS i gi g)) := by
  refine PS.weak (ps_asg he (pg_sub ho hi set_list ha) hs hw h1) ?_
  rintro E σ H ⟨M, ρ, R, p⟩
  refine tS_bind R p fun v d ρ1 H1 _ g1 R1 q1 p1 => ?_
  have q1 : Dd X.K (rs (Mu M σ ρ1) H1) v d := q1
  split at p1
  · rename_i b0 xs0 e0
    obtain ⟨q, hq, _⟩ := R1.slot e0
    refine ⟨_, hq, ?_⟩
    refine tS_bind R1 p1 fun w k ρ2 H2 eg g2 R2 q2 p2 => ?_
    split at p2
    · rename_i k b xs e
      obtain ⟨q', hq', vs, hv, hd⟩ := R2.slot e
      rw [hq] at hq'
      cases hq'
      have ew : w = .int k := by cases q2; rfl
      subst ew
      split at p2
      · rename_i j ej
        refine ⟨q, vs, k, j, rfl, rfl, hv, by rw [hd.length]; exact ej, ?_⟩
        obtain ⟨R3, g3⟩ := R2.obj (o' := .ls (xs.set j d)) (u := .lst (vs.set j v)) e hq ⟨_, upd_same, hd.setV (dd_mono g2.same _ _ q1) j⟩
        exact p2 σ _ g3 R3
      · exact p2.elim
    · exact p2.elim
  · exact p1.elim
/-- a list's item, at a place from 0 on -/
def rGetL : V → V → Hp → VK → Prop := fun x y H Q => ∃ p xs i v, x = .ref p ∧ y = .int i ∧ H p = some (.lst xs) ∧ 0 ≤ i ∧ xs[i.toNat]? = some v ∧ Q v H
theorem get_list : PGet X rGetL := by
  intro pins s σ H x y ov iv Q I rx ry h
  obtain ⟨p, xs, i, v, rfl, rfl, hp, h0, hx, q⟩ := h
  cases rx
  obtain ⟨t, rfl⟩ := ry
  obtain ⟨z, its, n, r, hl, e⟩ := I.lstM hp
  obtain ⟨u, hu, ru⟩ := r.get hx
  have hlt := (List.getElem?_eq_some_iff.mp hx).1
  have hb : (sizeLine : Nat) < 2 ^ 63 := line63
  exact wpAny_getItem_list ⟨_, e, rfl, _, rfl⟩ h0 (by omega) (by rw [← Array.getElem?_toList]; exact hu) ⟨v, H, I, ru, q⟩
/-- xs[i] += e, ints -/
def ixAug (i : Nat) (gi g : Ev D) : Ev Fl := fun ρ => match ρ[i]? with
  | some (.ow _ (.ls _)) => (gi ρ).bind fun k r => match k, r[i]? with
    | .int k, some (.ow _ (.ls xs)) => if 0 ≤ k then match xs[k.toNat]? with
      | some (.int a) => (g r).bind fun d r2 => match d, r2[i]? with
        | .int c, some (.ow b (.ls ys)) => if k.toNat < ys.length then .ok .nx (r2.set i (.ow b (.ls (ys.set k.toNat (.int (a + c)))))) else .no
        | _, _ => .no
      | _ => .no
      else .no
    | _, _ => .no
  | _ => .no
theorem s_ixAug (ho : PE X o (tVar i)) (hi : PE X ie (tE X.K cl W gi)) (he : PE X e (tE X.K cl W g))
    (ha : ∀ ov iv new, augStore ie ov iv new = (do holding [new, ov, iv] (setItem ov iv new); release [new, ov, iv] []; pure .next) := by intros; rfl) : PS X (.AugAssign (.Subscript o ie tpos) .Add e pos) (tS X.K cl W (ixAug i gi g)) := by
  refine PS.weak (ps_augS ho hi get_list he ip_add set_list ha) ?_
  rintro E σ H ⟨M, ρ, R, p⟩
  unfold ixAug at p
  split at p
  · rename_i b0 xs0 e0
    obtain ⟨q, hq, _⟩ := R.slot e0
    refine ⟨_, hq, ?_⟩
    refine tS_bind R p fun w k ρ1 H1 eg g1 R1 q1 p1 => ?_
    split at p1
    · rename_i k b xs e
      obtain ⟨q', hq', vs, hv, hd⟩ := R1.slot e
      rw [hq] at hq'
      cases hq'
      have ew : w = .int k := by cases q1; rfl
      subst ew
      split at p1
      · rename_i h0
        split at p1
        · rename_i a ea
          obtain ⟨va, hva, hda⟩ := hd.get ea
          refine ⟨q, vs, k, va, rfl, rfl, hv, h0, hva, ?_⟩
          refine tS_bind R1 p1 fun y d ρ2 H2 eg2 g2 R2 q2 p2 => ?_
          split at p2
          · rename_i c b2 ys e2
            split at p2
            · rename_i hlt
              obtain ⟨q', hq', ws, hw, hd2⟩ := R2.slot e2
              rw [hq] at hq'
              cases hq'
              have ea : va = .int a := by cases hda; rfl
              have ec : y = .int c := by cases q2; rfl
              refine ⟨a, c, ea, ec, q, ws, k, k.toNat, rfl, rfl, hw, ?_, ?_⟩
              · unfold ixN
                rw [if_pos h0, if_pos (by rw [hd2.length]; omega)]
              · obtain ⟨R3, g3⟩ := R2.obj (o' := .ls (ys.set k.toNat (.int (a + c)))) (u := .lst (ws.set k.toNat (.int (a + c)))) e2 hq ⟨_, upd_same, hd2.setV (.int _) _⟩
                exact p2 σ _ g3 R3
            · exact p2.elim
          · exact p2.elim
        · exact p1.elim
      · exact p1.elim
    · exact p1.elim
  · exact p.elim
/-- xs.pop(e) as a value -/
def popE (i : Nat) (g : Ev D) : Ev D := fun ρ => match ρ[i]? with
  | some (.ow _ (.ls _)) => (g ρ).bind fun d r => match d, r[i]? with
    | .int k, some (.ow b (.ls xs)) => if 0 ≤ k ∧ k < 2 ^ 63 then match xs[k.toNat]? with
      | some x => .ok x (r.set i (.ow b (.ls (xs.eraseIdx k.toNat))))
      | none => .no
      else .no
    | _, _ => .no
  | _ => .no
theorem d_pop {apos cpos : Pos} {a : Expr} (ho : PE X o (tVar i)) (ha : PE X a (tE X.K cl W g))
    (hbase : attributeBase o "pop" X.env (eval o X.env) = eval o X.env := by rfl)
    (hfew : ((backTo cpos (starEach [a] X.env)).all (fun x => !x.1) && (backToKw cpos (keywordEach [] X.env)).all (fun x => x.1.isSome)
      && decide (([a] : List Expr).length + ([] : List Keyword).length + (if ([] : List Keyword).isEmpty then 0 else 1) < 30)) = true := by rfl)
    (hline : (apos.endLine == cpos.line) = true := by rfl) (hs : starEach [a] X.env = (false, eval a X.env) :: starEach [] X.env := by rfl) (hplain : (backTo cpos (starEach [] X.env)).any (·.1) = false := by rfl) :
    PE X (.Call (.Attribute o "pop" apos) [a] [] cpos) (tE X.K cl W (popE i g)) := by
  refine PE.weak (pe_bm PySem.F.plainAttrs_list PySem.F.slot_list_pop PySem.F.type_list_pop mt_popAt ho (pa_cons ha pa_nil hs) hbase hfew hline hs hplain) ?_
  rintro σ H Q ⟨M, ρ, R, p⟩
  unfold popE at p
  split at p
  · rename_i b0 xs0 e0
    obtain ⟨q, hq, vs0, hv0, _⟩ := R.slot e0
    refine ⟨_, hq, .inl ⟨rfl, vs0, .inl (.inl hv0)⟩, ?_⟩
    refine tG_bind R p fun w k ρ1 H1 eg g1 R1 q1 p1 => ?_
    split at p1
    · rename_i k b xs e
      split at p1
      · rename_i hk
        split at p1
        · rename_i x ex
          obtain ⟨q', hq', vs, hv, hd⟩ := R1.slot e
          rw [hq] at hq'
          cases hq'
          have ew : w = .int k := by cases q1; rfl
          subst ew
          obtain ⟨vx, hvx, hdx⟩ := hd.get ex
          have hlt := (List.getElem?_eq_some_iff.mp hvx).1
          obtain ⟨R3, g3⟩ := R1.obj (o' := .ls (xs.eraseIdx k.toNat)) (u := .lst (vs.eraseIdx k.toNat)) e hq ⟨_, upd_same, hd.eraseIdx _⟩
          refine ⟨q, vs, k, k.toNat, vx, rfl, rfl, hv, by omega, hk.2, seqIndex_of hk.1 (by omega), hvx, ?_⟩
          exact p1 _ _ g3 R3 (dd_mono g3.same _ _ hdx)
        · exact p1.elim
      · exact p1.elim
    · exact p1.elim
  · exact p.elim
end

/-! ### truth -/
def truD : D → Option Bool
  | .none => some false
  | .bool b => some b
  | .int i => some (i != 0)
  | .str z => if z.length ≤ 16777216 then some ((z.length : Int) != 0) else none
  | .list xs => some (!xs.isEmpty)
  | .tuple xs => some (!xs.isEmpty)
  | .dict _ => none
theorem isE {K : PySem.W.Frag} {G : Hp} {vs : List V} {ds : List D} (h : DdAll K G vs ds) : vs.isEmpty = ds.isEmpty := by cases h <;> rfl
section
variable {X : Cx} {cl : Cl} {W : WX} {a b c : Expr} {A B C : Opd} {pos : Pos}
theorem t_tru (ha : PE X a (tP X.K cl W A)) (he : ∀ whole, isTrue a X.env whole = (do let v ← whole; standAt a.pos; holding [v] (truthy v)) := by intro _; rfl) : PT X a (tT X.K cl W (e1 truD A)) := by
  refine PT.weak (pt_truth ha he) ?_
  rintro σ H Q ⟨M, ρ, R, p⟩
  refine tG_bind R p fun v x ρ1 H1 _ g1 R1 q1 p1 => ?_
  cases q : (x.fin ρ1).bind truD with
  | none => rw [q] at p1; exact p1.elim
  | some k =>
    rw [q] at p1
    refine ⟨k, ?_, p1 k H1 Go.refl R1 rfl⟩
    obtain ⟨d1, h1, e⟩ := Option.bind_eq_some_iff.mp q
    have hb := RV0.fin R1 q1 h1
    have s := rs_sub (Mu M σ ρ1) H1
    unfold truD at e
    split at e
    · cases e; rw [hb.none]; rfl
    · cases e; rw [hb.bool]; rfl
    · cases e; rw [hb.int]; rfl
    · split at e
      · rename_i hz
        cases e; rw [hb.str]; exact ⟨by rw [line_]; exact hz, rfl⟩
      · cases e
    · cases e
      obtain ⟨q, vs, rfl, hp, hd⟩ := hb.list s
      exact .inl ⟨vs, .inl (.inl hp), by rw [isE hd]⟩
    · cases e
      obtain ⟨q, vs, rfl, hp, hd⟩ := hb.tuple s
      exact .inr (.inl ⟨vs, .inl (.inl (s _ _ hp)), by rw [isE hd]⟩)
    · cases e
/-- a op b op' c -/
def eCh (f f' : D → D → Option D) (a b c : Opd) : Ev D := fun ρ => (a.run ρ).bind fun x r => (b.run r).bind fun y r2 => (ofO ((x.fin r2).bind fun p => (y.fin r2).bind fun q => f p q) r2).bind fun d r2 => match d with
  | .bool k => if k = true then (c.run r2).bind fun z r3 => ofO ((y.fin r3).bind fun q => (z.fin r3).bind fun o => f' q o) r3 else .ok (.bool false) r2
  | _ => .no
theorem ch_w {K : PySem.W.Frag} {r r' : R2} {f f' : D → D → Option D} (S : Sd2 K r f) (S' : Sd2 K r' f') (σ : St) (H : Hp) (Q : VK) (h : tE K cl W (eCh f f' A B C) σ H Q) : tChain r r' (tP K cl W A) (tP K cl W B) (tP K cl W C) σ H Q := by
  obtain ⟨M, ρ, R, p⟩ := h
  refine tG_bind R p fun v x ρ1 H1 _ g1 R1 q1 p1 => ?_
  refine tG_bind R1 p1 fun w y ρ2 H2 _ g2 R2 q2 p2 => ?_
  cases ef : (x.fin ρ2).bind (fun p => (y.fin ρ2).bind fun q => f p q) with
  | none => rw [ef] at p2; exact p2.elim
  | some d =>
    rw [ef] at p2
    obtain ⟨d1, e1, e⟩ := Option.bind_eq_some_iff.mp ef
    obtain ⟨d2, e2, e⟩ := Option.bind_eq_some_iff.mp e
    refine S _ H2 v w d1 d2 d _ (rs_sub _ _) (RV0.fin R2 (RV0.go g2 q1) e1) (RV0.fin R2 q2 e2) e fun u H3 s3 hu => ?_
    have g3 : Go σ ρ2 H2 σ ρ2 H3 := Go.ext R2 s3
    have R3 := R2.ext s3
    have p3 := Pst.step g3 p2
    cases d with
    | bool k =>
      have eu : u = .bl k := by cases hu; rfl
      refine ⟨k, eu, ?_⟩
      have p3 : Pst K cl W (RD K) M σ ρ2 H3 (if k = true then (C.run ρ2).bind fun z r3 => ofO ((y.fin r3).bind fun q => (z.fin r3).bind fun o => f' q o) r3 else .ok (.bool false) ρ2) Q := p3
      cases k with
      | false =>
        rw [if_neg (by decide)] at p3 ⊢
        exact p3 _ H3 Go.refl R3 (.bl false)
      | true =>
        rw [if_pos rfl] at p3 ⊢
        refine tG_bind R3 p3 fun z zz ρ4 H4 _ g4 R4 q4 p4 => ?_
        refine end_d R4 p4 fun d e k => ?_
        obtain ⟨c1, h1, e⟩ := Option.bind_eq_some_iff.mp e
        obtain ⟨c2, h2, e⟩ := Option.bind_eq_some_iff.mp e
        exact S' _ H4 w z c1 c2 d Q (rs_sub _ _) (RV0.fin R4 (RV0.go (g3.trans g4) q2) h1) (RV0.fin R4 q4 h2) e k
    | none => exact p3.elim
    | int _ => exact p3.elim
    | str _ => exact p3.elim
    | list _ => exact p3.elim
    | tuple _ => exact p3.elim
    | dict _ => exact p3.elim
theorem d_chain {op op' : CmpOp} {r r' : R2} {f f' : D → D → Option D} (ho : OpR X (compareOp op) r) (S : Sd2 X.K r f) (ho' : OpR X (compareOp op') r') (S' : Sd2 X.K r' f') (ha : PE X a (tP X.K cl W A)) (hb : PE X b (tP X.K cl W B)) (hc : PE X c (tP X.K cl W C))
    (hm : lastMarks [op, op'] [b, c] = false := by with_unfolding_all rfl) : PE X (.Compare a [op, op'] [b, c] pos) (tE X.K cl W (eCh f f' A B C)) := PE.weak (pe_chain ho ho' ha hb hc hm) (ch_w S S')
theorem t_chain {op op' : CmpOp} {r r' : R2} {f f' : D → D → Option D} (ho : OpR X (compareOp op) r) (S : Sd2 X.K r f) (ho' : OpR X (compareOp op') r') (S' : Sd2 X.K r' f') (ha : PE X a (tP X.K cl W A)) (hb : PE X b (tP X.K cl W B)) (hc : PE X c (tP X.K cl W C))
    (hm : lastMarks [op, op'] [b, c] = false := by with_unfolding_all rfl) : PT X (.Compare a [op, op'] [b, c] pos) (tT X.K cl W (eT (eCh f f' A B C))) := by
  refine PT.weak (pt_chain ho ho' ha hb hc hm) fun σ H Q h => ?_
  exact ch_w S S' σ H _ (tT_of σ H Q h)
end

/-! ### raise -/
def erS (c : String) : Ev Fl := fun ρ => .er c ρ
theorem s_raise {X : Cx} {cl : Cl} {W : WX} {x m : Str} {j : Nat} {p p2 pos pos' : Pos} {c : String} {C : Addr} {B newId initId : _} {bmB : List Value} (hc : X.calm = true) (tk : Takes X W) (hcl : cl c (.ref C) none) (F : PySem.ExcBaseFacts B newId initId bmB) (q : PySem.W.excIn X.K C bmB newId = true) (gC : X.mg x = some (.ref C)) (kC : PySem.W.keepIn X.K (.ref C) = true) (r : Raises X (.ref C)) (hg : Gl X x)
    (hdb : (x == ("__debug__" : Str)) = false := by decide) : PS X (.Raise (some (.Call (.Name x p) [.Constant (.str m) j p2] [] pos')) none pos) (tS X.K cl W (erS c)) := by
  refine PS.weak (ps_raise hc tk (pmk_own F q gC kC r hg hdb)) ?_
  rintro E σ H ⟨M, ρ, R, p⟩
  exact p (.ref C) none σ H hcl Go.refl R
end DL
end
section
set_option Elab.async false
set_option linter.all false
set_option maxRecDepth 100000
set_option autoImplicit false
namespace DL
open PySem PySem.Spec L2

/-! ### dicts of our own -/
def toK : D → Option Key
  | .int i => some (.inl i)
  | .str z => some (.inr z)
  | _ => none
def toKs : List D → Option (List Key)
  | [] => some []
  | d :: ds => (toK d).bind fun k => (toKs ds).map (k :: ·)
theorem toK_dd {K : PySem.W.Frag} {G : Hp} {v : V} {d : D} {k : Key} (h : Dd K G v d) (e : toK d = some k) : v = kV k := by
  unfold toK at e
  split at e
  · cases e; cases h; rfl
  · cases e; cases h; rfl
  · cases e
theorem toKs_dd {K : PySem.W.Frag} {G : Hp} : ∀ {vs : List V} {ds : List D} {ks : List Key}, DdAll K G vs ds → toKs ds = some ks → vs = ks.map kV
  | _, [], ks, h, e => by cases h; cases e; rfl
  | _, d :: ds, ks, h, e => by
    cases h with
    | cons h1 h2 =>
      obtain ⟨k, e1, e⟩ := Option.bind_eq_some_iff.mp (show (toK d).bind (fun k => (toKs ds).map (k :: ·)) = some ks from e)
      obtain ⟨zs, e2, rfl⟩ := Option.map_eq_some_iff.mp e
      rw [toK_dd h1 e1, toKs_dd h2 e2]
      rfl
section
variable {κ : Type} [DecidableEq κ]
def lk : List (κ × D) → κ → Option D
  | [], _ => none
  | (j, d) :: r, k => if j = k then some d else lk r k
def pt' (r : List (κ × D)) (k : κ) (d : D) : List (κ × D) := if (lk r k).isSome then r.map fun p => if p.1 = k then (p.1, d) else p else r ++ [(k, d)]
variable {K : PySem.W.Frag} {G : Hp}
theorem lk_val : ∀ {ws : List (κ × V)} {kvs : List (κ × D)} (k : κ), KDp K G ws kvs → (∀ d, lk kvs k = some d → ∃ v, valV ws k = some v ∧ Dd K G v d) ∧ (lk kvs k = none → valV ws k = none)
  | _, _, k, .nil => ⟨(fun d h => by cases h), (fun _ => rfl)⟩
  | (a, v) :: ws, (b, d) :: kvs, k, .cons h t => by
    obtain ⟨h1, h2⟩ := h
    have h1 : a = b := h1
    subst h1
    obtain ⟨i1, i2⟩ := lk_val k t
    by_cases e : a = k
    · subst e
      refine ⟨fun d' z => ?_, fun z => ?_⟩
      · rw [lk, if_pos rfl] at z
        cases z
        exact ⟨v, valV_pos rfl, h2⟩
      · rw [lk, if_pos rfl] at z; cases z
    · rw [lk, if_neg e, valV_neg e]
      exact ⟨i1, i2⟩
theorem lk_some {ws : List (κ × V)} {kvs : List (κ × D)} (k : κ) (h : KDp K G ws kvs) : (valV ws k).isSome = (lk kvs k).isSome := by
  obtain ⟨h1, h2⟩ := lk_val k h
  cases e : lk kvs k with
  | none => rw [h2 e]; rfl
  | some d =>
    obtain ⟨v, e2, _⟩ := h1 d e
    rw [e2]
    rfl
theorem map_kd {k : κ} {v : V} {d : D} (hv : Dd K G v d) : ∀ {ws : List (κ × V)} {kvs : List (κ × D)}, KDp K G ws kvs → KDp K G (ws.map fun kv => if kv.1 = k then (kv.1, v) else kv) (kvs.map fun p => if p.1 = k then (p.1, d) else p)
  | _, _, .nil => .nil
  | (a, w) :: ws, (b, e) :: kvs, .cons h t => by
    obtain ⟨h1, h2⟩ := h
    have h1 : a = b := h1
    subst h1
    refine .cons ?_ (map_kd hv t)
    dsimp only
    by_cases e : a = k
    · rw [if_pos e, if_pos e]; exact ⟨rfl, hv⟩
    · rw [if_neg e, if_neg e]; exact ⟨rfl, h2⟩
theorem kd_app : ∀ {ws ws' : List (κ × V)} {kvs kvs' : List (κ × D)}, KDp K G ws kvs → KDp K G ws' kvs' → KDp K G (ws ++ ws') (kvs ++ kvs')
  | _, _, _, _, .nil, h => h
  | _, _, _, _, .cons h t, h' => .cons h (kd_app t h')
theorem pt_kd {k : κ} {v : V} {d : D} {ws : List (κ × V)} {kvs : List (κ × D)} (hv : Dd K G v d) (h : KDp K G ws kvs) : KDp K G (putK ws k v) (pt' kvs k d) := by
  have e := lk_some k h
  unfold pt'
  by_cases c : (lk kvs k).isSome = true
  · rw [if_pos c]
    have z : (ws.any fun kv => decide (kv.1 = k)) = true := by rw [valV_any, e]; exact c
    unfold putK
    rw [if_pos z]
    exact map_kd hv h
  · rw [if_neg c]
    have z : valV ws k = none := by
      cases q : valV ws k with
      | none => rfl
      | some w => rw [q] at e; exact absurd e.symm c
    rw [putK_new v z]
    exact kd_app h (.cons ⟨rfl, hv⟩ .nil)
theorem kd_len : ∀ {ws : List (κ × V)} {kvs : List (κ × D)}, KDp K G ws kvs → ws.length = kvs.length := fun h => Paired.length h
end
/-- what an owned dict holds at a key -/
def dGet (o : Ob) (d : D) : Option (Option D) := match o, d with
  | .dt kvs, .tuple ds => (toKs ds).map fun ks => lk kvs ks
  | .dk kvs, d => (toK d).map fun k => lk kvs k
  | _, _ => none
def dPut (o : Ob) (d x : D) : Option Ob := match o, d with
  | .dt kvs, .tuple ds => (toKs ds).bind fun ks => if kvs.length < 16777216 then some (.dt (pt' kvs ks x)) else none
  | .dk kvs, d => (toK d).bind fun k => if kvs.length < 16777216 then some (.dk (pt' kvs k x)) else none
  | _, _ => none
theorem dget_w {K : PySem.W.Frag} {G H : Hp} {p : Addr} {o : Ob} {w : V} {d : D} {r : Option D} (s : Same G H) (ob : ObAt K G H p o) (hw : Dd K G w d) (e : dGet o d = some r) :
    ∃ rv, DGet H p w rv ∧ rv.isSome = r.isSome ∧ ∀ x, r = some x → ∃ v, rv = some v ∧ Dd K G v x := by
  unfold dGet at e
  split at e
  · obtain ⟨ks, e1, rfl⟩ := Option.map_eq_some_iff.mp e
    obtain ⟨ws, hp, hk⟩ := ob
    cases hw with
    | tup ht hd =>
      have ev := toKs_dd hd e1
      subst ev
      exact ⟨_, DGet.t hp (s _ _ ht), lk_some ks hk, fun x z => (lk_val ks hk).1 x z⟩
  · obtain ⟨k, e1, rfl⟩ := Option.map_eq_some_iff.mp e
    obtain ⟨ws, hp, hk⟩ := ob
    have ev := toK_dd hw e1
    subst ev
    exact ⟨_, DGet.k hp, lk_some k hk, fun x z => (lk_val k hk).1 x z⟩
  · cases e
theorem dput_w {K : PySem.W.Frag} {G H : Hp} {p : Addr} {o o' : Ob} {w v : V} {d x : D} (s : Same G H) (ob : ObAt K G H p o) (hw : Dd K G w d) (hv : Dd K G v x) (e : dPut o d x = some o') :
    ∃ u, DPut H p w v (upd H p u) ∧ ObAt K G (upd H p u) p o' := by
  unfold dPut at e
  split at e
  · obtain ⟨ks, e1, e⟩ := Option.bind_eq_some_iff.mp e
    split at e
    · rename_i hl
      cases e
      obtain ⟨ws, hp, hk⟩ := ob
      cases hw with
      | tup ht hd =>
        have ev := toKs_dd hd e1
        subst ev
        exact ⟨_, DPut.t hp (s _ _ ht) (by rw [line_, kd_len hk]; exact hl), _, upd_same, pt_kd hv hk⟩
    · cases e
  · obtain ⟨k, e1, e⟩ := Option.bind_eq_some_iff.mp e
    split at e
    · rename_i hl
      cases e
      obtain ⟨ws, hp, hk⟩ := ob
      have ev := toK_dd hw e1
      subst ev
      exact ⟨_, DPut.k hp (by rw [line_, kd_len hk]; exact hl), _, upd_same, pt_kd hv hk⟩
    · cases e
  · cases e
def obS (r : Rho) (i : Nat) : Option Ob := match r[i]? with
  | some (.ow _ o) => some o
  | _ => none
theorem obS_of {r : Rho} {i : Nat} {o : Ob} (h : obS r i = some o) : ∃ b, r[i]? = some (.ow b o) := by
  unfold obS at h
  split at h
  · rename_i b o' e
    cases h
    exact ⟨b, e⟩
  · cases h
/-- k in d, k not in d -/
def dinE (n : Bool) (i : Nat) (g : Ev D) : Ev D := fun ρ => (g ρ).bind fun d r => ofO ((obS r i).bind fun o => (dGet o d).map fun x => .bool (if n then !x.isSome else x.isSome)) r
/-- d[k] -/
def dgetE (i : Nat) (g : Ev D) : Ev D := fun ρ => match obS ρ i with
  | some _ => (g ρ).bind fun d r => ofO ((obS r i).bind fun o => (dGet o d).bind fun x => x) r
  | none => .no
/-- d[k] = v -/
def dputS (i : Nat) (gi g : Ev D) : Ev Fl := fun ρ => (g ρ).bind fun x r => match obS r i with
  | some _ => (gi r).bind fun d r2 => match r2[i]? with
    | some (.ow b o) => match dPut o d x with
      | some o' => .ok .nx (r2.set i (.ow b o'))
      | none => .no
    | _ => .no
  | none => .no
section
variable {X : Cx} {cl : Cl} {W : WX} {o ie e : Expr} {g gi : Ev D} {i : Nat} {pos pos' : Pos}
theorem din_w {K : PySem.W.Frag} (σ : St) (H : Hp) (Q : VK) (h : tE K cl W (dinE false i g) σ H Q) : tDIn (tE K cl W g) (tVar i) σ H Q := by
  obtain ⟨M, ρ, R, p⟩ := h
  refine tG_bind R p fun v d ρ1 H1 _ g1 R1 q1 p1 => ?_
  refine end_d R1 p1 fun x ex k => ?_
  obtain ⟨ob, e1, ex⟩ := Option.bind_eq_some_iff.mp ex
  obtain ⟨r, e2, rfl⟩ := Option.map_eq_some_iff.mp ex
  obtain ⟨b, e3⟩ := obS_of e1
  obtain ⟨a, ha, hob⟩ := R1.slot e3
  obtain ⟨rv, z1, z2, _⟩ := dget_w (rs_sub _ _) hob q1 e2
  refine ⟨.ref a, ha, a, rv, rfl, z1, ?_⟩
  rw [z2]
  exact keep_ k (.bl _)
theorem dnin_w {K : PySem.W.Frag} (σ : St) (H : Hp) (Q : VK) (h : tE K cl W (dinE true i g) σ H Q) : tDNotIn (tE K cl W g) (tVar i) σ H Q := by
  obtain ⟨M, ρ, R, p⟩ := h
  refine tG_bind R p fun v d ρ1 H1 _ g1 R1 q1 p1 => ?_
  refine end_d R1 p1 fun x ex k => ?_
  obtain ⟨ob, e1, ex⟩ := Option.bind_eq_some_iff.mp ex
  obtain ⟨r, e2, rfl⟩ := Option.map_eq_some_iff.mp ex
  obtain ⟨b, e3⟩ := obS_of e1
  obtain ⟨a, ha, hob⟩ := R1.slot e3
  obtain ⟨rv, z1, z2, _⟩ := dget_w (rs_sub _ _) hob q1 e2
  refine ⟨.ref a, ha, a, rv, rfl, z1, ?_⟩
  rw [z2]
  exact keep_ k (.bl _)
theorem d_din (hu : X.A.units + 1 < cLine) (hi : PE X ie (tE X.K cl W g)) (ho : PE X o (tVar i)) (hm : behindInMarks .In o = false := by rfl) : PE X (.Compare ie [.In] [o] pos) (tE X.K cl W (dinE false i g)) := PE.weak (pe_cmp (pc_din hu hi ho) hm) din_w
theorem d_dnin (hu : X.A.units + 1 < cLine) (hi : PE X ie (tE X.K cl W g)) (ho : PE X o (tVar i)) (hm : behindInMarks .NotIn o = false := by rfl) : PE X (.Compare ie [.NotIn] [o] pos) (tE X.K cl W (dinE true i g)) := PE.weak (pe_cmp (pc_dnotin hu hi ho) hm) dnin_w
theorem t_din (hu : X.A.units + 1 < cLine) (hi : PE X ie (tE X.K cl W g)) (ho : PE X o (tVar i)) (hm : behindInMarks .In o = false := by rfl) : PT X (.Compare ie [.In] [o] pos) (tT X.K cl W (eT (dinE false i g))) := by
  refine PT.weak (pt_cmp (pc_din hu hi ho) hm) fun σ H Q h => ?_
  exact din_w σ H _ (tT_of σ H Q h)
theorem t_dnin (hu : X.A.units + 1 < cLine) (hi : PE X ie (tE X.K cl W g)) (ho : PE X o (tVar i)) (hm : behindInMarks .NotIn o = false := by rfl) : PT X (.Compare ie [.NotIn] [o] pos) (tT X.K cl W (eT (dinE true i g))) := by
  refine PT.weak (pt_cmp (pc_dnotin hu hi ho) hm) fun σ H Q h => ?_
  exact dnin_w σ H _ (tT_of σ H Q h)
theorem d_dget (hu : X.A.units + 1 < cLine) (ho : PE X o (tVar i)) (hi : PE X ie (tE X.K cl W g)) (hs : NoSl ie := by intro _ _; rfl) : PE X (.Subscript o ie pos) (tE X.K cl W (dgetE i g)) := by
  refine PE.weak (pe_dget hu ho hi hs) ?_
  rintro σ H Q ⟨M, ρ, R, p⟩
  unfold dgetE at p
  split at p
  · rename_i ob0 e0
    obtain ⟨b0, e0⟩ := obS_of e0
    obtain ⟨a, ha, _⟩ := R.slot e0
    refine ⟨.ref a, ha, ?_⟩
    refine tG_bind R p fun v d ρ1 H1 _ g1 R1 q1 p1 => ?_
    refine end_d R1 p1 fun x ex k => ?_
    obtain ⟨ob, e1, ex⟩ := Option.bind_eq_some_iff.mp ex
    obtain ⟨r, e2, rfl⟩ := Option.bind_eq_some_iff.mp ex
    obtain ⟨b, e3⟩ := obS_of e1
    obtain ⟨a', ha', hob⟩ := R1.slot e3
    rw [ha] at ha'
    cases ha'
    obtain ⟨rv, z1, z2, z3⟩ := dget_w (rs_sub _ _) hob q1 e2
    obtain ⟨u, rfl, hu⟩ := z3 x rfl
    exact ⟨a, u, rfl, z1, keep_ k (dd_mono (ex_same (rs_sub _ _)) _ _ hu)⟩
  · exact p.elim
theorem s_dput (hu : X.A.units + 1 < cLine) (ho : PE X o (tVar i)) (hi : PE X ie (tE X.K cl W gi)) (hv : PE X e (tE X.K cl W g)) (hs : swapsWith e (some (.Subscript o ie pos')) pos.line X.env = pure false := by rfl) :
    PS X (.Assign [.Subscript o ie pos'] e pos) (tS X.K cl W (dputS i gi g)) := by
  refine PS.weak (ps_dput hu ho hi hv hs) ?_
  rintro E σ H ⟨M, ρ, R, p⟩
  refine tS_bind R p fun v x ρ1 H1 _ g1 R1 q1 p1 => ?_
  split at p1
  · rename_i ob0 e0
    obtain ⟨b0, e0⟩ := obS_of e0
    obtain ⟨a, ha, _⟩ := R1.slot e0
    refine ⟨.ref a, ha, ?_⟩
    refine tS_bind R1 p1 fun w d ρ2 H2 eg g2 R2 q2 p2 => ?_
    split at p2
    · rename_i b ob e2
      split at p2
      · rename_i o' e3
        obtain ⟨a', ha', hob⟩ := R2.slot e2
        rw [ha] at ha'
        cases ha'
        obtain ⟨u, z1, z2⟩ := dput_w (rs_sub _ _) hob q2 (dd_mono g2.same _ _ q1) e3
        obtain ⟨R3, g3⟩ := R2.obj (o' := o') (u := u) e2 ha z2
        exact ⟨a, _, rfl, z1, p2 σ _ g3 R3⟩
      · exact p2.elim
    · exact p2.elim
  · exact p1.elim
def newT : Ev Ob := fun ρ => .ok (.dt []) ρ
def newK : Ev Ob := fun ρ => .ok (.dk []) ρ
theorem new_end {K : PySem.W.Frag} {M : Addr → Prop} {σ : St} {ρ : Rho} {H : Hp} {ob : Ob} {u : HO} {p : Addr} {Q : VK} (R : Rel K M σ H ρ) (q : Pst K cl W (RO K) M σ ρ H (.ok ob ρ) Q) (n : H p = none) (hob : ∀ G, ObAt K G (upd H p u) p ob) : Q (.ref p) (upd H p u) := by
  refine end_o (f := some ob) R q fun o e k => ?_
  cases e
  exact k p _ (fun b o e => by rw [upd_ne (ne_of_none e n)]; exact e) n (hob _)
theorem o_newT : PE X (.Dict [] [] pos) (tO X.K cl W newT) := by
  refine PE.weak pe_dnewT ?_
  rintro σ H Q ⟨M, ρ, R, q⟩ p n
  exact new_end R q n fun G => ⟨[], upd_same, .nil⟩
theorem o_newK : PE X (.Dict [] [] pos) (tO X.K cl W newK) := by
  refine PE.weak pe_dnewK ?_
  rintro σ H Q ⟨M, ρ, R, q⟩ p n
  exact new_end R q n fun G => ⟨[], upd_same, .nil⟩
end
end DL
end
section
set_option Elab.async false
set_option linter.all false
set_option maxRecDepth 100000
set_option autoImplicit false
namespace DL
open PySem PySem.Spec PyProof.Rows L2
def set0 (w : World) : Obj := { cls := .type "set", dict := none, data := .set #[] 0 (.fresh 0 0 (!w.params.followText "set-order")) }
section
variable {P : Program} {w : World} {A : Around} {E : Value → Shared → Prop} {s : Shared}
def SetMade (w : World) (s : Shared) (ns : List Int) (s2 : Shared) : Prop := ∃ (h' : Heap) (tk c : Nat), s2 = { s with heap := h', toks := tk } ∧ SetR w h' s.heap.objs.size (fun j => decide (j ∈ ns)) c ∧ c ≤ ns.length ∧ ∀ b o, s.heap.get? b = some o → h'.get? b = some o
set_option maxHeartbeats 3200000 in
theorem set_init_lst {l : Addr} {items : Array Value} (ns : List Int) {B : Around} {Q : PySem.Fin → Shared → Prop} {E' : Value → Shared → Prop} (hh : B.handled = none) (hl : s.heap.IsList l items) (hit : IntsAre items.toList ns) (hb : ns.length + 1 < scanBound)
    (hQ : ∀ s2, SetMade w s ns s2 → Q (.done (.ret .none)) s2) :
    wpAny (model P w) B (Builtin.«set.__init__» ⟨[.ref s.heap.objs.size, .ref l], []⟩) Q E' { s with heap := s.heap.push (set0 w) } := by
  have hn : items.size = ns.length := by
    have q := IntsAre.length hit
    rwa [Array.length_toList] at q
  have g0 : (s.heap.push (set0 w)).get? s.heap.objs.size = some (set0 w) := Heap.get?_push_size _ rfl
  have hT : Shared.TypeIs { s with heap := s.heap.push (set0 w) } (.ref s.heap.objs.size) "set" := ⟨_, g0, rfl⟩
  obtain ⟨⟨oc, od, odt, os⟩, hol, hcl, nl, hdl⟩ := hl
  simp only at hcl hdl
  subst hcl; subst hdl
  have llt : l < s.heap.objs.size := Heap.lt_size hol
  have hol2 : (s.heap.push (set0 w)).get? l = some { cls := .type "list", dict := od, data := .seq items nl, slots := os } := Heap.get?_push_of_some _ hol
  have lst : (s.heap.push (set0 w)).IsList l items := ⟨_, hol2, rfl, nl, rfl⟩
  have k1 := F.sub_list_set
  have k2 := F.sub_list_frozenset
  have k3 : (Value.type "list" == Value.type "dict") = false := by decide
  unfold Builtin.«set.__init__» noKeywords Builtin.Frozenset.updateFrom
  generalize hPI : pyIter = PI
  wp_walk
  subst hPI
  refine wpAny_pyIter_list lst (wpAny_bind (wpAny_runValue ?_))
  have z1 : (s.heap.push (set0 w)).objs.size = s.heap.objs.size + 1 := Heap.size_push ..
  have n1 : l ≠ (s.heap.push (set0 w)).objs.size := by rw [z1]; exact Nat.ne_of_lt (Nat.lt_succ_of_lt llt)
  have n2 : s.heap.objs.size ∉ [(s.heap.push (set0 w)).objs.size, l] := by
    rw [z1]
    intro z
    rcases List.mem_cons.mp z with z | z
    · exact absurd z (Nat.ne_of_lt (Nat.lt_succ_self _))
    · exact absurd (List.mem_singleton.mp z) (Nat.ne_of_gt llt)
  refine set_update_ints ((Walks.list (by simp [hh]) _ l n1 items).toS) s.heap.objs.size n2 ns hn hb (fun i v hv => ?_) (items.size - 0) 0 _ (by omega) (Nat.zero_le _) ⟨⟨_, Heap.get?_push_size _ rfl, rfl, rfl⟩, lst.push _⟩ ⟨0, Nat.le_refl 0, setR_new_at (Heap.get?_push_of_some _ g0)⟩ fun s' c' hm hc hS => ?_
  · have hi : i < ns.length := by rw [← hn]; exact (Array.getElem?_eq_some_iff.mp hv).1
    obtain ⟨t, e⟩ := IntsAre.int_at hit i v (by rw [Array.getElem?_toList]; exact hv)
    refine ⟨ns[i], t, List.getElem?_eq_getElem hi, ?_⟩
    rw [e, List.getD_eq_getElem?_getD, List.getElem?_eq_getElem hi]
    try rfl
  · have e1 := hm.gens
    have e2 := hm.drawn
    have e3 := hm.os
    obtain ⟨h', gg, dd, tk, oo⟩ := s'
    simp only at e1 e2 e3
    subst e1; subst e2; subst e3
    refine wpAny_pure (wpAny_pure (hQ _ ⟨h', tk, c', rfl, hS, by omega, fun b o e => ?_⟩))
    have lb := Heap.lt_size e
    refine hm.heap b o (fun z => ?_) (Heap.get?_push_of_some _ (Heap.get?_push_of_some _ e))
    rw [z1] at z
    rcases List.mem_cons.mp z with z | z
    · exact absurd z (Nat.ne_of_lt lb)
    · exact absurd (List.mem_singleton.mp z) (Nat.ne_of_lt (Nat.lt_succ_of_lt lb))
set_option maxHeartbeats 3200000 in
theorem set_lst {l : Addr} {items : Array Value} (ns : List Int) {Q : Value → Shared → Prop} (hh : A.handled = none) (hl : s.heap.IsList l items) (hit : IntsAre items.toList ns) (hb : ns.length + 1 < scanBound)
    (h : ∀ s2, SetMade w s ns s2 → Q (.ref s.heap.objs.size) s2) : wpAny (model P w) A (call (.type "set") [.ref l]) Q E s := by
  have cs := F.called_set
  obtain ⟨c, tl, hmro⟩ := cs.mro
  have a1 := cs.made
  have a2 := cs.sub
  have a3 := cs.notType
  have a4 := cs.canCreate
  have a5 := F.typeCall_set_1 (.ref l)
  refine wpAny_call (codeAny_of_tree ?_)
  show wpAny _ _ (callAny (.type "set") _) _ _ _
  refine wpAny_pure ⟨Code.quiet_builtin _ (by decide +kernel), codeAny_builtin F.entry_type_call ?_⟩
  rw [Around.under_plain (weight_type_call_type "set" [.ref l] []) rfl]
  repeat (any_goals (first | assumption | wp_step))
  refine codeAny_mono (code_set_led1 (.ref l) (E := E) (Q₁ := fun u z => u = .ref s.heap.objs.size ∧ z = { s with heap := s.heap.push (set0 w) }) ⟨rfl, rfl⟩) fun r z hz => ?_
  match r, hz with
  | .error _, hz => exact hz
  | .ok (.ret u), ⟨e1, e2⟩ =>
    subst e1 e2
    have hT : Shared.TypeIs { s with heap := s.heap.push (set0 w) } (.ref s.heap.objs.size) "set" := ⟨_, Heap.get?_push_size _ rfl, rfl⟩
    have a6 := cs.init.lookup
    have a7 := cs.init.bind (.ref s.heap.objs.size)
    repeat (any_goals (first | assumption | wp_step))
    refine codeAny_mono (codeAny_call_builtin (R := wants (fun v s2 => v = .none ∧ SetMade w s ns s2) E) cs.init.plain F.entry_set_init (check_set_init_1 hT ?_)) fun r2 s2 hr2 => ?_
    · exact set_init_lst ns (by simp [hh]) hl hit hb fun s2 q => ⟨rfl, q⟩
    · match r2, hr2 with
      | .error _, hr2 => exact hr2
      | .ok (.ret v), ⟨e1, e2⟩ =>
        subst e1
        have f := h _ e2
        repeat (any_goals (first | assumption | wp_step))
        all_goals exact f
end
end DL
end
section
set_option Elab.async false
set_option linter.all false
set_option maxRecDepth 100000
set_option autoImplicit false
namespace DL
open PySem PySem.Spec L2

/-! ### the ints of a list, each once, in order -/
def uins (k : Int) : List Int → List Int
  | [] => [k]
  | x :: l => if k < x then k :: x :: l else if k = x then x :: l else x :: uins k l
def usort (ns : List Int) : List Int := ns.foldr uins []
theorem mem_uins {k j : Int} : ∀ {l : List Int}, j ∈ uins k l ↔ j = k ∨ j ∈ l
  | [] => by simp [uins]
  | x :: l => by
    have ih := mem_uins (k := k) (j := j) (l := l)
    unfold uins
    split
    · simp
    · split
      · rename_i h; subst h; simp
      · simp only [List.mem_cons, ih]
        constructor
        · rintro (h | h | h) <;> simp [h]
        · rintro (h | h | h) <;> simp [h]
theorem mem_usort {j : Int} : ∀ {ns : List Int}, j ∈ usort ns ↔ j ∈ ns
  | [] => by simp [usort]
  | x :: l => by
    have ih := mem_usort (j := j) (ns := l)
    show j ∈ uins x (usort l) ↔ _
    rw [mem_uins, ih, List.mem_cons]
theorem uins_lt {k : Int} : ∀ {l : List Int}, l.Pairwise (· < ·) → (uins k l).Pairwise (· < ·)
  | [], _ => by simp [uins]
  | x :: l, h => by
    obtain ⟨h1, h2⟩ := List.pairwise_cons.mp h
    unfold uins
    split
    · rename_i c
      refine List.pairwise_cons.mpr ⟨fun y hy => ?_, h⟩
      rcases List.mem_cons.mp hy with z | z
      · subst z; exact c
      · have := h1 y z; omega
    · split
      · exact h
      · refine List.pairwise_cons.mpr ⟨fun y hy => ?_, uins_lt h2⟩
        rcases mem_uins.mp hy with z | z
        · omega
        · exact h1 y z
theorem usort_lt : ∀ (ns : List Int), (usort ns).Pairwise (· < ·)
  | [] => .nil
  | x :: l => uins_lt (usort_lt l)
/-- what is sorted and has the same members is the same -/
theorem lt_ext : ∀ {a b : List Int}, a.Pairwise (· < ·) → b.Pairwise (· < ·) → (∀ k, k ∈ a ↔ k ∈ b) → a = b
  | [], [], _, _, _ => rfl
  | [], y :: _, _, _, h => by have := (h y).mpr (by simp); simp at this
  | x :: _, [], _, _, h => by have := (h x).mp (by simp); simp at this
  | x :: a, y :: b, ha, hb, h => by
    obtain ⟨a1, a2⟩ := List.pairwise_cons.mp ha
    obtain ⟨b1, b2⟩ := List.pairwise_cons.mp hb
    have e : x = y := by
      have h1 := (h x).mp (by simp)
      have h2 := (h y).mpr (by simp)
      rcases List.mem_cons.mp h1 with z | z
      · exact z
      · rcases List.mem_cons.mp h2 with z2 | z2
        · exact z2.symm
        · have := b1 x z
          have := a1 y z2
          omega
    subst e
    refine congrArg _ (lt_ext a2 b2 fun k => ?_)
    have hk := h k
    simp only [List.mem_cons] at hk
    constructor
    · intro z
      rcases hk.mp (.inr z) with q | q
      · have := a1 k z; omega
      · exact q
    · intro z
      rcases hk.mpr (.inr z) with q | q
      · have := b1 k z; omega
      · exact q
theorem setR_len {w : World} {h : Heap} {a : Addr} {ns : List Int} {n : Nat} (R : SetR w h a (fun j => decide (j ∈ ns)) n) : n = (usort ns).length := by
  obtain ⟨o, es, ep, t, ho, hex, hd, g, nd, hm, hb, hf, hn, hr, hl⟩ := R
  have p := List.mergeSort_perm (es.toList.map keyOf) (fun a b => decide (a ≤ b))
  have s1 : ((es.toList.map keyOf).mergeSort fun a b => decide (a ≤ b)).Pairwise (fun a b => a ≤ b) := by
    have z := List.pairwise_mergeSort (le := fun (a b : Int) => decide (a ≤ b)) (fun a b c h1 h2 => by simp at *; omega) (fun a b => by simp; omega) (es.toList.map keyOf)
    exact z.imp fun h => by simpa using h
  have s2 := lt_of_le_nodup _ s1 (p.nodup_iff.mpr nd)
  have e := lt_ext s2 (usort_lt ns) fun k => by
    rw [p.mem_iff, ← hm k, mem_usort, decide_eq_true_eq]
  rw [← e, p.length_eq, List.length_map, Array.length_toList, hn]
/-- set(xs), a list of ints -/
def rSetL (K : PySem.W.Frag) (w : World) : List V → Hp → VK → Prop := fun xs H Q => ∃ p ns, xs = [.ref p] ∧ H p = some (.lst (ns.map V.int)) ∧ ns.length ≤ 1000 ∧ ∀ a, H a = none → Q (.ref a) (upd H a (SetO w a (fun j => decide (j ∈ ns)) (usort ns).length))
section
variable {X : Cx}
theorem cr_setL (hc : X.calm = true) : CallR X (.type "set") (rSetL X.K X.w) := by
  intro pins s σ H xs us Q I r h
  obtain ⟨p, ns, rfl, hp, hl, q⟩ := h
  rw [Vals.ref1 r]
  obtain ⟨z, its, n, rv, hl2, e⟩ := I.lstM hp
  refine set_lst (items := its.toArray) ns (I.ok.hd hc) ⟨_, e, rfl, _, rfl⟩ (by simpa using ints_of_vals rv) (by unfold scanBound; omega) fun s2 hs2 => ?_
  obtain ⟨h', tk, c, rfl, R, hcn, k⟩ := hs2
  have ec := setR_len R
  subst ec
  have hn : H s.heap.objs.size = none := I.hok.fresh (Nat.le_refl _)
  exact ⟨.ref _, _, I.laid (t' := tk) k (Nat.le_refl _) (setO_new R), rfl, q _ hn⟩
def rLenS (w : World) : List V → Hp → VK → Prop := fun vs H Q => ∃ (a : Addr) (S : Int → Bool) (n : Nat), vs = [V.ref a] ∧ H a = some (SetO w a S n) ∧ Q (.int n) H
theorem cr_lenS : CallR X (.builtin "len") (rLenS X.w) := by
  intro pins s σ H vs us Q I r h
  obtain ⟨a, S, n, rfl, ha, q⟩ := h
  obtain ⟨o, es, ep, t, ho, hex, hd, g, nd, hm, hb, hf, hn, hr, hl⟩ := setO_get I ha
  rw [Vals.ref1 r]
  refine call_len_set ho hex hd hf (by unfold scanBound at hb; omega) ⟨.int n, H, I.tok _, ⟨_, by rw [hn]⟩, q⟩
end
def intsOf : List D → Option (List Int)
  | [] => some []
  | .int i :: r => (intsOf r).map (i :: ·)
  | _ :: _ => none
theorem ints_dd {K : PySem.W.Frag} {G : Hp} : ∀ {vs : List V} {ds : List D} {ns : List Int}, DdAll K G vs ds → intsOf ds = some ns → vs = ns.map V.int
  | _, [], ys, h, e => by
    cases h
    cases e
    rfl
  | _, d :: ds, ys, h, e => by
    cases h with
    | cons h1 h2 =>
      cases d with
      | int z =>
        obtain ⟨zs, e1, rfl⟩ := Option.map_eq_some_iff.mp (show (intsOf ds).map (z :: ·) = some ys from e)
        cases h1
        rw [ints_dd h2 e1]
        rfl
      | none => cases e
      | bool _ => cases e
      | str _ => cases e
      | list _ => cases e
      | tuple _ => cases e
      | dict _ => cases e
theorem dd_ints {K : PySem.W.Frag} {G : Hp} : ∀ {ns : List Int}, DdAll K G (ns.map V.int) (ns.map PyData.int)
  | [] => .nil
  | _ :: _ => .cons (.int _) dd_ints
/-- sorted(set(xs)), fewer than 64 ints -/
def sortsetO : D → Option Ob
  | .list ds => (intsOf ds).bind fun ns => if ns.length < 64 then some (.ls ((usort ns).map .int)) else none
  | _ => none
def lensetD : D → Option D
  | .list ds => (intsOf ds).bind fun ns => if ns.length ≤ 1000 then some (.int (usort ns).length) else none
  | _ => none
theorem uins_len {k : Int} : ∀ {l : List Int}, (uins k l).length ≤ l.length + 1
  | [] => by simp [uins]
  | x :: l => by
    have ih := uins_len (k := k) (l := l)
    unfold uins
    split
    · simp
    · split
      · simp
      · simp only [List.length_cons]; omega
theorem usort_len : ∀ {ns : List Int}, (usort ns).length ≤ ns.length
  | [] => Nat.le_refl _
  | x :: l => by
    have ih := usort_len (ns := l)
    have := uins_len (k := x) (l := usort l)
    show (uins x (usort l)).length ≤ _
    simp only [List.length_cons]
    omega
section
variable {X : Cx} {cl : Cl} {W : WX} {a : Expr} {A : Opd} {p p2 pos pos2 : Pos}
theorem o_sortset (hc : X.calm = true) (hg : Gl X "sorted") (hm : X.mg "sorted" = none) (hg2 : Gl X "set") (hm2 : X.mg "set" = none) (ha : PE X a (tP X.K cl W A)) (na : starEach [a] X.env = (false, eval a X.env) :: starEach [] X.env := by rfl)
    (nb : starEach [Expr.Call (.Name "set" p2) [a] [] pos2] X.env = (false, eval (.Call (.Name "set" p2) [a] [] pos2) X.env) :: starEach [] X.env := by rfl)
    (hpl : (backTo pos2 (starEach [] X.env)).any (·.1) = false := by rfl) (hpl2 : (backTo pos (starEach [] X.env)).any (·.1) = false := by rfl) :
    PE X (.Call (.Name "sorted" p) [.Call (.Name "set" p2) [a] [] pos2] [] pos) (tO X.K cl W (e1 sortsetO A)) := by
  refine PE.weak (pe_callB (cr_sortedSet hc) hg hm PyProof.Rows.boot_sorted (pa_cons (pe_callTy (cr_setL hc) hg2 hm2 PyProof.Rows.boot_set (pa_cons ha pa_nil na) (by decide) (by decide) na hpl) pa_nil nb) (by decide) (by decide) nb hpl2) ?_
  rintro σ H Q ⟨M, ρ, R, q⟩
  refine tG_bind R q fun v y ρ1 H1 _ g1 R1 q1 p1 => ?_
  refine end_o R1 p1 fun o e k => ?_
  obtain ⟨d1, h1, e⟩ := Option.bind_eq_some_iff.mp e
  have hb := RV0.fin R1 q1 h1
  unfold sortsetO at e
  split at e
  · obtain ⟨ns, e2, e⟩ := Option.bind_eq_some_iff.mp e
    split at e
    · rename_i hl
      cases e
      obtain ⟨l, vs, rfl, hp, hd⟩ := hb.list (rs_sub _ _)
      have ev := ints_dd hd e2
      subst ev
      refine ⟨l, ns, rfl, hp, by omega, fun b hb => ?_⟩
      refine ⟨b, _, _, rfl, upd_same, Nat.lt_of_le_of_lt usort_len hl, fun ms c h2 h3 h4 h5 => ?_⟩
      have em : ms = usort ns := lt_ext h2 (usort_lt ns) fun k => by rw [h3, mem_usort]; simp
      subst em
      have h5' : H1 c = none := by
        by_cases z : c = b
        · subst z; exact hb
        · rw [upd_ne z] at h5; exact h5
      refine k c _ (fun q o e => ?_) h5' ⟨_, upd_same, dd_ints⟩
      rw [upd_ne (ne_of_none e h5'), upd_ne (ne_of_none e hb)]
      exact e
    · cases e
  · cases e
theorem d_lenset (hc : X.calm = true) (hg : Gl X "len") (hm : X.mg "len" = none) (hg2 : Gl X "set") (hm2 : X.mg "set" = none) (ha : PE X a (tP X.K cl W A)) (na : starEach [a] X.env = (false, eval a X.env) :: starEach [] X.env := by rfl)
    (nb : starEach [Expr.Call (.Name "set" p2) [a] [] pos2] X.env = (false, eval (.Call (.Name "set" p2) [a] [] pos2) X.env) :: starEach [] X.env := by rfl)
    (hpl : (backTo pos2 (starEach [] X.env)).any (·.1) = false := by rfl) (hpl2 : (backTo pos (starEach [] X.env)).any (·.1) = false := by rfl) :
    PE X (.Call (.Name "len" p) [.Call (.Name "set" p2) [a] [] pos2] [] pos) (tE X.K cl W (e1 lensetD A)) := by
  refine PE.weak (pe_callB cr_lenS hg hm PySem.boot_len (pa_cons (pe_callTy (cr_setL hc) hg2 hm2 PyProof.Rows.boot_set (pa_cons ha pa_nil na) (by decide) (by decide) na hpl) pa_nil nb) (by decide) (by decide) nb hpl2) ?_
  rintro σ H Q ⟨M, ρ, R, q⟩
  refine tG_bind R q fun v y ρ1 H1 _ g1 R1 q1 p1 => ?_
  refine end_d R1 p1 fun o e k => ?_
  obtain ⟨d1, h1, e⟩ := Option.bind_eq_some_iff.mp e
  have hb := RV0.fin R1 q1 h1
  unfold lensetD at e
  split at e
  · obtain ⟨ns, e2, e⟩ := Option.bind_eq_some_iff.mp e
    split at e
    · rename_i hl
      cases e
      obtain ⟨l, vs, rfl, hp, hd⟩ := hb.list (rs_sub _ _)
      have ev := ints_dd hd e2
      subst ev
      refine ⟨l, ns, rfl, hp, hl, fun b hb => ?_⟩
      refine ⟨b, _, _, rfl, upd_same, ?_⟩
      exact k _ _ (fun q o e => by rw [upd_ne (ne_of_none e hb)]; exact e) (.int _)
    · cases e
  · cases e
end
end DL
end
section
set_option Elab.async false
set_option linter.all false
set_option maxRecDepth 100000
set_option autoImplicit false
namespace DL
open PySem PySem.Spec L2

/-! ### comprehensions of two clauses -/
def lc2Loop (t : Tg) (tt : Ev Bool) (gi1 : Ev (List D)) (t1 : Tg) (tt1 : Ev Bool) (te : Ev D) (vs vs1 : List Nat) : List D → List D → Rho → Res (List D)
  | [], acc, r => .ok acc r
  | d :: ds, acc, r => match t.f d r with
    | none => .no
    | some r1 => (noEr (tt r1)).bind fun b r2 => if b = true then (noEr (gi1 r2)).bind fun ds1 r3 => (apR acc (lcLoop t1 tt1 te vs1 ds1 acc.length (wipeR r3 vs1))).bind fun zs r4 => lc2Loop t tt gi1 t1 tt1 te vs vs1 ds zs (wipeR r4 vs)
      else lc2Loop t tt gi1 t1 tt1 te vs vs1 ds acc (wipeR r2 vs)
def lc2G (gi : Ev (List D)) (t : Tg) (tt : Ev Bool) (gi1 : Ev (List D)) (t1 : Tg) (tt1 : Ev Bool) (te : Ev D) (vs vs1 : List Nat) : Ev Ob := fun ρ => (gi ρ).bind fun ds r => (lc2Loop t tt gi1 t1 tt1 te vs vs1 ds [] (wipeR r vs)).bind fun xs r2 => .ok (.ls xs) r2
abbrev lc2E (gi : Ev (List D)) (t : Tg) (gi1 : Ev (List D)) (t1 : Tg) (te : Ev D) (vs vs1 : List Nat) : Ev Ob := lc2G gi t yesT gi1 t1 yesT te vs vs1
section
variable {K : PySem.W.Frag} {cl : Cl} {W : WX} {gi gi1 : Ev (List D)} {t t1 : Tg} {tt tt1 : Ev Bool} {te : Ev D} {vs vs1 : List Nat} {M : Addr → Prop}
abbrev plusA (M : Addr → Prop) (D : Addr) : Addr → Prop := fun q => M q ∨ q = D
/-- where a loop of a comprehension stands: the base, the slots, the list so far -/
structure LcAt (K : PySem.W.Frag) (M : Addr → Prop) (D : Addr) (vs : List Nat) (σb : St) (ρb : Rho) (Hb : Hp) (σ : St) (ρ : Rho) (H : Hp) (acc : List DL.D) : Prop where
  wp : Wp ρ vs
  go : Go σb ρb Hb σ ρ H
  rel : Rel K (plusA M D) σ H ρ
  at_ : ∃ va, H D = some (.lst va) ∧ DdAll K (rs (Mu (plusA M D) σ ρ) H) va acc
theorem stay_ {σ4 : St} {ρ4 ρ5 : Rho} {H3 H5 : Hp} {D : Addr} {o : HO} (R4 : Rel K (plusA M D) σ4 H3 ρ4) (g5 : Go σ4 ρ4 H3 σ4 ρ5 H5) (e : H3 D = some o) : H5 D = some o :=
  g5.keep D _ e fun z => by
    obtain ⟨k, b, o, z1, z2⟩ := z
    obtain ⟨q, y1, y2, _⟩ := R4.ow k b o z1
    rw [z2] at y1; cases y1
    exact y2 (.inr rfl)
/-- one turn's store -/
theorem lc_store {D : Addr} {σb σ : St} {ρb ρ2 : Rho} {Hb H2 H3 G : Hp} {J : It} {ds : List DL.D} {acc : List DL.D} {i : Nat} {x : V} {d : DL.D} (hw : WalkD K J G ds) (sm : Same G (rs (Mu (plusA M D) σ ρ2) H2)) (L : LcAt K M D vs σb ρb Hb σ ρ2 H2 acc) (ed : ds[i]? = some d) (y : J.yld i H2 x H3) :
    J.go i H2 ∧ (J.yld i H2 x H3 → Rel K (plusA M D) (wipe σ vs) H3 ρ2 ∧ Same H2 H3 ∧ Dd K (rs (Mu (plusA M D) (wipe σ vs) ρ2) H3) x d) := by
  obtain ⟨w2, g2, R2, va, hacc, dacc⟩ := L
  obtain ⟨go, yl⟩ := hw.go i d H2 ed fun q o e => rs_sub _ _ _ _ (sm q o e)
  refine ⟨go, fun y => ?_⟩
  obtain ⟨s3, hx⟩ := yl x H3 y
  have a0 := Alk.wipe σ vs
  refine ⟨rel_alk a0.symm w2 (R2.ext s3), s3, ?_⟩
  rw [mu_alk a0 w2]
  refine dd_mono (fun q o e => ?_) _ _ hx
  refine R2.ex_le s3 q o ?_
  unfold Ex at e ⊢
  cases z : H2 q with
  | none => rw [z] at e; exact e
  | some u => rw [z] at e; exact sm q o e
/-- the loop, whatever waits behind it -/
theorem lc_run (hts : ∀ j, j ∈ t.ss → j ∈ vs) {D : Addr} {σb σ : St} {ρb ρ : Rho} {Hb H : Hp} {J : It} {ds acc : List DL.D} (hb : Hb D = none) (Lk : Res (List DL.D) → Prop) (hn : ¬ Lk .no) (Nx : Hp → Prop)
    (hw : WalkD K J (rs (Mu (plusA M D) σ ρ) H) ds) (L : LcAt K M D vs σb ρb Hb σ ρ H acc) (hL : Lk (apR acc (lcLoop t tt te vs ds acc.length ρ)))
    (fin : ∀ ρ' H' acc', LcAt K M D vs σb ρb Hb σ ρ' H' acc' → Same (rs (Mu (plusA M D) σ ρ) H) (rs (Mu (plusA M D) σ ρ') H') → Lk (.ok acc' ρ') → Nx H') :
    ∃ Wn : Nat → Nat → Hp → Prop, (∃ m, Wn 0 m H) ∧ ∀ i m H, Wn i m H → (J.stop i H ∧ Nx H) ∨ (J.go i H ∧ ∃ Nx1 : Hp → Prop, (∀ H', Nx1 H' → ∃ m', m' < m ∧ Wn (i + 1) m' H') ∧ ∀ x H', J.yld i H x H' → gD K t x (wipe σ vs) H' fun σ2 H2 => wipe σ2 vs = wipe σ vs ∧ tT K cl W0 tt σ2 H2 fun b H3 =>
      if b = true then tE K cl W0 te σ2 H3 fun y H7 => ∃ acc, H7 D = some (.lst acc) ∧ acc.length < sizeLine ∧ Nx1 (upd H7 D (.lst (acc ++ [y]))) else Nx1 H3) := by
  have nb : ∀ {p o}, Hb p = some o → p ≠ D := fun {p o} e z => by rw [z, hb] at e; cases e
  refine ⟨fun i m H' => m = ds.length - i ∧ i ≤ ds.length ∧ ∃ ρ' acc', LcAt K M D vs σb ρb Hb σ ρ' H' acc' ∧ Same (rs (Mu (plusA M D) σ ρ) H) (rs (Mu (plusA M D) σ ρ') H') ∧ Lk (apR acc' (lcLoop t tt te vs (ds.drop i) acc'.length ρ')), ⟨ds.length, by simp, Nat.zero_le _, ρ, acc, L, Same.refl _, by simpa using hL⟩, ?_⟩
  rintro i m H2 ⟨rfl, hi, ρ2, acc2, L2, sm, eL⟩
  by_cases hlt : i < ds.length
  · have ed : ds[i]? = some ds[i] := List.getElem?_eq_getElem hlt
    rw [List.drop_eq_getElem_cons hlt] at eL
    refine .inr ⟨(hw.go i ds[i] H2 ed fun q o e => rs_sub _ _ _ _ (sm q o e)).1, fun H' => ∃ ρ' acc', LcAt K M D vs σb ρb Hb σ ρ' H' acc' ∧ Same (rs (Mu (plusA M D) σ ρ) H) (rs (Mu (plusA M D) σ ρ') H') ∧ Lk (apR acc' (lcLoop t tt te vs (ds.drop (i + 1)) acc'.length ρ')), fun H' z => ⟨ds.length - (i + 1), by omega, rfl, hlt, z⟩, fun x H3 y => ?_⟩
    obtain ⟨R3, s3, hx⟩ := (lc_store hw sm L2 ed y).2 y
    obtain ⟨w2, g2, R2, va, hacc, dacc⟩ := L2
    have a0 := Alk.wipe σ vs
    have g3 : Go σ ρ2 H2 σ ρ2 H3 := Go.ext R2 s3
    unfold lcLoop at eL
    cases et : t.f ds[i] ρ2 with
    | none => rw [et] at eL; exact (hn eL).elim
    | some ρ4 =>
      rw [et] at eL
      refine ⟨_, ρ2, ds[i], ρ4, R3, hx, et, fun σ4 g4 R4 h4 l4 => ?_⟩
      have a4 : Alk vs (wipe σ vs) σ4 := ⟨l4, fun j hj => h4 j fun z => hj (hts j z)⟩
      have a5 : Alk vs σ σ4 := a0.trans a4
      have T4 : Go σ ρ2 H2 σ4 ρ4 H3 := g3.trans (go_in a0 w2 g4 a5)
      refine ⟨by rw [wipe_eq a4.1 a4.2]; exact wipe_eq (wipe_length σ vs) fun j hj => wipe_ne hj, _, ρ4, R4, ?_⟩
      dsimp only at eL
      cases ett : tt ρ4 with
      | er c r => rw [ett] at eL; exact (hn eL).elim
      | no => rw [ett] at eL; exact (hn eL).elim
      | ok b ρ5 =>
        rw [ett] at eL
        intro b' H5 g5 R5 eb
        have eb : b' = b := eb
        subst eb
        have e5 : H5 D = some (.lst va) := stay_ R4 g5 (s3 _ _ hacc)
        have T5 := T4.trans g5
        cases b' with
        | false =>
          rw [if_neg (by decide)]
          have z := (go_out T5 a5).same (M := plusA M D)
          exact ⟨wipeR ρ5 vs, acc2, ⟨wp_wipe _ _, g2.trans (go_out T5 a5), rel_alk a5 (wp_wipe _ _) (rel_wipe R5), va, e5, ddAll_mono z _ _ dacc⟩, fun q o e => z q o (sm q o e), eL⟩
        | true =>
          rw [if_pos rfl]
          refine ⟨_, ρ5, R5, ?_⟩
          have eL : Lk (apR acc2 ((noEr (te ρ5)).bind fun x r3 => if acc2.length < 16777216 then (lcLoop t tt te vs (ds.drop (i + 1)) (acc2.length + 1) (wipeR r3 vs)).bind fun xs r4 => .ok (x :: xs) r4 else .no)) := eL
          cases ete : te ρ5 with
          | er c r => rw [ete] at eL; exact (hn eL).elim
          | no => rw [ete] at eL; exact (hn eL).elim
          | ok yd ρ6 =>
            rw [ete] at eL
            intro yv H6 g6 R6 hy
            have hy : Dd K (rs (Mu (plusA M D) σ4 ρ6) H6) yv yd := hy
            have e6 : H6 D = some (.lst va) := stay_ R5 g6 e5
            have hln := DdAll.length dacc
            have eL : Lk (apR acc2 (if acc2.length < 16777216 then (lcLoop t tt te vs (ds.drop (i + 1)) (acc2.length + 1) (wipeR ρ6 vs)).bind fun xs r4 => .ok (yd :: xs) r4 else .no)) := eL
            by_cases hlen : acc2.length < 16777216
            · rw [if_pos hlen, apR_cons] at eL
              have T6 := T5.trans g6
              have R7 : Rel K (plusA M D) σ H6 (wipeR ρ6 vs) := rel_alk a5 (wp_wipe _ _) (rel_wipe R6)
              obtain ⟨R8, er⟩ := rel_upd (o := .lst (va ++ [yv])) R7 (.inr rfl)
              have z := (go_out T6 a5).same (M := plusA M D)
              have zg := g2.trans (go_out T6 a5)
              refine ⟨va, e6, by rw [line_, hln]; exact hlen, wipeR ρ6 vs, acc2 ++ [yd], ⟨wp_wipe _ _, ⟨fun q o e n => ?_, zg.own, zg.io, fun q o e => ?_⟩, R8, va ++ [yv], upd_same, ?_⟩, ?_, by rw [List.length_append]; exact eL⟩
              · rw [upd_ne (nb e)]; exact zg.keep q o e n
              · rw [upd_ne (nb e)]; exact zg.live q o e
              · rw [er]
                refine DdAll.append (ddAll_mono z _ _ dacc) (.cons (dd_mono (fun q u e => ?_) _ _ hy) .nil)
                obtain ⟨z1, z2⟩ := rs_of e
                refine rs_mk z1 fun z => z2 ?_
                rcases z with z | ⟨k, b, o, y1, y2⟩
                · exact .inl z
                · obtain ⟨y3, y4⟩ := wipeR_at (by intro z; cases z) y1
                  exact .inr ⟨k, b, o, y3, by rw [a5.2 k y4]; exact y2⟩
              · rw [er]
                exact fun q o e => z q o (sm q o e)
            · rw [if_neg hlen] at eL
              exact (hn eL).elim
  · have ei : i = ds.length := by omega
    subst ei
    rw [List.drop_length] at eL
    have eL : Lk (.ok acc2 ρ2) := by simpa [lcLoop, apR] using eL
    exact .inl ⟨hw.stop H2 fun q o e => rs_sub _ _ _ _ (sm q o e), fin ρ2 H2 acc2 L2 sm eL⟩

theorem WalkD.mono {J : It} {G G' : Hp} {ds : List DL.D} (s : Same G G') (h : WalkD K J G ds) : WalkD K J G' ds := by
  refine ⟨fun H s1 => h.stop H fun p o e => s1 p o (s p o e), fun i d H e s1 => ?_⟩
  obtain ⟨h1, h2⟩ := h.go i d H e fun p o e => s1 p o (s p o e)
  refine ⟨h1, fun x H' y => ?_⟩
  obtain ⟨h3, h4⟩ := h2 x H' y
  refine ⟨h3, dd_mono (fun p o e => ?_) _ _ h4⟩
  unfold Ex at e ⊢
  cases z : H p with
  | none => rw [z] at e; exact e
  | some u => rw [z] at e; exact s p o e
theorem out_same {M : Addr → Prop} {σ σ4 : St} {ρ6 : Rho} {H6 : Hp} (a5 : Alk vs σ σ4) : Same (rs (Mu M σ4 ρ6) H6) (rs (Mu M σ (wipeR ρ6 vs)) H6) := fun q u e => by
  obtain ⟨z1, z2⟩ := rs_of e
  refine rs_mk z1 fun z => z2 ?_
  rcases z with z | ⟨k, b, o, y1, y2⟩
  · exact .inl z
  · obtain ⟨y3, y4⟩ := wipeR_at (by intro z; cases z) y1
    exact .inr ⟨k, b, o, y3, by rw [a5.2 k y4]; exact y2⟩
theorem lc2_w (hts : ∀ j, j ∈ t.ss → j ∈ vs) (hts1 : ∀ j, j ∈ t1.ss → j ∈ vs1) (σ : St) (H : Hp) (Q : VK) (h : tO K cl W (lc2G gi t tt gi1 t1 tt1 te vs vs1) σ H Q) :
    tLc2 (tI K cl W gi) (gD K t) (tT K cl W0 tt) (tI K cl W0 gi1) (gD K t1) (tT K cl W0 tt1) (tE K cl W0 te) vs vs1 σ H Q := by
  obtain ⟨M, ρ, R, p⟩ := h
  refine tG_bind R p fun J ds ρ1 H1 _ g1 R1 q1 p1 => ?_
  intro D hD
  have q1 : WalkD K J (rs (Mu M σ ρ1) H1) ds := q1
  have nM : ¬ M D := fun z => by obtain ⟨o, e⟩ := R1.live D z; rw [hD] at e; cases e
  generalize hL : lc2Loop t tt gi1 t1 tt1 te vs vs1 ds [] (wipeR ρ1 vs) = LL at p1
  have hno : LL ≠ .no := fun z => by rw [z] at p1; exact p1.elim
  have s0 : Same H1 (upd H1 D (.lst [])) := fun q o e => by rw [upd_ne (ne_of_none e hD)]; exact e
  have L0 : LcAt K M D vs σ ρ1 H1 σ (wipeR ρ1 vs) (upd H1 D (.lst [])) [] := ⟨wp_wipe _ _, (go_wipe (vs := vs)).trans (Go.ext (rel_wipe R1) s0), (rel_wipe R1).plus (o := .ls []) s0 hD ⟨_, upd_same⟩, [], upd_same, .nil⟩
  have sw : Same (rs (Mu M σ ρ1) H1) (rs (Mu (plusA M D) σ (wipeR ρ1 vs)) (upd H1 D (.lst []))) := fun q o e => by
    have e2 := L0.go.same (M := M) q o e
    obtain ⟨z1, z2⟩ := rs_of e2
    refine rs_mk z1 fun z => ?_
    rcases z with (z | z) | z
    · exact z2 (.inl z)
    · obtain ⟨y1, _⟩ := rs_of e
      rw [z, hD] at y1; cases y1
    · exact z2 (.inr z)
  have hw := q1.mono sw
  refine ⟨fun i m H' => m = ds.length - i ∧ i ≤ ds.length ∧ ∃ ρ' acc', LcAt K M D vs σ ρ1 H1 σ ρ' H' acc' ∧ Same (rs (Mu (plusA M D) σ (wipeR ρ1 vs)) (upd H1 D (.lst []))) (rs (Mu (plusA M D) σ ρ') H') ∧ LL = lc2Loop t tt gi1 t1 tt1 te vs vs1 (ds.drop i) acc' ρ', ⟨ds.length, by simp, Nat.zero_le _, _, [], L0, Same.refl _, by rw [List.drop_zero]; exact hL.symm⟩, ?_⟩
  rintro i m H2 ⟨rfl, hi, ρ2, acc2, L2, sm, eL⟩
  by_cases hlt : i < ds.length
  · have ed : ds[i]? = some ds[i] := List.getElem?_eq_getElem hlt
    rw [List.drop_eq_getElem_cons hlt] at eL
    refine .inr ⟨(hw.go i ds[i] H2 ed fun q o e => rs_sub _ _ _ _ (sm q o e)).1, fun H' => ∃ ρ' acc', LcAt K M D vs σ ρ1 H1 σ ρ' H' acc' ∧ Same (rs (Mu (plusA M D) σ (wipeR ρ1 vs)) (upd H1 D (.lst []))) (rs (Mu (plusA M D) σ ρ') H') ∧ LL = lc2Loop t tt gi1 t1 tt1 te vs vs1 (ds.drop (i + 1)) acc' ρ', fun H' z => ⟨ds.length - (i + 1), by omega, rfl, hlt, z⟩, fun x H3 y => ?_⟩
    obtain ⟨R3, s3, hx⟩ := (lc_store hw sm L2 ed y).2 y
    obtain ⟨w2, g2, R2, va, hacc, dacc⟩ := L2
    have a0 := Alk.wipe σ vs
    have g3 : Go σ ρ2 H2 σ ρ2 H3 := Go.ext R2 s3
    unfold lc2Loop at eL
    cases et : t.f ds[i] ρ2 with
    | none => rw [et] at eL; exact (hno eL).elim
    | some ρ4 =>
      rw [et] at eL
      refine ⟨_, ρ2, ds[i], ρ4, R3, hx, et, fun σ4 g4 R4 h4 l4 => ?_⟩
      have a4 : Alk vs (wipe σ vs) σ4 := ⟨l4, fun j hj => h4 j fun z => hj (hts j z)⟩
      have a5 : Alk vs σ σ4 := a0.trans a4
      have T4 : Go σ ρ2 H2 σ4 ρ4 H3 := g3.trans (go_in a0 w2 g4 a5)
      refine ⟨by rw [wipe_eq a4.1 a4.2]; exact wipe_eq (wipe_length σ vs) fun j hj => wipe_ne hj, _, ρ4, R4, ?_⟩
      dsimp only at eL
      cases ett : tt ρ4 with
      | er c r => rw [ett] at eL; exact (hno eL).elim
      | no => rw [ett] at eL; exact (hno eL).elim
      | ok b ρ5 =>
        rw [ett] at eL
        intro b' H5 g5 R5 eb
        have eb : b' = b := eb
        subst eb
        have e5 : H5 D = some (.lst va) := stay_ R4 g5 (s3 _ _ hacc)
        have T5 := T4.trans g5
        cases b' with
        | false =>
          rw [if_neg (by decide)]
          have z := (go_out T5 a5).same (M := plusA M D)
          exact ⟨wipeR ρ5 vs, acc2, ⟨wp_wipe _ _, g2.trans (go_out T5 a5), rel_alk a5 (wp_wipe _ _) (rel_wipe R5), va, e5, ddAll_mono z _ _ dacc⟩, fun q o e => z q o (sm q o e), eL⟩
        | true =>
          rw [if_pos rfl]
          refine ⟨_, ρ5, R5, ?_⟩
          have eL : LL = (noEr (gi1 ρ5)).bind fun ds1 r3 => (apR acc2 (lcLoop t1 tt1 te vs1 ds1 acc2.length (wipeR r3 vs1))).bind fun zs r4 => lc2Loop t tt gi1 t1 tt1 te vs vs1 (ds.drop (i + 1)) zs (wipeR r4 vs) := eL
          cases eg : gi1 ρ5 with
          | er c r => rw [eg] at eL; exact (hno eL).elim
          | no => rw [eg] at eL; exact (hno eL).elim
          | ok ds1 ρ6 =>
            rw [eg] at eL
            intro J1 H6 g6 R6 hj
            have hj : WalkD K J1 (rs (Mu (plusA M D) σ4 ρ6) H6) ds1 := hj
            have e6 : H6 D = some (.lst va) := stay_ R5 g6 e5
            have T6 := T5.trans g6
            have gw : Go σ4 ρ6 H6 σ4 (wipeR ρ6 vs1) H6 := go_wipe
            have T7 := T6.trans gw
            have z7 := T7.same (M := plusA M D)
            refine lc_run hts1 hD (fun x => LL = x.bind fun zs r4 => lc2Loop t tt gi1 t1 tt1 te vs vs1 (ds.drop (i + 1)) zs (wipeR r4 vs)) (fun z => hno z) _ (hj.mono gw.same) ⟨wp_wipe _ _, g2.trans T7, rel_wipe R6, va, e6, ddAll_mono z7 _ _ dacc⟩ eL fun ρ' H' acc' L' sm' eL' => ?_
            obtain ⟨_, g8, R8, vb, hb8, db8⟩ := L'
            have o8 := out_same (M := plusA M D) (ρ6 := ρ') (H6 := H') a5
            exact ⟨wipeR ρ' vs, acc', ⟨wp_wipe _ _, go_out g8 a5, rel_alk a5 (wp_wipe _ _) (rel_wipe R8), vb, hb8, ddAll_mono o8 _ _ db8⟩, fun q o e => o8 q o (sm' q o (z7 q o (sm q o e))), eL'⟩
  · have ei : i = ds.length := by omega
    subst ei
    rw [List.drop_length] at eL
    have eL : LL = .ok acc2 ρ2 := eL
    rw [eL] at p1
    obtain ⟨w2, g2, R2, va, hacc, dacc⟩ := L2
    refine .inl ⟨hw.stop H2 fun q o e => rs_sub _ _ _ _ (sm q o e), p1 _ H2 g2 ?_ ⟨D, rfl, hD, fun z => ?_, R2, va, hacc, dacc⟩⟩
    · exact R2.weak fun _ z => .inl z
    · rcases z with z | ⟨k, b, o, z1, z2⟩
      · exact nM z
      · obtain ⟨q, y1, y2, _⟩ := R2.ow k b o z1
        rw [z2] at y1; cases y1
        exact y2 (.inr rfl)
end
section
variable {X : Cx} {cl : Cl} {W : WX} {elt tg iter tg1 iter1 : Expr} {ifs ifs1 : List Expr} {scope : Scope} {own : List (Str × Nat)} {vs vs1 : List Nat} {pos : Pos} {gi gi1 : Ev (List D)} {t t1 : Tg} {te : Ev D}
theorem o_lc2 (hc : X.calm = true) (hN : X.N.Nodup) (hi : PI X tg iter (tI X.K cl W gi)) (ok : BlkOk X.N X.env.scope scope own) (hv : ∀ i ∈ vs1, i ∈ own.map (·.2))
    (hg : ∀ (s : Shared) (H : Hp) (C : Addr) (ce : List (Str × Addr)) (fp : List Addr), PG (X.blk s H scope (compEnvC scope ce C X.env) fp) tg (gD X.K t))
    (hi1 : ∀ (s : Shared) (H : Hp) (C : Addr) (ce : List (Str × Addr)) (fp : List Addr), PI (X.blk s H scope (compEnvC scope ce C X.env) fp) tg1 iter1 (tI X.K cl W0 gi1))
    (hg1 : ∀ (s : Shared) (H : Hp) (C : Addr) (ce : List (Str × Addr)) (fp : List Addr), PG (X.blk s H scope (compEnvC scope ce C X.env) fp) tg1 (gD X.K t1))
    (he : ∀ (s : Shared) (H : Hp) (C : Addr) (ce : List (Str × Addr)) (fp : List Addr), PE (X.blk s H scope (compEnvC scope ce C X.env) fp) elt (tE X.K cl W0 te))
    (hvs : own.map (·.2) = vs := by rfl) (hts : ∀ j, j ∈ t.ss → j ∈ own.map (·.2) := by decide) (hts1 : ∀ j, j ∈ t1.ss → j ∈ vs1 := by decide)
    (hs : ∀ x, foldedSetIterable iter X.env x = pure x := by intro _; rfl) (hs1 : ∀ env x, foldedSetIterable iter1 env x = pure x := by intro _ _; rfl) :
    PE X (.ListComp elt [⟨tg, iter, [], 0⟩, ⟨tg1, iter1, [], 0⟩] scope pos) (tO X.K cl W (lc2E gi t gi1 t1 te vs vs1)) := by
  subst hvs
  exact PE.weak (pe_lc2 hc hN hi ok hv hg (fun _ _ _ _ _ => c_nil) hi1 hg1 (fun _ _ _ _ _ => c_nil) he hs hs1) (lc2_w hts hts1)
theorem s_setLc2 {i : Nat} {y : Str} {py spos : Pos} (hc : X.calm = true) (hN : X.N.Nodup) (hy : X.N[i]? = some y) (hyl : X.env.scope.names.lookup y = some .local)
    (hsw : swapsWith (.ListComp elt [⟨tg, iter, [], 0⟩, ⟨tg1, iter1, [], 0⟩] scope pos) (some (.Name y py)) spos.line X.env = pure true) (hi : PI X tg iter (tI X.K cl W gi)) (ok : BlkOk X.N X.env.scope scope own) (hv : ∀ i ∈ vs1, i ∈ own.map (·.2))
    (hg : ∀ (s : Shared) (H : Hp) (C : Addr) (ce : List (Str × Addr)) (fp : List Addr), PG (X.blk s H scope (compEnvC scope ce C X.env) fp) tg (gD X.K t))
    (hi1 : ∀ (s : Shared) (H : Hp) (C : Addr) (ce : List (Str × Addr)) (fp : List Addr), PI (X.blk s H scope (compEnvC scope ce C X.env) fp) tg1 iter1 (tI X.K cl W0 gi1))
    (hg1 : ∀ (s : Shared) (H : Hp) (C : Addr) (ce : List (Str × Addr)) (fp : List Addr), PG (X.blk s H scope (compEnvC scope ce C X.env) fp) tg1 (gD X.K t1))
    (he : ∀ (s : Shared) (H : Hp) (C : Addr) (ce : List (Str × Addr)) (fp : List Addr), PE (X.blk s H scope (compEnvC scope ce C X.env) fp) elt (tE X.K cl W0 te))
    (hvs : own.map (·.2) = vs := by rfl) (hts : ∀ j, j ∈ t.ss → j ∈ own.map (·.2) := by decide) (hts1 : ∀ j, j ∈ t1.ss → j ∈ vs1 := by decide)
    (hs : ∀ x, foldedSetIterable iter X.env x = pure x := by intro _; rfl) (hs1 : ∀ env x, foldedSetIterable iter1 env x = pure x := by intro _ _; rfl) :
    PS X (.Assign [.Name y py] (.ListComp elt [⟨tg, iter, [], 0⟩, ⟨tg1, iter1, [], 0⟩] scope pos) spos) (tS X.K cl W (setO i (lc2E gi t gi1 t1 te vs vs1))) := by
  subst hvs
  exact PS.weak (ps_setLc2 hc hN hy hyl hsw hi ok hv hg (fun _ _ _ _ _ => c_nil) hi1 hg1 (fun _ _ _ _ _ => c_nil) he hs hs1) fun E σ H h => lc2_w hts hts1 σ H _ (setO_w E σ H h)
end
end DL
end
section
set_option Elab.async false
set_option linter.all false
set_option maxRecDepth 100000
set_option autoImplicit false
namespace DL
open PySem PySem.Spec PyProof.Rows L2

/-! ### comparisons of ints -/
abbrev ltI (i j : Int) : Bool := decide (i < j)
abbrev leI (i j : Int) : Bool := decide (i ≤ j)
abbrev gtI (i j : Int) : Bool := decide (i > j)
abbrev geI (i j : Int) : Bool := decide (i ≥ j)

/-! ### enumerate -/
def Ites (x : Str) : It := ⟨fun i _ => i < x.cps.size, fun i H v H' => ∃ T c, v = .ref T ∧ H T = none ∧ H' = upd H T (.tup [.int (i : Nat), .str ⟨#[c]⟩]) ∧ x.cps[i]? = some c, fun i _ => i = x.cps.size⟩
theorem turn_enumS {P : Program} {w : World} {K : PySem.W.Frag} {elts : List Expr} {kk : Nat} {tpos : Pos} (e it : Addr) (x : Str) (t : Tok) (ty : String) (hty : ty = "str_ascii_iterator" ∨ ty = "str_iterator") :
    Turn P w K (.Tuple elts kk tpos) (Ites x) [e, it] e (fun i h => (∃ old, IsEnum h e it ((i : Nat) : Int) old) ∧ h.IsStrIter it ty x t i ∧ e ≠ it) where
  mem := by simp
  obj := fun i h st b hb => by
    obtain ⟨⟨old, he⟩, ⟨o, ho, hc, hd⟩, _⟩ := st
    rcases List.mem_cons.mp hb with z | z
    · rw [z]; exact ⟨_, he, fun v q => nomatch q⟩
    · rw [List.mem_singleton.mp z]; exact ⟨o, ho, fun v q => by rw [hd] at q; cases q⟩
  keep := fun i h h' st k => let ⟨⟨old, he⟩, ⟨o, ho, r⟩, hne⟩ := st; ⟨⟨old, k e (by simp) _ he⟩, ⟨o, k it (by simp) o ho, r⟩, hne⟩
  item := by
    intro X hP hw hK hc i pins s σ H E I hf st hg
    subst hP hw hK
    obtain ⟨⟨old, he⟩, hit, hne⟩ := st
    have hel : e < s.heap.objs.size := Heap.lt_size he
    have hil : it < s.heap.objs.size := by obtain ⟨_, q, _⟩ := hit; exact Heap.lt_size q
    have hh : X.A.in1.handled = none := by
      have := I.ok.hd hc
      simpa using this
    have D : Draws X.prog X.w X.A.in1 it [it] x.cps.size (fun i v => ∃ c u, x.cps[i]? = some c ∧ v = .str ⟨#[c]⟩ u) (fun i h => h.IsStrIter it ty x t i) := by
      rcases hty with z | z
      · subst z; exact Draws.strAscii hh it x t
      · subst z; exact Draws.strWide hh it x t
    refine wpAny_pyNext_enum_itemD D he hit hg hne (by simpa using hne) fun v h' tk hv ho hit' hT hsz hk => ?_
    obtain ⟨c, u, hcx, rfl⟩ := hv
    refine ⟨_, rfl, wpAny_letOwnedTupleGo_enum (s := { s with heap := h', toks := tk + 1 }) ho fun h'' he' sb => ?_⟩
    have hT2 : h''.get? s.heap.objs.size = some { cls := .type "tuple", data := .seq #[.int i tk, .str ⟨#[c]⟩ u] } := (sb.2 _ (Nat.ne_of_gt hel)).trans hT
    have new : ObjOk X.prog X.w (upd H s.heap.objs.size (.tup [.int (i : Nat), .str ⟨#[c]⟩])) h'' s.heap.objs.size (.tup [.int (i : Nat), .str ⟨#[c]⟩]) :=
      ⟨by show 2 ≤ sizeLine; decide, [.int i tk, .str ⟨#[c]⟩ u], .cons ⟨_, rfl⟩ (.cons ⟨_, rfl⟩ .nil), ⟨_, hT2, rfl, _, rfl⟩⟩
    have I1 : Inv X pins σ (upd H s.heap.objs.size (.tup [.int (i : Nat), .str ⟨#[c]⟩])) { s with heap := h'', toks := tk + 1 } :=
      I.turnedNew (ch := [e, it]) (fun b ob hb q => (sb.2 b (fun z => hb (by simp [z]))).trans (hk b ob (fun z => hb (by simp [z])) (fun z => hb (by simp [z])) q)) hf (Nat.le_refl _) new
    refine ⟨.ref s.heap.objs.size, _, I1, rfl, ⟨_, c, rfl, I.hok.fresh (Nat.le_refl _), rfl, hcx⟩, ⟨⟨_, he'⟩, ?_, hne⟩, fun b hb => ?_⟩
    · obtain ⟨o, q, r⟩ := hit'
      exact ⟨o, (sb.2 it (Ne.symm hne)).trans q, r⟩
    · have hb' : b < s.heap.objs.size := by
        rcases List.mem_cons.mp hb with z | z
        · rw [z]; exact hel
        · rw [List.mem_singleton.mp z]; exact hil
      rw [upd_ne (Nat.ne_of_lt hb')]
      exact (hf b hb).1
  done := by
    intro X hP hw hK hc i pins s σ H E I hf st hg
    subst hP hw hK
    obtain ⟨⟨old, he⟩, hit, hne⟩ := st
    obtain ⟨f0, f1, f2, f3, f4, f5⟩ := hf it (by simp)
    have hg : i = x.cps.size := hg
    have hh : X.A.in1.handled = none := by
      have := I.ok.hd hc
      simpa using this
    have D : Draws X.prog X.w X.A.in1 it [it] x.cps.size (fun i v => ∃ c u, x.cps[i]? = some c ∧ v = .str ⟨#[c]⟩ u) (fun i h => h.IsStrIter it ty x t i) := by
      rcases hty with z | z
      · subst z; exact Draws.strAscii hh it x t
      · subst z; exact Draws.strWide hh it x t
    subst hg
    exact wpAny_pyNext_enum_endD D he hit fun h' eb => ⟨rfl, I.turned (t' := s.toks) (fun b o hb q => eb b o hb q) f0 f1 f3 f4 f5⟩
  self := fun A i s Q E st h => let ⟨⟨_, he⟩, _⟩ := st; wpAny_pyIter_enum he h
def iEnumA (K : PySem.W.Frag) (te : TE) : TI := fun σ H R => te σ H fun v H1 => (∃ a xs, v = .ref a ∧ SqL K H1 a xs ∧ R (Ite K a) H1) ∨ ∃ x, v = .str x ∧ R (Ites x) H1
theorem pi_enumA {X : Cx} {e : Expr} {te : TE} {p pos tpos : Pos} {elts : List Expr} {kk : Nat} (hg : Gl X "enumerate") (hm : X.mg "enumerate" = none) (ha : PE X e te) (hs : starEach [e] X.env = (false, eval e X.env) :: starEach [] X.env := by rfl) :
    PI X (.Tuple elts kk tpos) (.Call (.Name "enumerate" p) [e] [] pos) (iEnumA X.K te) := by
  refine ⟨fun pins s σ H R I h => ?_⟩
  refine Call_ (ld_blt I hg hm boot_enumerate (PyProof.Rows.callWith_type1 (PyProof.Rows.args_cons (thn (ha.run pins s σ H _ I h) fun u s1 ⟨v, H1, I1, r1, q1⟩ => PyProof.Rows.args_nil ?_) hs) hs rfl))
  have two : ∀ {b : Addr}, b ∈ [s1.heap.objs.size + 1, s1.heap.objs.size] → s1.heap.objs.size ≤ b := fun {b} hb => by
    rcases List.mem_cons.mp hb with z | z
    · rw [z]; exact Nat.le_add_right _ _
    · rw [List.mem_singleton.mp z]; exact Nat.le_refl _
  rcases q1 with ⟨a, xs, rfl, hq, q⟩ | ⟨x, rfl, q⟩
  · cases r1
    obtain ⟨its, rv, p', hz⟩ := I1.list hq
    refine call_enumerate_list p'.isList fun h' he hit hsz hk => wpAny_pyIter_enum he ?_
    exact ⟨s1.heap.objs.size + 1, [s1.heap.objs.size + 1, s1.heap.objs.size], _, _, H1, rfl, I1.kept (t' := s1.toks) hk, turn_enum a _ _, ⟨⟨.none, he⟩, hit, Nat.succ_ne_self _⟩, fun b hb => I1.fpOk (two hb) (I1.hok.fresh (two hb)), q⟩
  · obtain ⟨t, rfl⟩ := r1
    refine call_enumerate_str fun h' he hit hsz hk => wpAny_pyIter_enum he ?_
    refine ⟨s1.heap.objs.size + 1, [s1.heap.objs.size + 1, s1.heap.objs.size], _, _, H1, rfl, I1.kept (t' := s1.toks) hk, turn_enumS _ _ x t (strIterType x) ?_, ⟨⟨.none, he⟩, hit, Nat.succ_ne_self _⟩, fun b hb => I1.fpOk (two hb) (I1.hok.fresh (two hb)), q⟩
    unfold strIterType
    split
    · exact .inl rfl
    · exact .inr rfl
def numD : Nat → List D → List D
  | _, [] => []
  | i, d :: ds => .tuple [.int (i : Nat), d] :: numD (i + 1) ds
theorem numD_len : ∀ (i : Nat) (ds : List D), (numD i ds).length = ds.length
  | _, [] => rfl
  | i, d :: ds => by simp [numD, numD_len (i + 1) ds]
theorem numD_get : ∀ (i : Nat) (ds : List D) (j : Nat) (d : D), (numD i ds)[j]? = some d → ∃ x, ds[j]? = some x ∧ d = .tuple [.int ((i + j : Nat) : Int), x]
  | _, [], _, _, h => by simp [numD] at h
  | i, x :: ds, 0, d, h => by simp [numD] at h; exact ⟨x, rfl, by simp [h]⟩
  | i, x :: ds, j + 1, d, h => by
    obtain ⟨y, h1, h2⟩ := numD_get (i + 1) ds j d (by simpa [numD] using h)
    exact ⟨y, by simpa using h1, by rw [h2]; congr 3; congr 1; omega⟩
def enD : D → Option (List D)
  | .list xs => some (numD 0 xs)
  | .str z => some (numD 0 (z.cps.toList.map fun c => .str ⟨#[c]⟩))
  | _ => none
def eEn (g : Ev D) : Ev (List D) := fun ρ => (g ρ).bind fun d r => ofO (enD d) r
section
variable {X : Cx} {cl : Cl} {W : WX} {e : Expr} {p pos tpos : Pos} {elts : List Expr} {kk : Nat}
theorem i_enum {g : Ev D} (hg : Gl X "enumerate") (hm : X.mg "enumerate" = none) (ha : PE X e (tE X.K cl W g)) (hs : starEach [e] X.env = (false, eval e X.env) :: starEach [] X.env := by rfl) : PI X (.Tuple elts kk tpos) (.Call (.Name "enumerate" p) [e] [] pos) (tI X.K cl W (eEn g)) := by
  refine PI.weak (pi_enumA hg hm ha hs) ?_
  rintro σ H Q ⟨M, ρ, R, q⟩
  refine tG_bind R q fun v d ρ1 H1 _ g1 R1 q1 p1 => ?_
  have pr : ∀ {G H H' : Hp} {T : Addr} {i : Nat} {u : V} {x : D}, Same G H → H T = none → H' = upd H T (.tup [.int (i : Nat), u]) → Dd X.K G u x → Same H H' ∧ Dd X.K (Ex G H H') (.ref T) (.tuple [.int (i : Nat), x]) := fun {G H H' T i u x} s n e h => by
    subst e
    exact ⟨fun b o z => by rw [upd_ne (ne_of_none z n)]; exact z, .tup (ex_new n upd_same) (.cons (.int _) (.cons (dd_mono (ex_same s) _ _ h) .nil))⟩
  cases d with
  | list ds =>
    cases q1 with
    | lst hs ha =>
      rename_i a vs
      have hl := ha.length
      refine .inl ⟨a, vs, rfl, .inl (.inl (rs_of hs).1), p1 _ H1 Go.refl R1 ⟨fun H s => ⟨vs, .inl (.inl (s _ _ hs)), by rw [numD_len]; omega⟩, fun i d H ed s => ?_⟩⟩
      obtain ⟨x, ex, rfl⟩ := numD_get 0 ds i d ed
      obtain ⟨u, hu, du⟩ := ha.get ex
      refine ⟨⟨vs, u, .inl (.inl (s _ _ hs)), hu⟩, fun y H' ⟨T, u', ey, n, eH, hx⟩ => ?_⟩
      have eu := hx vs (.inl (.inl (s _ _ hs)))
      rw [hu] at eu
      cases eu
      subst ey
      rw [Nat.zero_add]
      exact pr s n eH du
  | str z =>
    cases q1
    refine .inr ⟨z, rfl, p1 _ H1 Go.refl R1 ⟨fun H s => by show _ = _; rw [numD_len]; simp, fun i d H ed s => ?_⟩⟩
    obtain ⟨x, ex, rfl⟩ := numD_get 0 _ i d ed
    rw [List.getElem?_map, Array.getElem?_toList] at ex
    obtain ⟨c, hc, rfl⟩ := Option.map_eq_some_iff.mp ex
    refine ⟨(Array.getElem?_eq_some_iff.mp hc).1, fun y H' ⟨T, c', ey, n, eH, hx⟩ => ?_⟩
    rw [hc] at hx
    cases hx
    subst ey
    rw [Nat.zero_add]
    exact pr s n eH (.str _)
  | none => exact p1.elim
  | bool _ => exact p1.elim
  | int _ => exact p1.elim
  | tuple _ => exact p1.elim
  | dict _ => exact p1.elim
end

/-! ### {k: v}, k a tuple -/
def tDict1 (tk tv : TE) : TE := fun σ H Q => ∀ p, H p = none → tk σ (upd H p (.dT [])) fun y H1 => tv σ H1 fun x H2 => H2 p = some (.dT []) ∧ ∃ H3, DPut H2 p y x H3 ∧ Q (.ref p) H3
theorem pe_dict1 {X : Cx} {k v : Expr} {tk tv : TE} {pos : Pos} (hu : X.A.units + 1 < cLine) (hk : PE X k tk) (hv : PE X v tv) : PE X (.Dict [some k] [v] pos) (tDict1 tk tv) := by
  refine ⟨fun pins s σ H Q I h => ?_⟩
  have n := I.hok.fresh (Nat.le_refl s.heap.objs.size)
  have I1 := I.laid (a := s.heap.objs.size) (o := .dT []) (h' := s.heap.push { cls := .type "dict", data := .dict #[] }) (t' := s.toks) (fun _ _ q => Heap.get?_push_of_some _ q) (Nat.le_refl _) (dt_empty s.heap I.big)
  refine wpAny_Dict_any rfl rfl (by simp) (by simp) (pairTrees_cons_walk (thn (hk.run pins _ σ _ _ I1 (h _ n)) fun u s1 ⟨y, H1, J1, ry, q1⟩ => thn (hv.run pins s1 σ H1 _ J1 q1) fun r s2 ⟨x, H2, J2, rx, e2, H3, dp, q2⟩ => pairTrees_nil_walk ?_))
  unfold storeAll
  rw [List.forIn_cons]
  rcases dp with ⟨kvs, k', e, _⟩ | ⟨kvs, k', b, e, ey, eb, l, eH⟩
  · rw [e2] at e; cases e
  · rw [e2] at e
    cases e
    subst ey eH
    cases (show u = Value.ref b from ry)
    obtain ⟨z, hd, xs, rel, dd⟩ := dt_of J2.hok e2
    have hz : xs.length ≤ sizeLine := by rw [← Paired.length rel]; exact z
    have hl : (putK ([] : List (List Key × V)) k' x).length ≤ sizeLine := by have := length_putK ([] : List (List Key × V)) k' x; simp at this; omega
    refine wpAny_bind (wpAny_bind (wpAny_dictSet_heap (hsz := hz) (by first | exact tupleKind_room hu | (show X.A.units < cLine; omega)) (key_of J2.hok eb) dd fun h' dd' hs => wpAny_pure ?_))
    dsimp only
    rw [List.forIn_nil]
    refine wpAny_pure ?_
    obtain ⟨q, es, ep, hq, h2, h3, h4, _, h5⟩ := dd'
    refine ⟨.ref _, upd H2 s.heap.objs.size (.dT (putK [] k' x)), d_write J2 (by rw [e2]; exact True.intro) hs ⟨q, hq⟩ ⟨hl, hd, _, (rel.put k' eb rx).keeps fun c ys ec => ?_, q, es, ep, hq, h2, h3, h4, h5⟩, rfl, q2⟩
    rw [upd_ne (ne_of ec e2 (fun z => nomatch z))]
    exact ec
/-- the dict of one pair -/
def mkDt (k v : D) : Option Ob := match k with
  | .tuple ds => (toKs ds).map fun ks => .dt [(ks, v)]
  | _ => none
def eDict1 (gk gv : Ev D) : Ev Ob := fun ρ => (noEr (gk ρ)).bind fun k r => (noEr (gv r)).bind fun v r2 => ofO (mkDt k v) r2
theorem o_dict1 {X : Cx} {cl : Cl} {W : WX} {k v : Expr} {gk gv : Ev D} {pos : Pos} (hu : X.A.units + 1 < cLine) (hk : PE X k (tE X.K cl W0 gk)) (hv : PE X v (tE X.K cl W0 gv)) : PE X (.Dict [some k] [v] pos) (tO X.K cl W (eDict1 gk gv)) := by
  refine PE.weak (pe_dict1 hu hk hv) ?_
  rintro σ H Q ⟨M, ρ, R, q⟩ p hp
  have s0 : Same H (upd H p (.dT [])) := fun b o e => by rw [upd_ne (ne_of_none e hp)]; exact e
  have R' := R.plus (o := .dt []) s0 hp ⟨_, upd_same⟩
  unfold eDict1 at q
  refine ⟨_, ρ, R', ?_⟩
  cases ek : gk ρ with
  | er c r => rw [ek] at q; exact q.elim
  | no => rw [ek] at q; exact q.elim
  | ok kd r1 =>
    rw [ek] at q
    intro y H1 g1 R1 hy
    refine ⟨_, r1, R1, ?_⟩
    have q : Pst X.K cl W (RO X.K) M σ ρ H ((noEr (gv r1)).bind fun v r2 => ofO (mkDt kd v) r2) Q := q
    cases ev : gv r1 with
    | er c r => rw [ev] at q; exact q.elim
    | no => rw [ev] at q; exact q.elim
    | ok vd r2 =>
      rw [ev] at q
      intro x H2 g2 R2 hx
      have hy : Dd X.K (rs (Mu (fun a => M a ∨ a = p) σ r1) H1) y kd := hy
      have hx : Dd X.K (rs (Mu (fun a => M a ∨ a = p) σ r2) H2) x vd := hx
      have e1 : H1 p = some (.dT []) := stay_ R' g1 upd_same
      have e2 : H2 p = some (.dT []) := stay_ R1 g2 e1
      refine ⟨e2, ?_⟩
      cases kd with
      | tuple ds =>
        have q : Pst X.K cl W (RO X.K) M σ ρ H (ofO ((toKs ds).map fun ks => Ob.dt [(ks, vd)]) r2) Q := q
        cases ets : toKs ds with
        | none => rw [ets] at q; exact q.elim
        | some ks =>
          rw [ets] at q
          have hy2 := dd_mono g2.same _ _ hy
          cases hy2 with
          | tup ht hd =>
            have evs := toKs_dd hd ets
            subst evs
            obtain ⟨R8, er⟩ := rel_upd (o := .dT (putK [] ks x)) R2 (.inr rfl)
            refine ⟨_, DPut.t e2 (rs_of ht).1 (by rw [line_]; decide), ?_⟩
            have z := (Go.ext R s0).trans (g1.trans g2)
            refine q _ _ ⟨fun b o e n => ?_, z.own, z.io, fun b o e => ?_⟩ (R8.weak fun _ w => .inl w) ⟨p, rfl, hp, fun w => ?_, R8, _, upd_same, ?_⟩
            · rw [upd_ne (ne_of_none e hp)]; exact z.keep b o e n
            · rw [upd_ne (ne_of_none e hp)]; exact z.live b o e
            · rcases w with w | w
              · obtain ⟨o, e⟩ := R.live p w
                rw [hp] at e; cases e
              · obtain ⟨j, b, o, z1, z2⟩ := w
                obtain ⟨a, y1, y2, _⟩ := R2.ow j b o z1
                rw [z2] at y1; cases y1
                exact y2 (.inr rfl)
            · rw [er]
              exact .cons ⟨rfl, hx⟩ .nil
      | none => exact q.elim
      | bool _ => exact q.elim
      | int _ => exact q.elim
      | str _ => exact q.elim
      | list _ => exact q.elim
      | dict _ => exact q.elim
end DL
end
section
set_option Elab.async false
set_option linter.all false
set_option maxRecDepth 100000
set_option autoImplicit false
namespace DL
open PySem PySem.Spec PyProof.Rows L2 HT

/-! ### t[::-1], a tuple -/
section
variable {prog : Program} {w : World} {A : Around} {E : Value → Shared → Prop} {s : Shared}
theorem rev_pick (xs : Array Value) : ((List.range xs.size).filterMap fun (k : Nat) => xs[(((xs.size : Int) - 1) + (k : Int) * (-1)).toNat]?).toArray = xs.toList.reverse.toArray := by
  congr 1
  have e : ((List.range xs.size).filterMap fun (k : Nat) => xs[(((xs.size : Int) - 1) + (k : Int) * (-1)).toNat]?) = ((List.range xs.size).map fun k => xs.size - 1 - k).filterMap (xs[·]?) := by
    rw [List.filterMap_map]
    congr 1
    funext k
    have z : (((xs.size : Int) - 1) + (k : Int) * (-1)).toNat = xs.size - 1 - k := by omega
    rw [z]
    rfl
  rw [e, PySem.W.krv_range, List.filterMap_reverse, PySem.W.krv_all]
theorem getItem_tuple_back {t sl : Addr} {items : Array Value} {vs : Value} {Q : Value → Shared → Prop} (ht : IsTup s.heap t items) (hs : s.heap.IsSliceOf sl .none .none vs) (ps : IsPart vs (some (-1)))
    (h : Q (.ref s.heap.objs.size) { s with heap := s.heap.push { cls := .type "tuple", data := .seq items.toList.reverse.toArray } }) (hsz : items.size ≤ sizeLine) : wpAny (model prog w) A (getItem (.ref t) (.ref sl)) Q E s := by
  obtain ⟨os, hos, hcs, hds⟩ := id hs
  have isl : s.TypeIs (.ref sl) "slice" := ⟨os, hos, hcs⟩
  have fits : sizeOk (.seq items.toList.reverse.toArray) := by
    show items.toList.reverse.toArray.size ≤ sizeLine
    rw [List.size_toArray, List.length_reverse, Array.length_toList]
    exact hsz
  unfold getItem
  try with_reducible refine wpAny_holding ?_
  first | refine wpAny_bind (wpAny_pure ?_) | skip
  refine wpAny_bind (wpAny_sequenceKey ht.typeIs (by decide) ?_)
  refine wpAny_bind (wpAny_callSpecial?_slot (name := Str.ofString "__getitem__") ht.typeIs slot_tuple_getitem (wpAny_call_entry slot_tuple_getitem ht.typeIs entry_tuple_getitem ?_ (args_tuple_getitem _ _)))
  show wpAny _ _ (Builtin.Tuple.tupleItemsOf (.ref t) >>= _) _ _ s
  refine wpAny_bind (tupleItemsOf_ ht (wpAny_bind (wpAny_typeOf isl ?_)))
  rw [if_pos (by decide)]
  refine wpAny_bind (m := Builtin.Slice.sliceApplied _ _) ?_
  · unfold Builtin.Slice.sliceApplied Builtin.Slice.sliceFields
    refine wpAny_bind (wpAny_bind (wpAny_field hos hds (x := .none) rfl (wpAny_bind (wpAny_field hos hds (x := .none) rfl (wpAny_bind (wpAny_field hos hds (x := vs) rfl (wpAny_pure ?_)))))))
    refine wpAny_bind (slicePart_ ps ?_)
    show wpAny _ _ (if ((-1 : Int) == 0) = true then _ else _) _ _ s
    rw [if_neg (by decide)]
    refine wpAny_bind (slicePart_none (wpAny_bind (slicePart_none (wpAny_bind (wpAny_pure ?_)))))
    have e2 : Builtin.Slice.slicePlaces ((items.size : Int) - 1) (-1) (-1) = items.size := by
      unfold Builtin.Slice.slicePlaces
      rw [if_neg (by decide)]
      split
      · have z : ((items.size : Int) - 1 - -1 - 1) / (- -1) = (items.size : Int) - 1 := by
          rw [show (- -1 : Int) = 1 by decide, Int.ediv_one]; omega
        rw [z]; omega
      · omega
    show wpAny _ _ (pure (((items.size : Int) - 1), (-1 : Int), Builtin.Slice.slicePlaces ((items.size : Int) - 1) (-1) (-1))) _ _ s
    rw [e2]
    refine wpAny_pure ?_
    show wpAny _ _ (if (((items.size : Int) - 1) == 0 && (-1 : Int) == 1 && items.size == items.size) = true then _ else _) _ _ s
    rw [if_neg (by simp), rev_pick]
    exact wpAny_bind (m := Builtin.Tuple.tupleExact _) (wpAny_newObj_type (wpAny_pure ⟨_, rfl, wpAny_pure h⟩) fits)
end
def tRevT (K : PySem.W.Frag) (te : TE) : TE := fun σ H Q => te σ H fun x H1 => ∃ a xs, x = .ref a ∧ SqT K H1 a xs ∧ ∀ p, H1 p = none → Q (.ref p) (upd H1 p (.tup xs.reverse))
theorem pe_revT {X : Cx} {e : Expr} {te : TE} {k : Nat} {p1 p2 p3 pos : Pos} (he : PE X e te) : PE X (.Subscript e (.Slice none none (some (.UnaryOp .USub (.Constant (.int 1) k p1) p2)) p3) pos) (tRevT X.K te) := by
  refine ⟨fun pins s σ H Q I h => ?_⟩
  refine Subscript_ (thn (he.run pins s σ H _ I h) fun v s1 ⟨x, H1, I1, r1, a, xs, ex, hx, q⟩ => ?_)
  subst ex
  cases r1
  have minus : PO X (some (.UnaryOp .USub (.Constant (.int 1) k p1) p2)) (tPart (tUn (rU fun i => .int (-i)) (tC (.int 1)))) := po_some (pe_un un_neg pe_int)
  refine wpAny_Slice (thn (po_none.run pins s1 σ H1 (fun o H2 => o = none ∧ H2 = H1) I1 ⟨rfl, rfl⟩) fun vl s2 ⟨l, H2, I2, pl, el, e2⟩ => ?_)
  subst el e2
  refine thn (po_none.run pins s2 σ H2 (fun o H3 => o = none ∧ H3 = H2) I2 ⟨rfl, rfl⟩) fun vu s3 ⟨u, H3, I3, pu, eu, e3⟩ => ?_
  subst eu e3
  refine thn (minus.run pins s3 σ H3 (fun o H4 => o = some (-1) ∧ H4 = H3) I3 ⟨1, rfl, -1, rfl, rfl, rfl⟩) fun vs s4 ⟨o, H4, I4, ps, eo, e4⟩ => ?_
  subst eo e4
  have el : vl = .none := by cases pl; rfl
  have eu : vu = .none := by cases pu; rfl
  subst el eu
  have I5 : L2.Inv X pins σ H4 { s4 with heap := s4.heap.push { cls := .type "slice", data := .fields #[.none, .none, vs] } } := I4.kept (t' := s4.toks) fun b ob q => Heap.get?_push_of_some _ q
  obtain ⟨its, r, ht, hz⟩ := I5.tuple hx
  have hlen := r.length
  show wpAny (model X.prog X.w) X.A (subscriptTail e (.Slice none none (some (.UnaryOp .USub (.Constant (.int 1) k p1) p2)) p3) (.ref a) (.ref s4.heap.objs.size)) (EP X pins σ Q) X.xe { s4 with heap := s4.heap.push { cls := .type "slice", data := .fields #[.none, .none, vs] } }
  refine tail_any (ops := [.ref a, .ref s4.heap.objs.size]) ht.typeIs slot_tuple_getitem.lookup ?_ (by with_unfolding_all rfl)
  refine getItem_tuple_back ht (Heap.IsSliceOf.new _ .none .none vs) ps ?_ (by rw [List.size_toArray]; omega)
  refine ⟨.ref _, _, I5.laid (t' := s4.toks) (o := .tup xs.reverse) (fun b ob q => Heap.get?_push_of_some _ q) (Nat.le_refl _) ?_, rfl, q _ (I5.hok.fresh (Nat.le_refl _))⟩
  exact ⟨by rw [List.length_reverse]; exact hz, _, r.reverse, IsTup.new _ _⟩
def revD : D → Option D
  | .tuple xs => some (.tuple xs.reverse)
  | _ => none
theorem d_rev {X : Cx} {cl : Cl} {W : WX} {e : Expr} {A : Opd} {k : Nat} {p1 p2 p3 pos : Pos} (he : PE X e (tP X.K cl W A)) : PE X (.Subscript e (.Slice none none (some (.UnaryOp .USub (.Constant (.int 1) k p1) p2)) p3) pos) (tE X.K cl W (e1 revD A)) := by
  refine PE.weak (pe_revT he) ?_
  rintro σ H Q ⟨M, ρ, R, q⟩
  refine tG_bind R q fun v y ρ1 H1 _ g1 R1 q1 p1 => ?_
  refine end_d R1 p1 fun o e k => ?_
  obtain ⟨d1, h1, e⟩ := Option.bind_eq_some_iff.mp e
  have hb := RV0.fin R1 q1 h1
  unfold revD at e
  split at e
  · cases e
    obtain ⟨p, vs, rfl, hp, hd⟩ := hb.tuple (rs_sub _ _)
    refine ⟨p, vs, rfl, .inl (.inl (rs_of hp).1), fun a n => ?_⟩
    exact k _ _ (fun q o e => by rw [upd_ne (ne_of_none e n)]; exact e) (.tup (ex_new n upd_same) (ddAll_mono (ex_same (rs_sub _ _)) _ _ hd.reverse))
  · cases e

/-! ### a def, its counts written -/
theorem room_un {k : Nat} {A : Around} (r : Room k A) : A.units + 1 < cLine ∧ A.units + 64 < cLine ∧ A.units + 65 < cLine ∧ A.units + 200 < cLine := by
  have h := r.un
  exact ⟨by omega, by omega, by omega, by omega⟩
theorem def_ok2 {P : Program} {w : World} {K : PySem.W.Frag} {mg : Str → Option Value} {base : Heap} {x qual : Str} {st : Stmt} {f : Addr} {fd : FuncData} {N ps : List Str} {k n m : Nat} {cl : Cl} {g : Ev Fl} {Fp : Rho → Res D} (F : Fun K x qual st f fd) (S : FnScope N ps (defScope st)) (hF : Fp = bodyF n g) (hn : N.length = n) (hm : ps.length = m) (hN : m ≤ n)
    (hbody : ∀ (cdv : Value) (A : Around) (outer : List Env) (s : Shared) (H : Hp) (E : XK), Room k (A.deeper (PyProof.Rows.envOfC qual (defScope st) s.heap.objs.size f cdv)) →
      PSs (bx P w K mg base N qual st f cdv A outer s H E) (defBody st) (tS K cl (WF E) g)) : FnOk P w K mg base (L2.CX P w) (k + 1) f fd ps (spF K cl m Fp) := by
  subst hF hn hm
  exact def_ok F S hN hbody
end DL
end
section
set_option Elab.async false
set_option linter.all false
set_option maxRecDepth 100000
set_option autoImplicit false
namespace DL
open PySem PySem.Spec L2

/-! ### try: .. except C .. -/
/-- m says of a class's name whether the clause takes it -/
def tryS (m : String → Option Bool) (gb gh : Ev Fl) : Ev Fl := fun ρ => match gb ρ with
  | .er c r => match m c with
    | some true => gh r
    | some false => .er c r
    | none => .no
  | x => x
def isUn (o : Option Sl) : Bool := match o with
  | some .un => true
  | _ => false
/-- .. as a name: its slot i is forgotten -/
def tryAsS (m : String → Option Bool) (i : Nat) (gb gh : Ev Fl) : Ev Fl := fun ρ => match gb ρ with
  | .er c r => match m c with
    | some true => match sto r i .un with
      | some r1 => match gh r1 with
        | .ok f r2 => if isUn r2[i]? = true then .ok f r2 else .no
        | .er _ _ => .no
        | .no => .no
      | none => .no
    | some false => .er c r
    | none => .no
  | x => x
section
variable {X : Cx} {cl : Cl} {Wout : WX} {x n : Str} {C : Value} {i : Nat} {body suite : List Stmt} {b₀ : Stmt} {np pos pos' : Pos} {m : String → Option Bool} {gb gh : Ev Fl}
theorem s_try (hs : X.stack = X.env :: X.outer) (hf : X.env.frame = some X.env.locals) (hc : Names X x C) (tk : Takes X Wout) (hm : ∀ c b, m c = some b → ∀ cls dd, cl c cls dd → PySem.W.exmOne X.K cls C = some b)
    (hb : ∀ (W : WX) (pn : List (Addr × Obj)) (xe : Value → Shared → Prop), Takes (X.tr pn xe) W → PassesOwn (model X.prog X.w) X.A X.env xe → PSs (X.tr pn xe) body (tS X.K cl W gb))
    (hsu : ∀ (a : Addr) (oe : Obj) (cls : Value) (d : Option Addr) (pn : List (Addr × Obj)), Zc cls d oe → (∃ vs, oe.data = .fields vs) → PSs (X.suite a ((a, oe) :: pn)) (b₀ :: suite) (tS X.K cl W0 gh)) (hn : ∀ r c r', gh r ≠ .er c r') :
    PS X (.Try body [.ExceptHandler (some (.Name x np)) none (b₀ :: suite) pos'] [] [] pos) (tS X.K cl Wout (tryS m gb gh)) := by
  refine PS.weak (ps_try_only hs hf hc tk hb (ts := fun _ _ _ => tS X.K cl W0 gh) hsu) ?_
  rintro E σ H ⟨M, ρ, R, p⟩
  refine ⟨M, ρ, R, ?_⟩
  unfold tryS at p
  cases e : gb ρ with
  | ok f r =>
    rw [e] at p
    cases f <;> exact p
  | no => rw [e] at p; exact p
  | er c r =>
    rw [e] at p
    intro cls dd σ' H' hcl g R'
    have p : Sst X.K cl Wout M E σ ρ H (match m c with
      | some true => gh r
      | some false => .er c r
      | none => .no) := p
    cases em : m c with
    | none => rw [em] at p; exact p.elim
    | some b =>
      rw [em] at p
      refine ⟨b, hm c b em cls dd hcl, fun eb a _ => ?_, fun eb => ?_⟩
      · subst eb
        have p : Sst X.K cl Wout M E σ ρ H (gh r) := p
        refine ⟨M, r, R', ?_⟩
        have p := Sst.step g p
        cases eh : gh r with
        | ok f r2 => rw [eh] at p; cases f <;> exact p
        | no => rw [eh] at p; exact p
        | er c2 r2 => exact absurd eh (hn r c2 r2)
      · subst eb
        exact p cls dd σ' H' hcl g R'
/-- what the suite knows of the exception -/
def ExAt (σ : St) (i : Nat) (a : Addr) : Prop := σ[i]? = some (some (.ref a))
/-- a reading that is asked under a premise -/
theorem PSs.under {X : Cx} {ss : List Stmt} {P : Prop} {t : TS} (h : P → PSs X ss t) : PSs X ss (fun E σ H => P ∧ t E σ H) := ⟨fun pins s σ H D I q => (h q.1).run pins s σ H D I q.2⟩
theorem rel_un {K : PySem.W.Frag} {M : Addr → Prop} {σ : St} {H : Hp} {ρ ρ1 : Rho} {i : Nat} {v : Option V} (R : Rel K M σ H ρ) (h : sto ρ i .un = some ρ1) : Rel K M (σ.set i v) H ρ1 ∧ Go σ ρ H (σ.set i v) ρ1 H := by
  obtain ⟨hi, hn, rfl⟩ := sto_of h
  have os : ∀ p, Own (σ.set i v) (ρ.set i .un) p → Own σ ρ p := fun p ⟨j, b, o, h1, h2⟩ => by
    by_cases e : i = j
    · subst e
      rw [List.getElem?_set_self hi] at h1
      cases h1
    · rw [List.getElem?_set_ne e] at h1 h2
      exact ⟨j, b, o, h1, h2⟩
  have le : ∀ p, Mu M (σ.set i v) (ρ.set i .un) p → Mu M σ ρ p := fun p z => z.elim .inl fun z => .inr (os p z)
  refine ⟨⟨by rw [List.length_set, List.length_set, R.len], R.live, fun j d' q => ?_, fun j b o q => ?_, fun j k b o b' o' p q1 q2 q3 q4 => ?_⟩, ⟨fun _ _ h _ => h, fun p h => .inl (os p h), fun j o' q => ?_, fun _ o h => ⟨o, h⟩⟩⟩
  · by_cases ij : i = j
    · subst ij
      rw [List.getElem?_set_self hi] at q; cases q
    · rw [List.getElem?_set_ne ij] at q ⊢
      obtain ⟨w, g1, g2⟩ := R.fz j d' q
      exact ⟨w, g1, dd_mono (rs_le le) _ _ g2⟩
  · by_cases ij : i = j
    · subst ij
      rw [List.getElem?_set_self hi] at q; cases q
    · rw [List.getElem?_set_ne ij] at q ⊢
      obtain ⟨p, g1, g2, g3⟩ := R.ow j b o q
      exact ⟨p, g1, g2, g3.mono (rs_le le) rfl⟩
  · by_cases ij : i = j
    · subst ij
      rw [List.getElem?_set_self hi] at q1; cases q1
    · by_cases ik : i = k
      · subst ik
        rw [List.getElem?_set_self hi] at q2; cases q2
      · rw [List.getElem?_set_ne ij] at q1 q3
        rw [List.getElem?_set_ne ik] at q2 q4
        exact R.inj j k _ _ _ _ p q1 q2 q3 q4
  · by_cases ij : i = j
    · subst ij
      rw [List.getElem?_set_self hi] at q; cases q
    · rw [List.getElem?_set_ne ij] at q ⊢
      exact ⟨⟨o', q⟩, rfl⟩
theorem s_tryAs (hs : X.stack = X.env :: X.outer) (hf : X.env.frame = some X.env.locals) (hN : X.N.Nodup) (hi : X.N[i]? = some n) (hln : X.env.kindOf n = some .local) (hc : Names X x C) (tk : Takes X Wout) (hm : ∀ c b, m c = some b → ∀ cls dd, cl c cls dd → PySem.W.exmOne X.K cls C = some b)
    (hb : ∀ (W : WX) (pn : List (Addr × Obj)) (xe : Value → Shared → Prop), Takes (X.tr pn xe) W → PassesOwn (model X.prog X.w) X.A X.env xe → PSs (X.tr pn xe) body (tS X.K cl W gb))
    (hsu : ∀ (a : Addr) (oe : Obj) (cls : Value) (d : Option Addr) (pn : List (Addr × Obj)), Zc cls d oe → (∃ vs, oe.data = .fields vs) → (∃ c, cl c cls d ∧ m c = some true) → PSs (X.suite a ((a, oe) :: pn)) (b₀ :: suite) (fun E σ H => ExAt σ i a ∧ tS X.K cl W0 gh E σ H)) :
    PS X (.Try body [.ExceptHandler (some (.Name x np)) (some n) (b₀ :: suite) pos'] [] [] pos) (tS X.K cl Wout (tryAsS m i gb gh)) := by
  refine PS.weak (ps_try_as hs hf hN hi hln hc tk hb (ts := fun a cls d => fun E σ H => (∃ c, cl c cls d ∧ m c = some true) ∧ ExAt σ i a ∧ tS X.K cl W0 gh E σ H) fun a oe cls d pn h1 h2 => PSs.under fun h3 => hsu a oe cls d pn h1 h2 h3) ?_
  rintro E σ H ⟨M, ρ, R, p⟩
  refine ⟨M, ρ, R, ?_⟩
  unfold tryAsS at p
  cases e : gb ρ with
  | ok f r =>
    rw [e] at p
    cases f <;> exact p
  | no => rw [e] at p; exact p
  | er c r =>
    rw [e] at p
    intro cls dd σ' H' hcl g R'
    dsimp only at p
    cases em : m c with
    | none => rw [em] at p; exact p.elim
    | some b =>
      rw [em] at p
      refine ⟨b, hm c b em cls dd hcl, fun eb a na => ?_, fun eb => ?_⟩
      · subst eb
        dsimp only at p
        cases es : sto r i .un with
        | none => rw [es] at p; exact p.elim
        | some r1 =>
          rw [es] at p
          dsimp only at p
          obtain ⟨R1, g1⟩ := rel_un (v := some (.ref a)) R' es
          have hil : i < σ'.length := by rw [R'.len]; exact (sto_of es).1
          refine ⟨⟨c, hcl, em⟩, List.getElem?_set_self hil, M, r1, R1, ?_⟩
          cases eh : gh r1 with
          | no => rw [eh] at p; exact p.elim
          | er c2 r2 => rw [eh] at p; exact p.elim
          | ok f r2 =>
            rw [eh] at p
            dsimp only at p
            split at p
            · rename_i hcnd
              have ez : r2[i]? = some .un := by
                unfold isUn at hcnd
                split at hcnd
                · assumption
                · cases hcnd
              have es2 : sto r2 i .un = some r2 := by
                unfold sto
                rw [ez]
                show some (r2.set i .un) = some r2
                congr 1
                refine List.ext_getElem? fun j => ?_
                by_cases ij : i = j
                · subst ij
                  rw [List.getElem?_set_self (List.getElem?_eq_some_iff.mp ez).1, ez]
                · rw [List.getElem?_set_ne ij]
              have p := Sst.step (g.trans g1) p
              have fin : ∀ σ2 H2, Go (σ'.set i (some (.ref a))) r1 H' σ2 r2 H2 → Rel X.K M σ2 H2 r2 → Go (σ'.set i (some (.ref a))) r1 H' (σ2.set i none) r2 H2 ∧ Rel X.K M (σ2.set i none) H2 r2 := fun σ2 H2 g2 R2 => by
                obtain ⟨R3, g3⟩ := rel_un (v := none) R2 es2
                exact ⟨g2.trans g3, R3⟩
              cases f with
              | nx => exact fun σ2 H2 g2 R2 => p _ H2 (fin σ2 H2 g2 R2).1 (fin σ2 H2 g2 R2).2
              | rt d => exact fun v σ2 H2 g2 R2 q => p v σ2 H2 g2 R2 q
              | bk => exact fun σ2 H2 g2 R2 => p _ H2 (fin σ2 H2 g2 R2).1 (fin σ2 H2 g2 R2).2
              | ct => exact fun σ2 H2 g2 R2 => p _ H2 (fin σ2 H2 g2 R2).1 (fin σ2 H2 g2 R2).2
            · exact p.elim
      · subst eb
        exact p cls dd σ' H' hcl g R'
end
/-! ### under what the suite knows -/
section
variable {X : Cx} {cl : Cl} {W : WX} {a b : Expr} {rest : List Expr} {pos : Pos} {G : St → Prop}
theorem d_andG {g h : Ev D} (ha : PE X a (tE X.K cl W g)) (hb : PE X (.BoolOp .And (b :: rest) pos) (fun σ H Q => G σ ∧ tE X.K cl W h σ H Q)) : PE X (.BoolOp .And (a :: b :: rest) pos) (fun σ H Q => G σ ∧ tE X.K cl W (eAndV g h) σ H Q) := by
  refine PE.weak (pe_and ha hb) ?_
  rintro σ H Q ⟨hG, M, ρ, R, p⟩
  refine tG_bind R p fun v d ρ1 H1 _ g1 R1 q1 p1 => ?_
  cases d with
  | bool k =>
    refine ⟨k, bl_of q1, ?_⟩
    cases k with
    | true => exact iteT ⟨hG, M, ρ1, R1, p1⟩
    | false => exact iteF (p1 _ H1 Go.refl R1 (.bl false))
  | none => exact p1.elim
  | int _ => exact p1.elim
  | str _ => exact p1.elim
  | list _ => exact p1.elim
  | tuple _ => exact p1.elim
  | dict _ => exact p1.elim
theorem d_oneG {op : BoolOp} {t : TE} (ha : PE X a t) : PE X (.BoolOp op [a] pos) t := pe_one ha
theorem s_retG {g : Ev D} (he : PE X a (fun σ H Q => G σ ∧ tE X.K cl W g σ H Q)) : PS X (.Return (some a) pos) (fun E σ H => G σ ∧ tS X.K cl W (rtS g) E σ H) := by
  refine PS.weak (ps_ret he) ?_
  rintro E σ H ⟨hG, M, ρ, R, p⟩
  refine ⟨hG, ?_⟩
  refine tS_bind R p fun v d ρ1 H1 _ g1 R1 q1 p1 => ?_
  exact p1 v σ H1 Go.refl R1 q1
/-- isinstance(error, T) in the suite, T a built-in class -/
theorem d_isE {p p2 pos : Pos} {n x : Str} {i : Nat} {at_ D : Addr} {oe : Obj} {pn : List (Addr × Obj)} {T : String} {k : Bool} (EC : ExcC X.K D) (hz : Zc (.ref D) none oe) (hv : ∃ vs, oe.data = .fields vs) (kt : PySem.W.kitOne X.K (.ref D) (.type T) = some k)
    (hg : Gl (X.suite at_ ((at_, oe) :: pn)) "isinstance") (hm : X.mg "isinstance" = none) (hgT : Gl (X.suite at_ ((at_, oe) :: pn)) x) (hmT : X.mg x = none) (hvT : bootBuiltins x = some (.type T)) (ho : PE (X.suite at_ ((at_, oe) :: pn)) (.Name n p2) (tVar i)) (hnT : x ≠ "__name__" := by decide) (hdT : (x == ("__debug__" : Str)) = false := by decide)
    {p3 : Pos} (he : starEach [.Name n p2, .Name x p3] (X.suite at_ ((at_, oe) :: pn)).env = (false, eval (.Name n p2) (X.suite at_ ((at_, oe) :: pn)).env) :: starEach [.Name x p3] (X.suite at_ ((at_, oe) :: pn)).env := by rfl) (he2 : starEach [Expr.Name x p3] (X.suite at_ ((at_, oe) :: pn)).env = (false, eval (.Name x p3) (X.suite at_ ((at_, oe) :: pn)).env) :: starEach [] (X.suite at_ ((at_, oe) :: pn)).env := by rfl)
    (hpl : (backTo pos (starEach [Expr.Name x p3] (X.suite at_ ((at_, oe) :: pn)).env)).any (·.1) = false := by rfl) :
    PE (X.suite at_ ((at_, oe) :: pn)) (.Call (.Name "isinstance" p) [.Name n p2, .Name x p3] [] pos) (fun σ H Q => ExAt σ i at_ ∧ tE X.K cl W (eC (.bool k)) σ H Q) := by
  have hT : PE (X.suite at_ ((at_, oe) :: pn)) (.Name x p3) (tC (.ty T)) := pe_bltn hgT hmT hvT rfl hnT hdT
  refine PE.weak (pe_callB (call_isE EC hz hv) hg hm PyProof.Rows.boot_isinstance (pa_cons ho (pa_cons hT pa_nil he2) he) (by decide) (by decide) he hpl) ?_
  rintro σ H Q ⟨hG, M, ρ, R, q⟩
  refine ⟨.ref at_, hG, .ty T, .type T, k, rfl, fun u r => ?_, kt, ?_⟩
  · exact r
  · exact q (.bl k) H Go.refl R (.bl k)
end
/-! ### the law's own def -/
def ScrAt (K : PySem.W.Frag) (ns : List Int) (σ : St) (H : Hp) : Prop := ∃ a, σ[0]? = some (some (.ref a)) ∧ SqL K H a (ns.map V.int)
section
variable {X : Cx} {cl : Cl} {W : WX} {st : Stmt} {sts : List Stmt} {es : List Expr} {gs : List (Ev D)} {ns : List Int} {p p1 p2 p3 pos : Pos}
/-- list(script) as the first of a list's items -/
theorem l_script (hl : Gl X "list") (hm : X.mg "list" = none) (hs : PE X (.Name "script" p2) (tVar 0)) (hr : PA X es (tL X.K cl W gs)) (na : starEach [Expr.Name "script" p2] X.env = (false, eval (.Name "script" p2) X.env) :: starEach [] X.env := by rfl) (hpl : (backTo p3 (starEach [] X.env)).any (·.1) = false := by rfl)
    (he : starEach (.Call (.Name "list" p1) [.Name "script" p2] [] p3 :: es) X.env = (false, eval (.Call (.Name "list" p1) [.Name "script" p2] [] p3) X.env) :: starEach es X.env := by rfl) :
    PA X (.Call (.Name "list" p1) [.Name "script" p2] [] p3 :: es) (fun σ H Q => ScrAt X.K ns σ H ∧ tL X.K cl W (eC (.list (ns.map .int)) :: gs) σ H Q) := by
  refine PA.weak (pa_cons (pe_callTy call_list_of hl hm PyProof.Rows.boot_list (pa_cons hs pa_nil na) (by decide) (by decide) na hpl) hr he) ?_
  rintro σ H Q ⟨⟨a, h0, hq⟩, M, ρ, R, q⟩
  refine ⟨.ref a, h0, a, _, rfl, .inl hq, fun l n => ?_⟩
  have s : Same H (upd H l (.lst (ns.map V.int))) := fun b o e => by rw [upd_ne (ne_of_none e n)]; exact e
  have R1 := R.ext s
  have q : Pst X.K cl W (RDs X.K) M σ ρ H ((eL gs ρ).bind fun ds r => .ok (.list (ns.map .int) :: ds) r) Q := q
  have q := Pst.step (Go.ext R s) q
  refine tG_bind R1 q fun vs ds ρ1 H1 _ g1 R2 q1 p1 => ?_
  refine p1 _ H1 Go.refl R2 (.cons ?_ q1)
  refine dd_mono g1.same _ _ (.lst (rs_mk upd_same fun z => ?_) dd_ints)
  obtain ⟨o, e⟩ := R.mlive z
  rw [n] at e; cases e
theorem s_start {i : Nat} {x : Str} {lp : Pos} (hN : X.N.Nodup) (hi : X.N[i]? = some x) (hx : Loc X.env.scope x) (hl : PA X es (fun σ H Q => ScrAt X.K ns σ H ∧ tL X.K cl W gs σ H Q)) (hs : swapsWith (.List es lp) (some (.Name x p)) pos.line X.env = pure false := by rfl)
    (hf : X.fn x = true ∨ X.env.scope.names.lookup x = some .local := by first | exact .inl rfl | exact .inr rfl | assumption) : PS X (.Assign [.Name x p] (.List es lp) pos) (fun E σ H => ScrAt X.K ns σ H ∧ tS X.K cl W (setO i (eLst gs)) E σ H) :=
  PS.weak (ps_set hN hi hx (pe_lst hl) hs hf) fun E σ H h => ⟨h.1, lst_w σ H _ (setO_w E σ H h.2)⟩
theorem ss_start {g h : Ev Fl} (h1 : PS X st (fun E σ H => ScrAt X.K ns σ H ∧ tS X.K cl W g E σ H)) (h2 : PSs X sts (tS X.K cl W h)) : PSs X (st :: sts) (fun E σ H => ScrAt X.K ns σ H ∧ tS X.K cl W (seqS g h) E σ H) :=
  PSs.weak (pss_cons h1 h2) fun E σ H q => ⟨q.1, seq_w E σ H q.2⟩
end
def spLaw (K : PySem.W.Frag) : Sp := fun vs H Q _ => ∃ (a : Addr) (ns : List Int), vs = [.ref a] ∧ SqL K H a (ns.map V.int) ∧ ns.length ≤ 63 ∧ ∀ H', Q (.bl true) H'
theorem law_ok {P : Program} {w : World} {K : PySem.W.Frag} {mg : Str → Option Value} {base : Heap} {x qual : Str} {st : Stmt} {f : Addr} {fd : FuncData} {N : List Str} {k n : Nat} {cl : Cl} {g : List Int → Ev Fl} (F : Fun K x qual st f fd) (S : FnScope N ["script"] (defScope st)) (hn : N.length = n) (h1 : 1 ≤ n)
    (hbody : ∀ (cdv : Value) (A : Around) (outer : List Env) (s : Shared) (H : Hp) (E : XK), Room k (A.deeper (PyProof.Rows.envOfC qual (defScope st) s.heap.objs.size f cdv)) → ∀ ns, PSs (bx P w K mg base N qual st f cdv A outer s H E) (defBody st) (fun E' σ H => ScrAt K ns σ H ∧ tS K cl (WF E) (g ns) E' σ H))
    (hlaw : ∀ ns : List Int, ns.length ≤ 63 → ∃ r, g ns (List.replicate n .un) = .ok (.rt (.bool true)) r) : FnOk P w K mg base (L2.CX P w) (k + 1) f fd ["script"] (spLaw K) := by
  subst hn
  refine F.okX S (fun vs H Q E h => by obtain ⟨a, ns, rfl, _⟩ := h; rfl) (fun cdv A outer s H vs Q E hr h => ?_)
  obtain ⟨a, ns, rfl, hS, hlen, q⟩ := h
  refine ⟨_, hbody cdv A outer s H E hr ns, ⟨a, ?_, hS⟩, ?_⟩
  · unfold L2.start
    rfl
  · obtain ⟨r, e⟩ := hlaw ns hlen
    have ll : (L2.start N [V.ref a]).length = N.length := by
      unfold L2.start
      rw [List.length_append, List.length_map, List.length_replicate]
      simp
      omega
    refine ⟨fun _ => False, List.replicate N.length .un, ⟨by rw [ll, List.length_replicate], fun p h => h.elim, fun i d h => ?_, fun i b o h => ?_, fun i j b o b' o' p h1 h2 h3 h4 => ?_⟩, ?_⟩
    · rw [List.getElem?_replicate] at h; split at h <;> cases h
    · rw [List.getElem?_replicate] at h; split at h <;> cases h
    · rw [List.getElem?_replicate] at h1; split at h1 <;> cases h1
    · rw [e]
      intro v σ' H' g R d
      rw [bl_of d]
      exact q H'
end DL
end
section
set_option Elab.async false
set_option linter.all false
set_option maxRecDepth 100000
set_option autoImplicit false
namespace DL
open PySem PySem.Spec L2

/-! ### running: the pure side by simp [-Option.bind_some, -Option.bind_none] -/
@[simp] theorem obind {α β : Type} (a : α) (f : α → Option β) : (some a).bind f = f a := Eq.trans rfl rfl
@[simp] theorem obindn {α β : Type} (f : α → Option β) : (none : Option α).bind f = none := Eq.trans rfl rfl

section
variable {α β : Type}
def Run (x : Res α) (P : α → Rho → Prop) : Prop := ∃ a r, x = .ok a r ∧ P a r
theorem run_ok {a : α} {r : Rho} {P : α → Rho → Prop} (h : P a r) : Run (.ok a r) P := ⟨a, r, rfl, h⟩
theorem run_bind {x : Res α} {f : α → Rho → Res β} {P : β → Rho → Prop} (h : Run x fun a r => Run (f a r) P) : Run (x.bind f) P := by
  obtain ⟨a, r, rfl, h⟩ := h
  exact h
theorem run_eq {x y : Res α} {P : α → Rho → Prop} (e : x = y) (h : Run y P) : Run x P := by rw [e]; exact h
theorem Run.mono {x : Res α} {P Q : α → Rho → Prop} (h : Run x P) (w : ∀ a r, P a r → Q a r) : Run x Q := let ⟨a, r, e, p⟩ := h; ⟨a, r, e, w a r p⟩
@[simp] theorem run_okI {a : α} {r : Rho} {P : α → Rho → Prop} : Run (.ok a r) P ↔ P a r := ⟨fun ⟨_, _, e, h⟩ => by cases e; exact h, run_ok⟩
end
@[simp] theorem fin_d (d : D) (r : Rho) : (OV.d d).fin r = some d := Eq.trans rfl rfl
@[simp] theorem fin_v (i : Nat) (r : Rho) : (OV.v i).fin r = pk r i := Eq.trans rfl rfl
@[simp] theorem opd_g (e : Ev D) (ρ : Rho) : (Opd.g e).run ρ = (e ρ).bind fun x r => .ok (.d x) r := Eq.trans rfl rfl
@[simp] theorem opd_b (i : Nat) (ρ : Rho) : (Opd.b i).run ρ = (ofO (pk ρ i) ρ).bind fun _ r => .ok (.v i) r := Eq.trans rfl rfl
@[simp] theorem pkf (d : D) : Sl.pk (.fz d) = some d := Eq.trans rfl rfl
@[simp] theorem pko (b : Bool) (xs : List D) : Sl.pk (.ow b (.ls xs)) = some (.list xs) := Eq.trans rfl rfl
@[simp] theorem pk_ap (ρ : Rho) (i : Nat) : pk ρ i = (ρ[i]?).bind Sl.pk := Eq.trans rfl rfl
/-! the combinators at slots -/
section
variable (ρ : Rho)
@[simp] theorem seqS_ap (g h : Ev Fl) : seqS g h ρ = (g ρ).bind fun f r => match f with | .nx => h r | f => .ok f r := Eq.trans rfl rfl
@[simp] theorem nxS_ap : nxS ρ = .ok .nx ρ := Eq.trans rfl rfl
@[simp] theorem pt_ap (f : Fl) : pt f ρ = .ok f ρ := Eq.trans rfl rfl
@[simp] theorem ifS_ap (c : Ev Bool) (g h : Ev Fl) : ifS c g h ρ = (c ρ).bind fun b r => if b = true then g r else h r := Eq.trans rfl rfl
@[simp] theorem setS_ap (i : Nat) (g : Ev D) : setS i g ρ = (g ρ).bind fun d r => stR (sto r i (.fz d)) := Eq.trans rfl rfl
@[simp] theorem setO_ap (i : Nat) (g : Ev Ob) : setO i g ρ = (g ρ).bind fun o r => stR (sto r i (.ow false o)) := Eq.trans rfl rfl
@[simp] theorem rtS_ap (g : Ev D) : rtS g ρ = (g ρ).bind fun d r => .ok (.rt d) r := Eq.trans rfl rfl
@[simp] theorem exS_ap {α : Type} (g : Ev α) : exS g ρ = (g ρ).bind fun _ r => .ok .nx r := Eq.trans rfl rfl
@[simp] theorem e1_ap {α : Type} (f : D → Option α) (a : Opd) : e1 f a ρ = (a.run ρ).bind fun x r => ofO ((x.fin r).bind f) r := Eq.trans rfl rfl
@[simp] theorem e2_ap {α : Type} (f : D → D → Option α) (a b : Opd) : e2 f a b ρ = (a.run ρ).bind fun x r => (b.run r).bind fun y r2 => ofO ((x.fin r2).bind fun p => (y.fin r2).bind fun q => f p q) r2 := Eq.trans rfl rfl
@[simp] theorem eT_ap (g : Ev D) : eT g ρ = (g ρ).bind fun d r => match d with | .bool b => .ok b r | _ => .no := Eq.trans rfl rfl
@[simp] theorem eC_ap (d : D) : eC d ρ = .ok d ρ := Eq.trans rfl rfl
@[simp] theorem eNot_ap (g : Ev Bool) : eNot g ρ = (g ρ).bind fun b r => .ok (!b) r := Eq.trans rfl rfl
@[simp] theorem eAnd_ap (g h : Ev Bool) : eAnd g h ρ = (g ρ).bind fun b r => if b = true then h r else .ok false r := Eq.trans rfl rfl
@[simp] theorem eOr_ap (g h : Ev Bool) : eOr g h ρ = (g ρ).bind fun b r => if b = true then .ok true r else h r := Eq.trans rfl rfl
@[simp] theorem eNotV_ap (g : Ev D) : eNotV g ρ = (g ρ).bind fun d r => match d with | .bool b => .ok (.bool (!b)) r | _ => .no := Eq.trans rfl rfl
@[simp] theorem eAndV_ap (g h : Ev D) : eAndV g h ρ = (g ρ).bind fun d r => match d with | .bool b => if b = true then h r else .ok (.bool false) r | _ => .no := Eq.trans rfl rfl
@[simp] theorem eOrV_ap (g h : Ev D) : eOrV g h ρ = (g ρ).bind fun d r => match d with | .bool b => if b = true then .ok (.bool true) r else h r | _ => .no := Eq.trans rfl rfl
@[simp] theorem eFz_ap (g : Ev Ob) : eFz g ρ = (g ρ).bind fun o r => match o with | .ls xs => .ok (.list xs) r | _ => .no := Eq.trans rfl rfl
@[simp] theorem eIf_ap {α : Type} (c : Ev Bool) (g h : Ev α) : eIf c g h ρ = (c ρ).bind fun b r => if b = true then g r else h r := Eq.trans rfl rfl
@[simp] theorem eL_nil : eL [] ρ = .ok [] ρ := Eq.trans rfl rfl
@[simp] theorem eL_cons (g : Ev D) (gs : List (Ev D)) : eL (g :: gs) ρ = (g ρ).bind fun x r => (eL gs r).bind fun xs r2 => .ok (x :: xs) r2 := Eq.trans rfl rfl
@[simp] theorem eTup_ap (gs : List (Ev D)) : eTup gs ρ = (eL gs ρ).bind fun xs r => if xs.length ≤ 16777216 then .ok (.tuple xs) r else .no := Eq.trans rfl rfl
@[simp] theorem eLst_ap (gs : List (Ev D)) : eLst gs ρ = (eL gs ρ).bind fun xs r => if xs.length ≤ 16777216 then .ok (.ls xs) r else .no := Eq.trans rfl rfl
@[simp] theorem eIt_ap (g : Ev D) : eIt g ρ = (g ρ).bind fun d r => ofO (iterD d) r := Eq.trans rfl rfl
@[simp] theorem eEn_ap (g : Ev D) : eEn g ρ = (g ρ).bind fun d r => ofO (enD d) r := Eq.trans rfl rfl
@[simp] theorem forS_ap (gi : Ev (List D)) (t : Tg) (b : Ev Fl) : forS gi t b ρ = (gi ρ).bind fun ds r => loopS t b ds r := Eq.trans rfl rfl
@[simp] theorem asgS_ap (t : Tg) (g : Ev D) : asgS t g ρ = (g ρ).bind fun d r => stR (t.f d r) := Eq.trans rfl rfl
@[simp] theorem lcE_ap (gi : Ev (List D)) (t : Tg) (tt : Ev Bool) (te : Ev D) (vs : List Nat) : lcE gi t tt te vs ρ = (gi ρ).bind fun ds r => (lcLoop t tt te vs ds 0 (wipeR r vs)).bind fun xs r2 => .ok (.ls xs) r2 := Eq.trans rfl rfl
@[simp] theorem callE_ap (F : Rho → Res D) (as : List AE) : callE F as ρ = (argsE as ρ).bind fun avs r => callR F avs r := Eq.trans rfl rfl
@[simp] theorem args_nil_ap : argsE [] ρ = .ok [] ρ := Eq.trans rfl rfl
@[simp] theorem args_cons_ap (a : AE) (as : List AE) : argsE (a :: as) ρ = (argE a ρ).bind fun x r => (argsE as r).bind fun xs r2 => .ok (x :: xs) r2 := Eq.trans rfl rfl
@[simp] theorem argE_g (e : Ev D) : argE (.g e) ρ = (e ρ).bind fun x r => .ok (.d x) r := Eq.trans rfl rfl
@[simp] theorem eM1_ap (f : Str → D → Option D) (g : Ev D) (b : Opd) : eM1 f g b ρ = (g ρ).bind fun d r => match d with | .str z => (b.run r).bind fun y r2 => ofO ((y.fin r2).bind fun e => f z e) r2 | _ => .no := Eq.trans rfl rfl
@[simp] theorem yesT_ap : yesT ρ = .ok true ρ := Eq.trans rfl rfl
end
@[simp] theorem noEr_ok {α : Type} (a : α) (r : Rho) : noEr (.ok a r) = .ok a r := Eq.trans rfl rfl
@[simp] theorem eV_ap (i : Nat) (ρ : Rho) : eV i ρ = match ρ[i]? with | some (.fz d) => .ok d ρ | some (.ow false (.ls xs)) => .ok (.list xs) (ρ.set i (.fz (.list xs))) | _ => .no := Eq.trans rfl rfl
theorem ixN_n (n j : Nat) : ixN n (j : Int) = if j < n then some j else none := by
  unfold ixN
  rw [if_pos (by omega)]
  by_cases h : j < n
  · rw [if_pos h]
    first | rw [if_pos (by omega)] | skip
    simp [-Option.bind_some, -Option.bind_none]
    try omega
  · rw [if_neg h]
    first | rw [if_neg (by omega)] | skip
@[simp] theorem ixN_l0 (n : Nat) : ixN n (0 : Int) = if 0 < n then some 0 else none := ixN_n n 0
@[simp] theorem ixN_l1 (n : Nat) : ixN n (1 : Int) = if 1 < n then some 1 else none := ixN_n n 1
@[simp] theorem ixN_l2 (n : Nat) : ixN n (2 : Int) = if 2 < n then some 2 else none := ixN_n n 2
@[simp] theorem ixN_l3 (n : Nat) : ixN n (3 : Int) = if 3 < n then some 3 else none := ixN_n n 3
@[simp] theorem ixN_l4 (n : Nat) : ixN n (4 : Int) = if 4 < n then some 4 else none := ixN_n n 4
@[simp] theorem ixN_l5 (n : Nat) : ixN n (5 : Int) = if 5 < n then some 5 else none := ixN_n n 5
/-! data -/
@[simp] theorem sh_int (i : Int) : SeqAt.shaped (.int i) = true := by simp [-Option.bind_some, -Option.bind_none, SeqAt.shaped, PyData.canLay0, PyData.depth]
@[simp] theorem sh_bool (i : Bool) : SeqAt.shaped (.bool i) = true := by simp [-Option.bind_some, -Option.bind_none, SeqAt.shaped, PyData.canLay0, PyData.depth]
@[simp] theorem sh_none : SeqAt.shaped .none = true := by simp [-Option.bind_some, -Option.bind_none, SeqAt.shaped, PyData.canLay0, PyData.depth]
@[simp] theorem eq_int (i j : Int) : eqD (.int i) (.int j) = some (.bool (decide (i = j))) := by
  unfold eqD
  rw [if_pos ⟨sh_int _, sh_int _⟩]
  simp [-Option.bind_some, -Option.bind_none, PyData.eqv, Bool.beq_eq_decide_eq]
@[simp] theorem ne_int (i j : Int) : neD (.int i) (.int j) = some (.bool (!decide (i = j))) := by
  unfold neD
  rw [if_pos ⟨sh_int _, sh_int _⟩]
  simp [-Option.bind_some, -Option.bind_none, PyData.eqv, Bool.beq_eq_decide_eq]
@[simp] theorem cmp_int (p : Int → Int → Bool) (i j : Int) : cmpI p (.int i) (.int j) = some (.bool (p i j)) := Eq.trans rfl rfl
@[simp] theorem add_int (i j : Int) : addD (.int i) (.int j) = some (.int (i + j)) := Eq.trans rfl rfl
@[simp] theorem sub_int (i j : Int) : subD (.int i) (.int j) = some (.int (i - j)) := Eq.trans rfl rfl
@[simp] theorem int_int (i : Int) : intD (.int i) = some (.int i) := Eq.trans rfl rfl
@[simp] theorem int_bool (i : Bool) : intD (.bool i) = some (.int (if i then 1 else 0)) := Eq.trans rfl rfl
@[simp] theorem len_list (xs : List D) : lenD (.list xs) = some (.int xs.length) := Eq.trans rfl rfl
@[simp] theorem len_tup (xs : List D) : lenD (.tuple xs) = some (.int xs.length) := Eq.trans rfl rfl
@[simp] theorem max_int (i j : Int) : maxD (.int i) (.int j) = some (.int (if j > i then j else i)) := Eq.trans rfl rfl
@[simp] theorem min_int (i j : Int) : minD (.int i) (.int j) = some (.int (if j < i then j else i)) := Eq.trans rfl rfl
@[simp] theorem atI_n {α : Type} (xs : List α) (j : Nat) : atI xs (j : Int) = xs[j]? := by
  cases h : xs[j]? with
  | some v => exact atI_nat h
  | none =>
    cases e : atI xs (j : Int) with
    | none => rfl
    | some v =>
      obtain ⟨k, h1, h2, h3, h4, h5⟩ := atI_get e
      have := List.getElem?_eq_none_iff.mp h
      omega
@[simp] theorem atI_l0 {α : Type} (xs : List α) : atI xs (0 : Int) = xs[0]? := atI_n xs 0
@[simp] theorem atI_l1 {α : Type} (xs : List α) : atI xs (1 : Int) = xs[1]? := atI_n xs 1
@[simp] theorem atI_l2 {α : Type} (xs : List α) : atI xs (2 : Int) = xs[2]? := atI_n xs 2
@[simp] theorem atI_l3 {α : Type} (xs : List α) : atI xs (3 : Int) = xs[3]? := atI_n xs 3
@[simp] theorem atI_l4 {α : Type} (xs : List α) : atI xs (4 : Int) = xs[4]? := atI_n xs 4
@[simp] theorem atI_l5 {α : Type} (xs : List α) : atI xs (5 : Int) = xs[5]? := atI_n xs 5
@[simp] theorem atI_l6 {α : Type} (xs : List α) : atI xs (6 : Int) = xs[6]? := atI_n xs 6
@[simp] theorem atI_l7 {α : Type} (xs : List α) : atI xs (7 : Int) = xs[7]? := atI_n xs 7
@[simp] theorem atI_l8 {α : Type} (xs : List α) : atI xs (8 : Int) = xs[8]? := atI_n xs 8
@[simp] theorem atI_l9 {α : Type} (xs : List α) : atI xs (9 : Int) = xs[9]? := atI_n xs 9
@[simp] theorem ix_list (xs : List D) (i : Int) : ixD (.list xs) (.int i) = atI xs i := Eq.trans rfl rfl
@[simp] theorem ix_tup (xs : List D) (i : Int) : ixD (.tuple xs) (.int i) = atI xs i := Eq.trans rfl rfl
@[simp] theorem app_ap (xs : List D) (d : D) : appF xs d = if xs.length < 16777216 then some (xs ++ [d]) else none := Eq.trans rfl rfl
@[simp] theorem it_list (xs : List D) : iterD (.list xs) = some xs := Eq.trans rfl rfl
@[simp] theorem it_tup (xs : List D) : iterD (.tuple xs) = some xs := Eq.trans rfl rfl
/-- a callee's view of what it is handed -/
theorem callR_ok {F : Rho → Res D} {avs : List AV} {r as out : Rho} {d : D} (h1 : (slots avs).Nodup) (h2 : mk avs r = some as) (h3 : F as = .ok d out) : callR F avs r = .ok d (put avs out r) := by
  unfold callR
  rw [if_pos h1, h2]
  simp only [h3]
theorem bodyF_rt {n : Nat} {g : Ev Fl} {as ρ0 r out : Rho} {d : D} (h : as ++ List.replicate (n - as.length) .un = ρ0) (e : g ρ0 = .ok (.rt d) r) (ho : outOf as r = out) : bodyF n g as = .ok d out := by
  subst h ho
  unfold bodyF
  rw [e]
theorem bodyF_er {n : Nat} {g : Ev Fl} {as ρ0 r out : Rho} {c : String} (h : as ++ List.replicate (n - as.length) .un = ρ0) (e : g ρ0 = .er c r) (ho : outOf as r = out) : bodyF n g as = .er c out := by
  subst h ho
  unfold bodyF
  rw [e]
/-! calls by what they answer -/
theorem callR_er {F : Rho → Res D} {avs : List AV} {r as out : Rho} {c : String} (h1 : (slots avs).Nodup) (h2 : mk avs r = some as) (h3 : F as = .er c out) : callR F avs r = .er c (put avs out r) := by
  unfold callR
  rw [if_pos h1, h2]
  simp only [h3]
theorem put_d : ∀ (avs : List AV) (out r : Rho), slots avs = [] → put avs out r = r
  | [], _, _, _ => rfl
  | .d _ :: avs, [], r, h => put_d avs [] r h
  | .d _ :: avs, _ :: out, r, h => put_d avs out r h
  | .s _ :: _, _, _, h => by cases h
theorem call2 {F : Rho → Res D} {ga gb : Ev D} {a b d : D} {ρ out : Rho} (ha : ga ρ = .ok a ρ) (hb : gb ρ = .ok b ρ) (hf : F [.fz a, .fz b] = .ok d out) : callE F [.g ga, .g gb] ρ = .ok d ρ := by
  have ea : argsE [.g ga, .g gb] ρ = .ok [.d a, .d b] ρ := by simp only [args_cons_ap, argE_g, ha, hb, Res.bind_ok, args_nil_ap]
  rw [callE_ap, ea, Res.bind_ok, callR_ok (avs := [.d a, .d b]) (as := [.fz a, .fz b]) .nil rfl hf, put_d _ _ _ rfl]
theorem call2e {F : Rho → Res D} {ga gb : Ev D} {a b : D} {c : String} {ρ out : Rho} (ha : ga ρ = .ok a ρ) (hb : gb ρ = .ok b ρ) (hf : F [.fz a, .fz b] = .er c out) : callE F [.g ga, .g gb] ρ = .er c ρ := by
  have ea : argsE [.g ga, .g gb] ρ = .ok [.d a, .d b] ρ := by simp only [args_cons_ap, argE_g, ha, hb, Res.bind_ok, args_nil_ap]
  rw [callE_ap, ea, Res.bind_ok, callR_er (avs := [.d a, .d b]) (as := [.fz a, .fz b]) .nil rfl hf, put_d _ _ _ rfl]
theorem call3 {F : Rho → Res D} {ga gb gc : Ev D} {a b c d : D} {ρ out : Rho} (ha : ga ρ = .ok a ρ) (hb : gb ρ = .ok b ρ) (hc : gc ρ = .ok c ρ) (hf : F [.fz a, .fz b, .fz c] = .ok d out) : callE F [.g ga, .g gb, .g gc] ρ = .ok d ρ := by
  have ea : argsE [.g ga, .g gb, .g gc] ρ = .ok [.d a, .d b, .d c] ρ := by simp only [args_cons_ap, argE_g, ha, hb, hc, Res.bind_ok, args_nil_ap]
  rw [callE_ap, ea, Res.bind_ok, callR_ok (avs := [.d a, .d b, .d c]) (as := [.fz a, .fz b, .fz c]) .nil rfl hf, put_d _ _ _ rfl]
theorem argE_s (i : Nat) (ρ : Rho) {b : Bool} {o : Ob} (h : ρ[i]? = some (.ow b o)) : argE (.s i) ρ = .ok (.s i) ρ := by
  show (match ρ[i]? with | some (.ow _ _) => Res.ok (AV.s i) ρ | _ => .no) = _
  rw [h]
theorem mk_s {i : Nat} {avs : List AV} {ρ as : Rho} {b : Bool} {o : Ob} (h : ρ[i]? = some (.ow b o)) (h2 : mk avs ρ = some as) : mk (.s i :: avs) ρ = some (.ow true o :: as) := by
  show (match ρ[i]? with | some (.ow _ o) => (mk avs ρ).map (Sl.ow true o :: ·) | _ => none) = _
  rw [h, h2]
  rfl
theorem put_s {i : Nat} {avs : List AV} {ρ out : Rho} {b : Bool} {o o' : Ob} (h : ρ[i]? = some (.ow b o)) (hs : slots avs = []) : put (.s i :: avs) (.ow true o' :: out) ρ = ρ.set i (.ow b o') := by
  show put avs out (ρ.set i (back (.ow true o') ρ[i]?)) = _
  rw [put_d _ _ _ hs, h]
  rfl
theorem callS0 {F : Rho → Res D} {i : Nat} {b : Bool} {o o' : Ob} {d : D} {ρ out : Rho} (h : ρ[i]? = some (.ow b o)) (hf : F [.ow true o] = .ok d (.ow true o' :: out)) : callE F [.s i] ρ = .ok d (ρ.set i (.ow b o')) := by
  have ea : argsE [.s i] ρ = .ok [.s i] ρ := by simp only [args_cons_ap, argE_s i ρ h, Res.bind_ok, args_nil_ap]
  rw [callE_ap, ea, Res.bind_ok, callR_ok (as := [.ow true o]) (by simp [-Option.bind_some, -Option.bind_none, slots]) (mk_s h rfl) hf, put_s h rfl]
theorem callS1 {F : Rho → Res D} {i : Nat} {b : Bool} {o o' : Ob} {ga : Ev D} {a d : D} {ρ out : Rho} (h : ρ[i]? = some (.ow b o)) (ha : ga ρ = .ok a ρ) (hf : F [.ow true o, .fz a] = .ok d (.ow true o' :: out)) : callE F [.s i, .g ga] ρ = .ok d (ρ.set i (.ow b o')) := by
  have ea : argsE [.s i, .g ga] ρ = .ok [.s i, .d a] ρ := by simp only [args_cons_ap, argE_s i ρ h, argE_g, ha, Res.bind_ok, args_nil_ap]
  rw [callE_ap, ea, Res.bind_ok, callR_ok (as := [.ow true o, .fz a]) (by simp [-Option.bind_some, -Option.bind_none, slots]) (mk_s h rfl) hf, put_s h rfl]
theorem callS2 {F : Rho → Res D} {i : Nat} {b : Bool} {o o' : Ob} {ga gb : Ev D} {a e d : D} {ρ out : Rho} (h : ρ[i]? = some (.ow b o)) (ha : ga ρ = .ok a ρ) (hb : gb ρ = .ok e ρ) (hf : F [.ow true o, .fz a, .fz e] = .ok d (.ow true o' :: out)) : callE F [.s i, .g ga, .g gb] ρ = .ok d (ρ.set i (.ow b o')) := by
  have ea : argsE [.s i, .g ga, .g gb] ρ = .ok [.s i, .d a, .d e] ρ := by simp only [args_cons_ap, argE_s i ρ h, argE_g, ha, hb, Res.bind_ok, args_nil_ap]
  rw [callE_ap, ea, Res.bind_ok, callR_ok (as := [.ow true o, .fz a, .fz e]) (by simp [-Option.bind_some, -Option.bind_none, slots]) (mk_s h rfl) hf, put_s h rfl]
end DL
end
section
set_option Elab.async false
set_option linter.all false
set_option maxRecDepth 100000
set_option autoImplicit false
namespace DL
open PySem PySem.Spec L2 SX

/-! ### data that can be compared -/
def okN (n : Nat) (d : D) : Prop := d.canLay0 = true ∧ d.depth ≤ n
theorem okN.mono {n m : Nat} {d : D} (h : okN n d) (l : n ≤ m) : okN m d := ⟨h.1, by have := h.2; omega⟩
theorem ok_sh {n : Nat} {d : D} (h : okN n d) (l : n ≤ 64) : SeqAt.shaped d = true := by
  unfold SeqAt.shaped
  rw [h.1, decide_eq_true (show d.depth ≤ 64 by have := h.2; omega)]
  rfl
theorem ok_int (i : Int) : okN 0 (.int i) := ⟨rfl, Nat.le_refl _⟩
theorem ok_bool (i : Bool) : okN 0 (.bool i) := ⟨rfl, Nat.le_refl _⟩
theorem ok_none : okN 0 .none := ⟨rfl, Nat.le_refl _⟩
theorem ok_str {z : Str} (h : ∀ c ∈ z.cps.toList, c < 1114112) : okN 0 (.str z) := by
  refine ⟨?_, Nat.le_refl _⟩
  show z.cps.all _ = true
  rw [Array.all_eq_true_iff_forall_mem]
  intro c hc
  exact decide_eq_true (h c (by simpa using hc))
theorem ok_all {n : Nat} : ∀ {ds : List D}, (∀ d ∈ ds, okN n d) → PyData.canLayAll0 ds = true ∧ PyData.depthAll ds ≤ n
  | [], _ => ⟨rfl, Nat.zero_le _⟩
  | d :: ds, h => by
    obtain ⟨h1, h2⟩ := ok_all (ds := ds) fun x hx => h x (by simp [hx])
    have h0 := h d (by simp)
    constructor
    · show (d.canLay0 && PyData.canLayAll0 ds) = true
      rw [h0.1, h1]; rfl
    · show max d.depth (PyData.depthAll ds) ≤ n
      have := h0.2
      omega
theorem ok_list {n : Nat} {ds : List D} (h : ∀ d ∈ ds, okN n d) : okN (n + 1) (.list ds) := by
  obtain ⟨h1, h2⟩ := ok_all h
  exact ⟨h1, by show PyData.depthAll ds + 1 ≤ n + 1; omega⟩
theorem ok_tup {n : Nat} {ds : List D} (h : ∀ d ∈ ds, okN n d) : okN (n + 1) (.tuple ds) := by
  obtain ⟨h1, h2⟩ := ok_all h
  exact ⟨h1, by show PyData.depthAll ds + 1 ≤ n + 1; omega⟩
theorem all_ok {n : Nat} : ∀ {ds : List D}, PyData.canLayAll0 ds = true → PyData.depthAll ds ≤ n → ∀ d ∈ ds, okN n d
  | [], _, _, d, h => by simp at h
  | x :: ds, h1, h2, d, h => by
    have h1 : (x.canLay0 && PyData.canLayAll0 ds) = true := h1
    have h2 : max x.depth (PyData.depthAll ds) ≤ n := h2
    simp only [Bool.and_eq_true] at h1
    rcases List.mem_cons.mp h with e | e
    · subst e; exact ⟨h1.1, by omega⟩
    · exact all_ok h1.2 (by omega) d e
theorem list_ok {n : Nat} {ds : List D} (h : okN (n + 1) (.list ds)) : ∀ d ∈ ds, okN n d := by
  obtain ⟨h1, h2⟩ := h
  have h2 : PyData.depthAll ds + 1 ≤ n + 1 := h2
  exact all_ok h1 (by omega)
theorem tup_ok {n : Nat} {ds : List D} (h : okN (n + 1) (.tuple ds)) : ∀ d ∈ ds, okN n d := by
  obtain ⟨h1, h2⟩ := h
  have h2 : PyData.depthAll ds + 1 ≤ n + 1 := h2
  exact all_ok h1 (by omega)
/-! ### equality and membership -/
theorem eqD_ok {d e : D} (h1 : okN 64 d) (h2 : okN 64 e) : eqD d e = some (.bool (PyData.eqv d e)) := if_pos ⟨ok_sh h1 (by omega), ok_sh h2 (by omega)⟩
theorem neD_ok {d e : D} (h1 : okN 64 d) (h2 : okN 64 e) : neD d e = some (.bool (!PyData.eqv d e)) := if_pos ⟨ok_sh h1 (by omega), ok_sh h2 (by omega)⟩
theorem inL_ok {d : D} {ds : List D} (h1 : okN 64 d) (h2 : ∀ x ∈ ds, okN 63 x) : inD d (.list ds) = some (.bool (inAny d ds)) := by
  cases d <;> first | (show (if SeqAt.shaped _ = true ∧ SeqAt.shaped (.list ds) = true then some (PyData.bool (inAny _ ds)) else none) = _; exact if_pos ⟨ok_sh h1 (by omega), ok_sh (ok_list h2) (by omega)⟩) | exact absurd h1.1 (by intro z; cases z)
theorem inT_ok {d : D} {ds : List D} (h1 : okN 64 d) (h2 : ∀ x ∈ ds, okN 63 x) : inD d (.tuple ds) = some (.bool (inAny d ds)) := by
  cases d <;> first | (show (if SeqAt.shaped _ = true ∧ SeqAt.shaped (.tuple ds) = true then some (PyData.bool (inAny _ ds)) else none) = _; exact if_pos ⟨ok_sh h1 (by omega), ok_sh (ok_tup h2) (by omega)⟩) | exact absurd h1.1 (by intro z; cases z)
theorem ninL_ok {d : D} {ds : List D} (h1 : okN 64 d) (h2 : ∀ x ∈ ds, okN 63 x) : notInD d (.list ds) = some (.bool (!inAny d ds)) := by
  cases d <;> first | (show (if SeqAt.shaped _ = true ∧ SeqAt.shaped (.list ds) = true then some (PyData.bool (!inAny _ ds)) else none) = _; exact if_pos ⟨ok_sh h1 (by omega), ok_sh (ok_list h2) (by omega)⟩) | exact absurd h1.1 (by intro z; cases z)
theorem ninT_ok {d : D} {ds : List D} (h1 : okN 64 d) (h2 : ∀ x ∈ ds, okN 63 x) : notInD d (.tuple ds) = some (.bool (!inAny d ds)) := by
  cases d <;> first | (show (if SeqAt.shaped _ = true ∧ SeqAt.shaped (.tuple ds) = true then some (PyData.bool (!inAny _ ds)) else none) = _; exact if_pos ⟨ok_sh h1 (by omega), ok_sh (ok_tup h2) (by omega)⟩) | exact absurd h1.1 (by intro z; cases z)
/-- an encoding under which equality is equality -/
def Enc {β : Type} [DecidableEq β] (f : β → D) : Prop := ∀ a b, PyData.eqv (f a) (f b) = decide (a = b)
theorem inAny_map {β : Type} [DecidableEq β] {f : β → D} (h : Enc f) (a : β) (l : List β) : inAny (f a) (l.map f) = decide (a ∈ l) := by
  unfold inAny
  rw [List.any_map]
  induction l with
  | nil => simp
  | cons b l ih =>
    rw [List.any_cons, ih]
    show (PyData.eqv (f b) (f a) || _) = _
    rw [h b a]
    by_cases e : a = b
    · simp [e]
    · have e2 : b ≠ a := fun z => e z.symm
      simp [e, e2]
theorem inAny_mem {β : Type} [DecidableEq β] {f : β → D} (h : Enc f) (a : β) (l : List β) (i : Decidable (a ∈ l)) : inAny (f a) (l.map f) = @decide (a ∈ l) i := by
  rw [inAny_map h a l]
  exact decide_eq_decide.mpr Iff.rfl
theorem enc_int : Enc (fun i : Int => PyData.int i) := fun a b => by simp [PyData.eqv, Bool.beq_eq_decide_eq]
def I (k : Nat) : D := .int (k : Int)
theorem enc_I : Enc I := fun a b => by
  show (((a : Int) == (b : Int)) : Bool) = _
  rw [Bool.beq_eq_decide_eq]
  by_cases h : a = b <;> simp [h] <;> omega
def chr (c : Nat) : D := .str (S [c])
theorem enc_str : Enc (fun z : Str => PyData.str z) := fun a b => by
  show ((a == b) : Bool) = _
  by_cases h : a = b <;> simp [h]
theorem enc_chr : Enc chr := fun a b => by
  show ((S [a] == S [b]) : Bool) = _
  rw [S_beq_eq]
  by_cases h : a = b <;> simp [h]
theorem enc_tup {β : Type} [DecidableEq β] {f : β → D} (h : Enc f) : Enc (fun l : List β => PyData.tuple (l.map f)) := fun a b => by
  show PyData.eqvAll (a.map f) (b.map f) = _
  induction a generalizing b with
  | nil => cases b <;> simp [PyData.eqvAll]
  | cons x a ih =>
    cases b with
    | nil => simp [PyData.eqvAll]
    | cons y b =>
      show (PyData.eqv (f x) (f y) && PyData.eqvAll (a.map f) (b.map f)) = _
      rw [h x y, ih b]
      by_cases e : x = y <;> simp [e]
theorem enc_list {β : Type} [DecidableEq β] {f : β → D} (h : Enc f) : Enc (fun l : List β => PyData.list (l.map f)) := fun a b => by
  show PyData.eqvAll (a.map f) (b.map f) = _
  exact enc_tup h a b
/-- p, q as a pair -/
def pD (p : Nat × Nat) : D := .tuple [I p.1, I p.2]
theorem enc_pD : Enc pD := fun a b => by
  show ((PyData.eqv (I a.1) (I b.1)) && (PyData.eqv (I a.2) (I b.2) && true)) = _
  rw [enc_I, enc_I]
  obtain ⟨a1, a2⟩ := a
  obtain ⟨b1, b2⟩ := b
  by_cases e : a1 = b1 <;> by_cases e2 : a2 = b2 <;> simp [e, e2]
theorem ok_I (k : Nat) : okN 0 (I k) := ok_int _
theorem ok_pD (p : Nat × Nat) : okN 1 (pD p) := ok_tup fun d h => by
  simp only [List.mem_cons, List.not_mem_nil, or_false] at h
  rcases h with e | e <;> (rw [e]; exact ok_I _)
theorem ok_chr {c : Nat} (h : c < 1114112) : okN 0 (chr c) := ok_str fun d hd => by
  simp [S] at hd
  omega
/-! ### the same as itself -/
mutual
theorem eqv_refl : ∀ d : D, d.canLay0 = true → PyData.eqv d d = true
  | .none, _ => rfl
  | .bool a, _ => by simp [PyData.eqv]
  | .int a, _ => by simp [PyData.eqv]
  | .str a, _ => by simp [PyData.eqv]
  | .list xs, h => eqvAll_refl xs h
  | .tuple xs, h => eqvAll_refl xs h
  | .dict _, h => by cases h
theorem eqvAll_refl : ∀ ds : List D, PyData.canLayAll0 ds = true → PyData.eqvAll ds ds = true
  | [], _ => rfl
  | d :: ds, h => by
    have h : (d.canLay0 && PyData.canLayAll0 ds) = true := h
    simp only [Bool.and_eq_true] at h
    show (PyData.eqv d d && PyData.eqvAll ds ds) = true
    rw [eqv_refl d h.1, eqvAll_refl ds h.2]
    rfl
end
/-! ### ranges -/
theorem rgD_n (n : Nat) : rgD 0 (n : Int) = (List.range n).map I := by
  unfold rgD I
  have e : ((n : Int) - 0).toNat = n := by omega
  rw [e]
  refine List.map_congr_left fun i _ => ?_
  rw [Int.zero_add]
theorem rg1_n (n : Nat) (h : n < 4611686018427387904) : rg1D (.int (n : Int)) = some ((List.range n).map I) := by
  have e : (2 ^ 62 : Int) = 4611686018427387904 := by decide
  have c : -(2 ^ 62) ≤ (n : Int) ∧ (n : Int) < 2 ^ 62 := by
    rw [e]
    constructor <;> omega
  have z : rg1D (.int (n : Int)) = if -(2 ^ 62) ≤ (n : Int) ∧ (n : Int) < 2 ^ 62 then some (rgD 0 (n : Int)) else none := rfl
  rw [z, if_pos c, rgD_n]
theorem rg1_I (n : Nat) (h : n < 4611686018427387904) : rg1D (I n) = some ((List.range n).map I) := rg1_n n h
/-! ### pigeons -/
theorem nodup_sub_len {α : Type} [DecidableEq α] : ∀ {l m : List α}, l.Nodup → (∀ x ∈ l, x ∈ m) → l.length ≤ m.length
  | [], _, _, _ => Nat.zero_le _
  | a :: l, m, h, s => by
    obtain ⟨h1, h2⟩ := List.nodup_cons.mp h
    have ha := s a (by simp)
    have := nodup_sub_len (l := l) (m := m.erase a) h2 fun x hx => by
      have ne : x ≠ a := fun e => h1 (e ▸ hx)
      exact (List.mem_erase_of_ne ne).mpr (s x (by simp [hx]))
    rw [List.length_erase_of_mem ha] at this
    have : 0 < m.length := List.length_pos_of_mem ha
    simp only [List.length_cons]
    omega
theorem nodup_idx {α : Type} {l : List α} (h : l.Nodup) {i j : Nat} (hi : i < l.length) (hj : j < l.length) (e : l[i] = l[j]) : i = j := by
  have p := List.pairwise_iff_getElem.mp h
  rcases Nat.lt_trichotomy i j with c | c | c
  · exact absurd e (p i j hi hj c)
  · exact c
  · exact absurd e.symm (p j i hj hi c)
/-! ### signs in texts -/
theorem idx_one (a : List Nat) (c i : Nat) (h : a[i]? = some c) (hd : a.Nodup) : sindexD (S a) (chr c) = some (I i) := by
  unfold sindexD chr
  show ((occs (S a) (S [c])).head?.map fun i => PyData.int (i : Nat)) = _
  rcases StrLaws.occ_head (S a) ⟨#[c]⟩ 1 (Nat.le_refl 1) with ⟨_, hn⟩ | ⟨j, r, h0, hj, _⟩
  · exact absurd ((StrLaws.subAt_one (S a) c i).mpr (by simpa [S] using h)) (hn i)
  · have e : occs (S a) (S [c]) = j :: r := h0
    rw [e]
    have hj := (StrLaws.subAt_one (S a) c j).mp hj
    have hj : a[j]? = some c := by simpa [S] using hj
    have : i = j := by
      obtain ⟨l1, e1⟩ := List.getElem?_eq_some_iff.mp h
      obtain ⟨l2, e2⟩ := List.getElem?_eq_some_iff.mp hj
      exact nodup_idx hd l1 l2 (e1.trans e2.symm)
    subst this
    rfl
theorem inS_one (a : List Nat) (c : Nat) : inD (chr c) (.str (S a)) = some (.bool (decide (c ∈ a))) := by
  show some (PyData.bool (!(Builtin.Str.occurrences (S a) (S [c]) 0 (S a).length 1).isEmpty)) = _
  rw [in_one]
theorem ninS_one (a : List Nat) (c : Nat) : notInD (chr c) (.str (S a)) = some (.bool (!decide (c ∈ a))) := by
  show some (PyData.bool (!(!(Builtin.Str.occurrences (S a) (S [c]) 0 (S a).length 1).isEmpty))) = _
  rw [in_one]
theorem it_str (a : List Nat) : iterD (.str (S a)) = some (a.map chr) := by
  show some (((S a).cps.toList).map fun c => PyData.str ⟨#[c]⟩) = _
  rfl
theorem len_str (a : List Nat) (h : a.length ≤ 16777216) : lenD (.str (S a)) = some (I a.length) := by
  show (if (S a).length ≤ 16777216 then some (PyData.int (S a).length) else none) = _
  rw [if_pos (by rw [S_len]; exact h), S_len]
  rfl
theorem ix_str (a : List Nat) (i c : Nat) (h : a.length ≤ 16777216) (e : a[i]? = some c) : ixD (.str (S a)) (I i) = some (chr c) := by
  show (if (S a).length ≤ 16777216 then (atI (S a).cps.toList (i : Int)).map fun c => PyData.str ⟨#[c]⟩ else none) = _
  rw [if_pos (by rw [S_len]; exact h), atI_n]
  show Option.map _ (a[i]?) = _
  rw [e]
  rfl
theorem add_str (a b : List Nat) (h : a.length + b.length ≤ 16777216) : addD (.str (S a)) (.str (S b)) = some (.str (S (a ++ b))) := by
  show (if (S a).length + (S b).length ≤ 16777216 then some (PyData.str (S a ++ S b)) else none) = _
  rw [if_pos (by rw [S_len, S_len]; exact h), S_cat]
end DL
end
section
set_option linter.all false
set_option maxRecDepth 100000
namespace K66
open PySem DL
def m_TooWide (c : String) : Option Bool := if c = "TooWide" then some true else none
def B_least_reset_1 : Ev Fl :=
  (seqS (setS 8 (e1 tupD (.g (eFz (e1 sortsetO (.g (eFz (lcE (eIt (eV 5)) (tgN 9) yesT (e2 ixD (.g (e2 ixD (.g (e2 ixD (.b 0) (.b 9))) (.g (eC (.int 1))))) (.b 6)) [9]))))))))
    (ifS (eT (dinE true 3 (eV 8)))
    (seqS (dputS 3 (eV 8) (e2 addD (.g (dgetE 3 (eV 5))) (.b 7)))
    (mutS appF 4 (eV 8)))
    nxS))
def B_least_reset_2 : Ev Fl :=
  (seqS (setS 5 (popE 4 (eC (.int 0))))
    (seqS (ifS (eT (e2 eqD (.g (e1 lenD (.b 5))) (.g (eC (.int 1)))))
    (rtS (dgetE 3 (eV 5)))
    nxS)
    (forS (eEn (eV 1)) (tgT [(tgN 6), (tgN 7)]) B_least_reset_1)))
def C_least_reset_2 : Ev Bool :=
  (e1 truD (.b 4))
def g_least_reset : Ev Fl :=
  (seqS (ifS (eT (e2 (cmpI gtI) (.g (e1 lenD (.b 0))) (.g (eC (.int 16)))))
    (erS "TooWide")
    nxS)
    (seqS (setS 2 (e1 trg1 (.g (e1 lenD (.b 0)))))
    (seqS (setO 3 (eDict1 (eV 2) (eC (.str (Str.ofString "")))))
    (seqS (setO 4 (eLst [(eV 2)]))
    (seqS (whileS C_least_reset_2 B_least_reset_2 100000)
    (rtS (eC .none)))))))
def F_least_reset : Rho → Res D := bodyF 10 g_least_reset
def g_pair_behind : Ev Fl :=
  (rtS (e1 tupD (.g (eFz (e1 sortO (.g (eFz (lcE (eIt (eV 2)) (tgN 3) yesT (e2 ixD (.g (e2 ixD (.g (e2 ixD (.b 0) (.b 3))) (.g (eC (.int 1))))) (.b 1)) [3]))))))))
def F_pair_behind : Rho → Res D := bodyF 4 g_pair_behind
def B_never_meeting_1 : Ev Fl :=
  (ifS (eT (e2 notInD (.b 5) (.b 3)))
    (seqS (setO 6 (lcE (e1 rg1D (.g (e1 lenD (.b 1)))) (tgN 9) yesT (callE (F_pair_behind) [.g (eV 0), .g (eV 9), .g (eV 5)]) [9]))
    (ifS (eT (e2 inD (.g (eC (.bool true))) (.g (eFz (lcE (eIt (eV 6)) (tgN 10) yesT (eOrV (e2 eqD (.g (e2 ixD (.b 10) (.g (eC (.int 0))))) (.g (e2 ixD (.b 10) (.g (eC (.int 1)))))) (e2 inD (.b 10) (.b 3))) [10])))))
    (seqS (mutS appF 3 (eV 5))
    (setS 4 (eC (.bool true))))
    nxS))
    nxS)
def B_never_meeting_2 : Ev Fl :=
  (seqS (setS 4 (eC (.bool false)))
    (forS (eIt (eV 2)) (tgN 5) B_never_meeting_1))
def C_never_meeting_2 : Ev Bool :=
  (e1 truD (.b 4))
def g_never_meeting : Ev Fl :=
  (seqS (setO 2 (lc2E (e1 rg1D (.g (e1 lenD (.b 0)))) (tgN 7) (e1 rg1D (.b 7)) (tgN 8) (eTup [(eV 8), (eV 7)]) [7, 8] [8]))
    (seqS (setO 3 (eLst []))
    (seqS (setS 4 (eC (.bool true)))
    (seqS (whileS C_never_meeting_2 B_never_meeting_2 1000)
    (rtS (e1 tupD (.g (eFz (e1 sortO (.g (eFz (lcE (eIt (eV 2)) (tgN 5) (eT (e2 notInD (.b 5) (.b 3))) (eV 5) [5]))))))))))))
def F_never_meeting : Rho → Res D := bodyF 11 g_never_meeting
def g_reset : Ev Fl :=
  (seqS (setS 2 (callE (F_never_meeting) [.g (eV 0), .g (eV 1)]))
    (seqS (ifS (e1 truD (.b 2))
    (rtS (eTup [(eC (.str (Str.ofString "no"))), (eV 2)]))
    nxS)
    (rtS (eTup [(eC (.str (Str.ofString "yes"))), (callE (F_least_reset) [.g (eV 0), .g (eV 1)])]))))
def F_reset : Rho → Res D := bodyF 3 g_reset
def g_is_line : Ev Fl :=
  (rtS (eAndV (e1 (isiD "int") (.b 1)) (eAndV (eNotV (e1 (isiD "bool") (.b 1))) (eCh (cmpI leI) (cmpI ltI) (.g (eC (.int 0))) (.b 1) (.g (e1 lenD (.b 0)))))))
def F_is_line : Rho → Res D := bodyF 2 g_is_line
def B_judge_reset_1 : Ev Fl :=
  (setO 3 (e1 sortsetO (.g (eFz (lcE (eIt (eV 3)) (tgN 6) yesT (e2 ixD (.g (e2 ixD (.g (e2 ixD (.b 0) (.b 6))) (.g (eC (.int 1))))) (.g (eM1 sindexD (eV 1) (.b 4)))) [6])))))
def B_judge_reset_2 : Ev Fl :=
  (seqS (ifS (eOr (eNot (e1 truD (.g (e1 (isiD "tuple") (.b 5))))) (eT (e2 neD (.g (e1 lenD (.b 5))) (.g (eC (.int 2))))))
    (rtS (eC (.bool false)))
    nxS)
    (ifS (eOr (eT (e2 inD (.g (eC (.bool false))) (.g (eFz (lcE (eIt (eV 5)) (tgN 6) yesT (callE (F_is_line) [.g (eV 0), .g (eV 6)]) [6]))))) (eT (e2 (cmpI geI) (.g (e2 ixD (.b 5) (.g (eC (.int 0))))) (.g (e2 ixD (.b 5) (.g (eC (.int 1))))))))
    (rtS (eC (.bool false)))
    nxS))
def B_judge_reset_3 : Ev Fl :=
  (ifS (eT (e2 inD (.g (eC (.bool false))) (.g (eFz (lcE (e1 rg1D (.g (e1 lenD (.b 1)))) (tgN 7) yesT (e2 inD (.g (callE (F_pair_behind) [.g (eV 0), .g (eV 7), .g (eV 5)])) (.g (e2 ixD (.b 2) (.g (eC (.int 1)))))) [7])))))
    (rtS (eC (.bool false)))
    nxS)
def g_judge_reset : Ev Fl :=
  (seqS (ifS (eOr (eNot (e1 truD (.g (e1 (isiD "tuple") (.b 2))))) (eOr (eT (e2 neD (.g (e1 lenD (.b 2))) (.g (eC (.int 2))))) (eT (e2 notInD (.g (e2 ixD (.b 2) (.g (eC (.int 0))))) (.g (eTup [(eC (.str (Str.ofString "yes"))), (eC (.str (Str.ofString "no")))]))))))
    (rtS (eC (.bool false)))
    nxS)
    (seqS (ifS (eT (e2 eqD (.g (e2 ixD (.b 2) (.g (eC (.int 0))))) (.g (eC (.str (Str.ofString "yes"))))))
    (seqS (ifS (eOr (eNot (e1 truD (.g (e1 (isiD "str") (.g (e2 ixD (.b 2) (.g (eC (.int 1))))))))) (eT (e2 inD (.g (eC (.bool false))) (.g (eFz (lcE (eIt (e2 ixD (.b 2) (.g (eC (.int 1))))) (tgN 4) yesT (e2 inD (.b 4) (.b 1)) [4]))))))
    (rtS (eC (.bool false)))
    nxS)
    (seqS (setO 3 (e1 lrg1 (.g (e1 lenD (.b 0)))))
    (seqS (forS (eIt (e2 ixD (.b 2) (.g (eC (.int 1))))) (tgN 4) B_judge_reset_1)
    (rtS (e2 eqD (.g (e1 lenD (.b 3))) (.g (eC (.int 1))))))))
    nxS)
    (seqS (ifS (eOr (eNot (e1 truD (.g (e1 (isiD "tuple") (.g (e2 ixD (.b 2) (.g (eC (.int 1))))))))) (eT (e2 eqD (.g (e1 lenD (.g (e2 ixD (.b 2) (.g (eC (.int 1))))))) (.g (eC (.int 0))))))
    (rtS (eC (.bool false)))
    nxS)
    (seqS (forS (eIt (e2 ixD (.b 2) (.g (eC (.int 1))))) (tgN 5) B_judge_reset_2)
    (seqS (forS (eIt (e2 ixD (.b 2) (.g (eC (.int 1))))) (tgN 5) B_judge_reset_3)
    (rtS (eC (.bool true))))))))
def F_judge_reset : Rho → Res D := bodyF 8 g_judge_reset
def g__law_next : Ev Fl :=
  (seqS (ifS (eAnd (eT (e2 eqD (.g (e2 ixD (.b 0) (.g (eC (.int 2))))) (.g (eC (.int 0))))) (eT (e2 (cmpI ltI) (.g (e2 ixD (.b 0) (.g (eC (.int 1))))) (.g (e1 lenD (.g (e2 ixD (.b 0) (.g (eC (.int 0))))))))))
    (seqS (setS 2 (e2 ixD (.g (e2 ixD (.b 0) (.g (eC (.int 0))))) (.g (e2 ixD (.b 0) (.g (eC (.int 1)))))))
    (seqS (ixAug 0 (eC (.int 1)) (eC (.int 1)))
    (ifS (eT (e2 (cmpI geI) (.b 2) (.g (e2 powD (.g (eC (.int 10))) (.g (eC (.int 18)))))))
    (ixS 0 (eC (.int 2)) (eV 2))
    (ixS 0 (eC (.int 3)) (e2 modD (.g (e1 intD (.g (e2 addD (.g (e2 addD (.g (e2 mulD (.g (e2 ixD (.b 0) (.g (eC (.int 3))))) (.g (eC (.int 48271))))) (.g (e2 modD (.g (e1 intD (.b 2))) (.g (eC (.int 2147483647))))))) (.g (eC (.int 7))))))) (.g (eC (.int 2147483647))))))))
    nxS)
    (seqS (ifS (eT (e2 (cmpI gtI) (.g (e2 ixD (.b 0) (.g (eC (.int 2))))) (.g (eC (.int 0)))))
    (seqS (setS 3 (e2 modD (.g (e1 intD (.g (e2 ixD (.b 0) (.g (eC (.int 2))))))) (.b 1)))
    (seqS (ixS 0 (eC (.int 2)) (e2 fdivD (.g (e2 ixD (.b 0) (.g (eC (.int 2))))) (.b 1)))
    (rtS (eV 3))))
    nxS)
    (seqS (ixS 0 (eC (.int 3)) (e2 modD (.g (e1 intD (.g (e2 addD (.g (e2 mulD (.g (e2 ixD (.b 0) (.g (eC (.int 3))))) (.g (eC (.int 69621))))) (.g (eC (.int 12345))))))) (.g (eC (.int 2147483647)))))
    (rtS (e2 modD (.g (e1 intD (.g (e2 fdivD (.g (e2 ixD (.b 0) (.g (eC (.int 3))))) (.g (eC (.int 7))))))) (.b 1))))))
def F__law_next : Rho → Res D := bodyF 4 g__law_next
def B__law_same_1 (Fs : Rho → Res D) : Ev Fl :=
  (ifS (eNot (e1 truD (.g (callE (Fs) [.g (e2 ixD (.b 0) (.b 2)), .g (e2 ixD (.b 1) (.b 2))]))))
    (rtS (eC (.bool false)))
    nxS)
def g__law_same (Fs : Rho → Res D) : Ev Fl :=
  (seqS (ifS (eT (e2 isND (.b 1) (.g (eC .none))))
    (rtS (e2 isND (.b 0) (.g (eC .none))))
    nxS)
    (seqS (ifS (e1 truD (.g (e1 (isiD "bool") (.b 1))))
    (rtS (eAndV (e1 (isiD "bool") (.b 0)) (e2 eqD (.b 0) (.b 1))))
    nxS)
    (seqS (ifS (e1 truD (.g (e1 (isiD "int") (.b 1))))
    (rtS (eAndV (e1 (isiD "int") (.b 0)) (eAndV (eNotV (e1 (isiD "bool") (.b 0))) (e2 eqD (.b 0) (.b 1)))))
    nxS)
    (seqS (ifS (e1 truD (.g (e1 (isiD "str") (.b 1))))
    (rtS (eAndV (e1 (isiD "str") (.b 0)) (e2 eqD (.b 0) (.b 1))))
    nxS)
    (seqS (ifS (eAnd (e1 truD (.g (e1 (isiD "tuple") (.b 1)))) (eNot (e1 truD (.g (e1 (isiD "tuple") (.b 0))))))
    (rtS (eC (.bool false)))
    nxS)
    (seqS (ifS (eAnd (e1 truD (.g (e1 (isiD "list") (.b 1)))) (eNot (e1 truD (.g (e1 (isiD "list") (.b 0))))))
    (rtS (eC (.bool false)))
    nxS)
    (seqS (ifS (eT (e2 neD (.g (e1 lenD (.b 0))) (.g (e1 lenD (.b 1)))))
    (rtS (eC (.bool false)))
    nxS)
    (seqS (forS (e1 rg1D (.g (e1 lenD (.b 1)))) (tgN 2) (B__law_same_1 Fs))
    (rtS (eC (.bool true)))))))))))
def F__law_same : Nat → Rho → Res D
  | 0 => fun _ => .no
  | k + 1 => bodyF 3 (g__law_same (F__law_same k))
def B__law_signs_1 : Ev Fl :=
  (setS 4 (e2 modD (.g (e2 addD (.b 4) (.g (eC (.int 1))))) (.g (eC (.int 26)))))
def C__law_signs_1 : Ev Bool :=
  (eT (e2 inD (.g (e2 ixD (.b 1) (.b 4))) (.b 2)))
def B__law_signs_3 : Ev Fl :=
  (seqS (setS 4 (callE (F__law_next) [.s 0, .g (eC (.int 26))]))
    (seqS (whileS C__law_signs_1 B__law_signs_1 100)
    (mutS appF 2 (e2 ixD (.b 1) (.b 4)))))
def g__law_signs : Ev Fl :=
  (seqS (setS 1 (eC (.str (Str.ofString "abcdefghijklmnopqrstuvwxyz"))))
    (seqS (setO 2 (eLst []))
    (seqS (forS (e1 rg1D (.g (e2 ixD (.g (eFz (eLst [(eC (.int 2)), (eC (.int 2)), (eC (.int 3)), (eC (.int 2)), (eC (.int 3)), (eC (.int 2)), (eC (.int 3)), (eC (.int 4))]))) (.g (callE (F__law_next) [.s 0, .g (eC (.int 8))]))))) (tgN 3) B__law_signs_3)
    (rtS (eM1 joinD (eC (.str (Str.ofString ""))) (.g (eFz (e1 sortO (.b 2)))))))))
def F__law_signs : Rho → Res D := bodyF 5 g__law_signs
def B__law_machine_1 : Ev Fl :=
  (seqS (setS 9 (callE (F__law_next) [.s 0, .g (eV 2)]))
    (seqS (ifS (eT (e2 eqD (.b 3) (.g (eC (.int 1)))))
    (setS 9 (e2 maxD (.b 6) (.b 9)))
    (ifS (eT (e2 eqD (.b 3) (.g (eC (.int 2)))))
    (setS 9 (e2 modD (.g (e1 intD (.g (e2 addD (.b 6) (.g (e2 ixD (.b 4) (.b 8))))))) (.b 2)))
    (ifS (eT (e2 eqD (.b 3) (.g (eC (.int 3)))))
    (setS 9 (e2 minD (.g (e2 subD (.b 2) (.g (eC (.int 1))))) (.g (e2 addD (.b 6) (.g (e1 intD (.g (e2 (cmpI gtI) (.g (e2 ixD (.b 4) (.b 8))) (.g (eC (.int 0)))))))))))
    (ifS (eT (e2 eqD (.b 3) (.g (eC (.int 4)))))
    (setS 9 (e2 ixD (.g (eFz (eLst [(eV 6), (e2 maxD (.b 6) (.b 9))]))) (.g (callE (F__law_next) [.s 0, .g (eC (.int 2))]))))
    (ifS (eT (e2 eqD (.b 3) (.g (eC (.int 5)))))
    (setS 9 (e2 ixD (.b 4) (.b 8)))
    nxS)))))
    (mutS appF 7 (eV 9))))
def B__law_machine_2 : Ev Fl :=
  (seqS (setO 7 (eLst []))
    (seqS (forS (e1 rg1D (.g (e1 lenD (.b 1)))) (tgN 8) B__law_machine_1)
    (mutS appF 5 (eTup [(e2 eqD (.g (callE (F__law_next) [.s 0, .g (eC (.int 2))])) (.g (eC (.int 1)))), (e1 tupD (.b 7))]))))
def g__law_machine : Ev Fl :=
  (seqS (setS 2 (e2 addD (.g (eC (.int 1))) (.g (callE (F__law_next) [.s 0, .g (e2 ixD (.g (eFz (eLst [(eC (.int 6)), (eC (.int 6)), (eC (.int 6)), (eC (.int 10))]))) (.g (callE (F__law_next) [.s 0, .g (eC (.int 4))])))]))))
    (seqS (setS 3 (callE (F__law_next) [.s 0, .g (eC (.int 7))]))
    (seqS (setO 4 (lcE (eIt (eV 1)) (tgN 10) yesT (callE (F__law_next) [.s 0, .g (eV 2)]) [10]))
    (seqS (setO 5 (eLst []))
    (seqS (forS (e1 rg1D (.b 2)) (tgN 6) B__law_machine_2)
    (rtS (e1 tupD (.b 5))))))))
def F__law_machine : Rho → Res D := bodyF 11 g__law_machine
def B__law_line_1 : Ev Fl :=
  (setS 2 (e2 ixD (.g (e2 ixD (.g (e2 ixD (.b 0) (.b 2))) (.g (eC (.int 1))))) (.g (eM1 sindexD (eV 1) (.b 4)))))
def g__law_line : Ev Fl :=
  (seqS (forS (eIt (eV 3)) (tgN 4) B__law_line_1)
    (rtS (eV 2)))
def F__law_line : Rho → Res D := bodyF 5 g__law_line
def g__law_row : Ev Fl :=
  (rtS (eM1 joinD (eC (.str (Str.ofString ""))) (.g (eFz (lcE (e1 rg1D (.g (callE (F__law_next) [.s 0, .g (e2 addD (.b 2) (.g (eC (.int 1))))]))) (tgN 3) yesT (e2 ixD (.b 1) (.g (callE (F__law_next) [.s 0, .g (e1 lenD (.b 1))]))) [3])))))
def F__law_row : Rho → Res D := bodyF 4 g__law_row
def g__law_behind : Ev Fl :=
  (rtS (e1 tupD (.g (eFz (e1 sortO (.g (eFz (lcE (eIt (eV 2)) (tgN 3) yesT (e2 ixD (.g (e2 ixD (.g (e2 ixD (.b 0) (.b 3))) (.g (eC (.int 1))))) (.b 1)) [3]))))))))
def F__law_behind : Rho → Res D := bodyF 4 g__law_behind
def B__law_meeting_1 : Ev Fl :=
  (setO 2 (e2 catO (.b 2) (.g (eFz (lcE (e1 rg1D (.b 3)) (tgN 9) yesT (eTup [(eV 9), (eV 3)]) [9])))))
def B__law_meeting_2 : Ev Fl :=
  (seqS (setO 8 (lcE (e1 rg1D (.g (e1 lenD (.b 1)))) (tgN 10) yesT (callE (F__law_behind) [.g (eV 0), .g (eV 10), .g (eV 7)]) [10]))
    (ifS (eAnd (eT (e2 notInD (.b 7) (.b 4))) (eT (e2 neD (.g (eFz (lcE (eIt (eV 8)) (tgN 11) (eOr (eT (e2 eqD (.g (e2 ixD (.b 11) (.g (eC (.int 0))))) (.g (e2 ixD (.b 11) (.g (eC (.int 1))))))) (eT (e2 inD (.b 11) (.b 4)))) (eV 11) [11]))) (.g (eFz (eLst []))))))
    (mutS appF 6 (eV 7))
    nxS))
def B__law_meeting_3 : Ev Fl :=
  (seqS (setO 6 (eLst []))
    (seqS (forS (eIt (eV 2)) (tgN 7) B__law_meeting_2)
    (seqS (setO 4 (e2 catO (.b 4) (.b 6)))
    (setS 5 (e2 neD (.b 6) (.g (eFz (eLst []))))))))
def C__law_meeting_3 : Ev Bool :=
  (e1 truD (.b 5))
def g__law_meeting : Ev Fl :=
  (seqS (setO 2 (eLst []))
    (seqS (forS (e1 rg1D (.g (e1 lenD (.b 0)))) (tgN 3) B__law_meeting_1)
    (seqS (setO 4 (eLst []))
    (seqS (setS 5 (eC (.bool true)))
    (seqS (whileS C__law_meeting_3 B__law_meeting_3 1000)
    (rtS (eFz (lcE (eIt (eFz (e1 sortO (.b 2)))) (tgN 7) (eT (e2 notInD (.b 7) (.b 4))) (eV 7) [7]))))))))
def F__law_meeting : Rho → Res D := bodyF 12 g__law_meeting
def B__law_least_reset_1 : Ev Fl :=
  (mutS appF 4 (eTup [(eFz (e1 sortsetO (.g (eFz (lcE (eIt (eV 5)) (tgN 8) yesT (e2 ixD (.g (e2 ixD (.g (e2 ixD (.b 0) (.b 8))) (.g (eC (.int 1))))) (.b 7)) [8]))))), (e2 addD (.b 6) (.g (e2 ixD (.b 1) (.b 7))))]))
def B__law_least_reset_2 : Ev Fl :=
  (seqS (ifS (eT (e2 eqD (.g (e1 lenD (.b 5))) (.g (eC (.int 1)))))
    (rtS (eV 6))
    nxS)
    (ifS (eT (dinE true 3 (e1 tupD (.b 5))))
    (seqS (dputS 3 (e1 tupD (.b 5)) (eC (.bool true)))
    (forS (e1 rg1D (.g (e1 lenD (.b 1)))) (tgN 7) B__law_least_reset_1))
    nxS))
def B__law_least_reset_3 : Ev Fl :=
  (seqS (setO 4 (eLst []))
    (seqS (forS (eIt (eV 2)) (tgT [(tgN 5), (tgN 6)]) B__law_least_reset_2)
    (setS 2 (eV 4))))
def C__law_least_reset_3 : Ev Bool :=
  (eT (e2 neD (.b 2) (.g (eFz (eLst [])))))
def g__law_least_reset : Ev Fl :=
  (seqS (setO 2 (eLst [(eTup [(eFz (e1 lrg1 (.g (e1 lenD (.b 0))))), (eC (.str (Str.ofString "")))])]))
    (seqS (setO 3 newT)
    (seqS (whileS C__law_least_reset_3 B__law_least_reset_3 100000)
    (rtS (eC .none)))))
def F__law_least_reset : Rho → Res D := bodyF 9 g__law_least_reset
def g__law_is_line : Ev Fl :=
  (rtS (eAndV (e1 (isiD "int") (.b 1)) (eAndV (eNotV (e1 (isiD "bool") (.b 1))) (eCh (cmpI leI) (cmpI ltI) (.g (eC (.int 0))) (.b 1) (.g (e1 lenD (.b 0)))))))
def F__law_is_line : Rho → Res D := bodyF 2 g__law_is_line
def B__law_accepts_1 : Ev Fl :=
  (seqS (ifS (eOr (eNot (e1 truD (.g (e1 (isiD "tuple") (.b 4))))) (eOr (eT (e2 neD (.g (e1 lenD (.b 4))) (.g (eC (.int 2))))) (eT (e2 neD (.g (eFz (lcE (eIt (eV 4)) (tgN 6) (eNot (e1 truD (.g (callE (F__law_is_line) [.g (eV 0), .g (eV 6)])))) (eV 6) [6]))) (.g (eFz (eLst [])))))))
    (rtS (eC (.bool false)))
    nxS)
    (ifS (eT (e2 (cmpI geI) (.g (e2 ixD (.b 4) (.g (eC (.int 0))))) (.g (e2 ixD (.b 4) (.g (eC (.int 1)))))))
    (rtS (eC (.bool false)))
    nxS))
def B__law_accepts_2 : Ev Fl :=
  (ifS (eT (e2 neD (.g (eFz (lcE (e1 rg1D (.g (e1 lenD (.b 1)))) (tgN 7) (eT (e2 notInD (.g (callE (F__law_behind) [.g (eV 0), .g (eV 7), .g (eV 4)])) (.b 3))) (eV 7) [7]))) (.g (eFz (eLst [])))))
    (rtS (eC (.bool false)))
    nxS)
def g__law_accepts : Ev Fl :=
  (seqS (ifS (eOr (eNot (e1 truD (.g (e1 (isiD "tuple") (.b 2))))) (eOr (eT (e2 neD (.g (e1 lenD (.b 2))) (.g (eC (.int 2))))) (eT (e2 notInD (.g (e2 ixD (.b 2) (.g (eC (.int 0))))) (.g (eFz (eLst [(eC (.str (Str.ofString "yes"))), (eC (.str (Str.ofString "no")))])))))))
    (rtS (eC (.bool false)))
    nxS)
    (seqS (setS 3 (e2 ixD (.b 2) (.g (eC (.int 1)))))
    (seqS (ifS (eT (e2 eqD (.g (e2 ixD (.b 2) (.g (eC (.int 0))))) (.g (eC (.str (Str.ofString "yes"))))))
    (seqS (ifS (eOr (eNot (e1 truD (.g (e1 (isiD "str") (.b 3))))) (eT (e2 neD (.g (eFz (lcE (eIt (eV 3)) (tgN 5) (eT (e2 notInD (.b 5) (.b 1))) (eV 5) [5]))) (.g (eFz (eLst []))))))
    (rtS (eC (.bool false)))
    nxS)
    (rtS (e2 eqD (.g (e1 lensetD (.g (eFz (lcE (e1 rg1D (.g (e1 lenD (.b 0)))) (tgN 6) yesT (callE (F__law_line) [.g (eV 0), .g (eV 1), .g (eV 6), .g (eV 3)]) [6]))))) (.g (eC (.int 1))))))
    nxS)
    (seqS (ifS (eOr (eNot (e1 truD (.g (e1 (isiD "tuple") (.b 3))))) (eT (e2 eqD (.b 3) (.g (eTup [])))))
    (rtS (eC (.bool false)))
    nxS)
    (seqS (forS (eIt (eV 3)) (tgN 4) B__law_accepts_1)
    (seqS (forS (eIt (eV 3)) (tgN 4) B__law_accepts_2)
    (rtS (eC (.bool true)))))))))
def F__law_accepts : Rho → Res D := bodyF 8 g__law_accepts
def g__law_turned : Ev Fl :=
  (seqS (setS 3 (callE (F__law_next) [.s 0, .g (eC (.int 6))]))
    (seqS (ifS (e1 truD (.g (e1 (isiD "str") (.b 2))))
    (seqS (setS 4 (e2 ixD (.b 1) (.g (callE (F__law_next) [.s 0, .g (e1 lenD (.b 1))]))))
    (rtS (e2 ixD (.g (eFz (eLst [(e2 addD (.b 2) (.b 4)), (eSl slD (.b 2) (some (eC (.int 1))) none), (e2 addD (.b 4) (.b 2)), (eSl slD (.b 2) none (some (e1 negD (.g (eC (.int 1)))))), (e2 addD (.b 2) (.g (eC (.str (Str.ofString "q"))))), (eC (.int 5))]))) (.b 3))))
    nxS)
    (seqS (setS 5 (callE (F__law_next) [.s 0, .g (e1 lenD (.b 2))]))
    (seqS (ifS (eT (e2 eqD (.b 3) (.g (eC (.int 0)))))
    (rtS (e2 addD (.b 2) (.g (eTup [(eTup [(eC (.int 0)), (eC (.int 1))])]))))
    nxS)
    (seqS (ifS (eT (e2 eqD (.b 3) (.g (eC (.int 1)))))
    (rtS (e2 addD (.g (eSl slD (.b 2) none (some (eV 5)))) (.g (eSl slD (.b 2) (some (e2 addD (.b 5) (.g (eC (.int 1))))) none))))
    nxS)
    (seqS (ifS (eT (e2 eqD (.b 3) (.g (eC (.int 2)))))
    (rtS (e1 revD (.b 2)))
    nxS)
    (rtS (e2 addD (.g (e2 addD (.g (eSl slD (.b 2) none (some (eV 5)))) (.g (eTup [(e2 ixD (.g (eFz (eLst [(e1 revD (.g (e2 ixD (.b 2) (.b 5)))), (eTup [(e2 ixD (.g (e2 ixD (.b 2) (.b 5))) (.g (eC (.int 0)))), (e2 ixD (.g (e2 ixD (.b 2) (.b 5))) (.g (eC (.int 0))))]), (eTup [(e2 ixD (.g (e2 ixD (.b 2) (.b 5))) (.g (eC (.int 0)))), (eC (.int 99))])]))) (.g (e2 subD (.b 3) (.g (eC (.int 3))))))])))) (.g (eSl slD (.b 2) (some (e2 addD (.b 5) (.g (eC (.int 1))))) none))))))))))
def F__law_turned : Rho → Res D := bodyF 6 g__law_turned
def B_law_1 : Ev Fl :=
  (mutS appF 8 (eTup [(e2 ixD (.b 6) (.g (eC (.int 0)))), (callE (F__law_turned) [.s 1, .g (eV 3), .g (e2 ixD (.b 6) (.g (eC (.int 1))))])]))
def B_law_2 : Ev Fl :=
  (ifS (eNot (e1 truD (.g (callE (F__law_same 6) [.g (callE (F_judge_reset) [.g (eV 4), .g (eV 3), .g (eV 10)]), .g (callE (F__law_accepts) [.g (eV 4), .g (eV 3), .g (eV 10)])]))))
    (rtS (eC (.bool false)))
    nxS)
def B_law_3 : Ev Fl :=
  (seqS (setS 3 (callE (F__law_signs) [.s 1]))
    (seqS (setS 4 (callE (F__law_machine) [.s 1, .g (eV 3)]))
    (seqS (setS 5 (callE (F__law_meeting) [.g (eV 4), .g (eV 3)]))
    (seqS (setS 6 (eIf (eT (e2 neD (.b 5) (.g (eFz (eLst []))))) (eTup [(eC (.str (Str.ofString "no"))), (e1 tupD (.b 5))]) (eTup [(eC (.str (Str.ofString "yes"))), (callE (F__law_least_reset) [.g (eV 4), .g (eV 3)])])))
    (seqS (setS 7 (callE (F_reset) [.g (eV 4), .g (eV 3)]))
    (seqS (ifS (eOr (eNot (e1 truD (.g (callE (F__law_same 6) [.g (eV 7), .g (eV 6)])))) (eT (e2 notBD (.g (callE (F_judge_reset) [.g (eV 4), .g (eV 3), .g (eV 7)])) (.g (eC (.bool true))))))
    (rtS (eC (.bool false)))
    nxS)
    (seqS (setO 8 (eLst [(eC .none), (eSl slD (.b 6) none (some (eC (.int 1)))), (eFz (e1 lstO (.b 6))), (eTup [(eC (.str (Str.ofString "maybe"))), (e2 ixD (.b 6) (.g (eC (.int 1))))]), (eTup [(eC (.str (Str.ofString "yes"))), (e2 ixD (.b 6) (.g (eC (.int 1))))]), (eTup [(eC (.str (Str.ofString "no"))), (e2 ixD (.b 6) (.g (eC (.int 1))))]), (eTup [(eC (.str (Str.ofString "yes"))), (eC (.str (Str.ofString "")))]), (eTup [(eC (.str (Str.ofString "no"))), (eTup [])]), (eTup [(eC (.str (Str.ofString "no"))), (eTup [(eC (.int 5))])]), (eTup [(eC (.str (Str.ofString "no"))), (eTup [(eTup [(eC (.int 0)), (eC (.int 1)), (eC (.int 2))])])])]))
    (seqS (setO 8 (e2 catO (.b 8) (.g (eFz (eLst [(eTup [(eC (.str (Str.ofString "no"))), (eFz (eLst [(eTup [(eC (.int 0)), (eC (.int 1))])]))]), (eTup [(eC (.str (Str.ofString "no"))), (eTup [(eTup [(eC (.bool true)), (eC (.int 1))])])]), (eTup [(eC (.str (Str.ofString "yes"))), (eC .none)]), (eTup [(eC (.str (Str.ofString "no"))), (eTup [(eFz (eLst [(eC (.int 0)), (eC (.int 1))]))])]), (eTup [(eC (.str (Str.ofString "no"))), (eTup [(eTup [(eFz (eLst [(eC (.int 0))])), (eC (.int 1))])])]), (eTup [(eC (.str (Str.ofString "yes"))), (eC (.str (Str.ofString "q")))]), (eTup [(eC (.str (Str.ofString "yes"))), (eFz (eLst [(eC (.str (Str.ofString "a")))]))]), (eTup [(eC (.str (Str.ofString "no"))), (eTup [(eTup [(e1 negD (.g (eC (.int 1)))), (eC (.int 0))])])])])))))
    (seqS (forS (e1 rg1D (.g (eC (.int 5)))) (tgN 9) B_law_1)
    (seqS (mutS appF 8 (eTup [(eC (.str (Str.ofString "yes"))), (callE (F__law_row) [.s 1, .g (eV 3), .g (eC (.int 6))])]))
    (seqS (mutS appF 8 (eTup [(eC (.str (Str.ofString "no"))), (e1 tupD (.g (eFz (lcE (e1 rg1D (.g (e2 subD (.g (e1 lenD (.b 4))) (.g (eC (.int 1)))))) (tgN 15) yesT (eTup [(eV 15), (e2 addD (.b 15) (.g (eC (.int 1))))]) [15]))))]))
    (forS (eIt (eV 8)) (tgN 10) B_law_2))))))))))))
def g_law (ns : List Int) : Ev Fl :=
  (seqS (setO 1 (eLst [(eC (.list (ns.map PyData.int))), (eC (.int 0)), (eC (.int 0)), (eC (.int 1))]))
    (seqS (forS (e1 rg1D (.g (eC (.int 3)))) (tgN 2) B_law_3)
    (seqS (setS 11 (e2 addD (.g (eC (.int 15))) (.g (callE (F__law_next) [.s 1, .g (eC (.int 4))]))))
    (seqS (setS 12 (e1 tupD (.g (eFz (lcE (e1 rg1D (.b 11)) (tgN 9) yesT (eTup [(e2 eqD (.b 9) (.g (eC (.int 0)))), (eTup [(e2 minD (.g (e2 subD (.b 11) (.g (eC (.int 1))))) (.g (e2 addD (.b 9) (.g (eC (.int 1)))))), (e2 minD (.g (e2 subD (.b 11) (.g (eC (.int 1))))) (.g (e2 addD (.b 9) (.g (eC (.int 1))))))])]) [9])))))
    (seqS (setS 13 (e1 tupD (.g (eFz (lcE (e1 rg1D (.b 11)) (tgN 9) yesT (eTup [(e2 eqD (.b 9) (.g (eC (.int 0)))), (eTup [(e2 modD (.g (e1 intD (.g (e2 addD (.b 9) (.g (eC (.int 1))))))) (.b 11)), (eV 9)])]) [9])))))
    (seqS (ifS (eOr (eT (e2 neD (.g (e2 ixD (.g (callE (F_reset) [.g (eV 13), .g (eC (.str (Str.ofString "ab")))])) (.g (eC (.int 0))))) (.g (eC (.str (Str.ofString "no")))))) (eT (e2 notBD (.g (callE (F_judge_reset) [.g (eV 12), .g (eC (.str (Str.ofString "ab"))), .g (eTup [(eC (.str (Str.ofString "yes"))), (e2 smulD (.g (eC (.str (Str.ofString "a")))) (.g (e2 subD (.b 11) (.g (eC (.int 1))))))])])) (.g (eC (.bool true))))))
    (rtS (eC (.bool false)))
    nxS)
    (tryAsS m_TooWide 14 (rtS (eAndV (e2 eqD (.g (callE (F_reset) [.g (eV 12), .g (eC (.str (Str.ofString "ab")))])) (.g (eTup [(eC (.str (Str.ofString "yes"))), (e2 smulD (.g (eC (.str (Str.ofString "a")))) (.g (e2 subD (.b 11) (.g (eC (.int 1))))))]))) (e2 (cmpI leI) (.b 11) (.g (eC (.int 16))))))
    (rtS (eAndV (e2 (cmpI gtI) (.b 11) (.g (eC (.int 16)))) (eC (.bool true)))))))))))
end K66
end
section
set_option autoImplicit false
set_option maxRecDepth 100000
set_option Elab.async false
set_option linter.all false
namespace K66
open PySem DL
/-! ### the draws -/
structure S4 where
  i : Nat
  z : Int
  y : Int
  hz : 0 ≤ z
def obS (ns : List Int) (s : S4) : Ob := .ls [.list (ns.map .int), .int s.i, .int s.z, .int s.y]
def nextA : Ev Fl := (ifS (eAnd (eT (e2 eqD (.g (e2 ixD (.b 0) (.g (eC (.int 2))))) (.g (eC (.int 0))))) (eT (e2 (cmpI ltI) (.g (e2 ixD (.b 0) (.g (eC (.int 1))))) (.g (e1 lenD (.g (e2 ixD (.b 0) (.g (eC (.int 0))))))))))
    (seqS (setS 2 (e2 ixD (.g (e2 ixD (.b 0) (.g (eC (.int 0))))) (.g (e2 ixD (.b 0) (.g (eC (.int 1)))))))
    (seqS (ixAug 0 (eC (.int 1)) (eC (.int 1)))
    (ifS (eT (e2 (cmpI geI) (.b 2) (.g (e2 powD (.g (eC (.int 10))) (.g (eC (.int 18)))))))
    (ixS 0 (eC (.int 2)) (eV 2))
    (ixS 0 (eC (.int 3)) (e2 modD (.g (e1 intD (.g (e2 addD (.g (e2 addD (.g (e2 mulD (.g (e2 ixD (.b 0) (.g (eC (.int 3))))) (.g (eC (.int 48271))))) (.g (e2 modD (.g (e1 intD (.b 2))) (.g (eC (.int 2147483647))))))) (.g (eC (.int 7))))))) (.g (eC (.int 2147483647))))))))
    nxS)
def nextB : Ev Fl := (seqS (ifS (eT (e2 (cmpI gtI) (.g (e2 ixD (.b 0) (.g (eC (.int 2))))) (.g (eC (.int 0)))))
    (seqS (setS 3 (e2 modD (.g (e1 intD (.g (e2 ixD (.b 0) (.g (eC (.int 2))))))) (.b 1)))
    (seqS (ixS 0 (eC (.int 2)) (e2 fdivD (.g (e2 ixD (.b 0) (.g (eC (.int 2))))) (.b 1)))
    (rtS (eV 3))))
    nxS)
    (seqS (ixS 0 (eC (.int 3)) (e2 modD (.g (e1 intD (.g (e2 addD (.g (e2 mulD (.g (e2 ixD (.b 0) (.g (eC (.int 3))))) (.g (eC (.int 69621))))) (.g (eC (.int 12345))))))) (.g (eC (.int 2147483647)))))
    (rtS (e2 modD (.g (e1 intD (.g (e2 fdivD (.g (e2 ixD (.b 0) (.g (eC (.int 3))))) (.g (eC (.int 7))))))) (.b 1)))))
theorem nextB_run (ns : List Int) (s : S4) (l : Int) (h1 : 1 ≤ l) (h2 : l < 1073741824) (c : Sl) : ∃ v s', 0 ≤ v ∧ v < l ∧ ∃ r, nextB [.ow true (obS ns s), .fz (.int l), c, .un] = .ok (.rt (.int v)) (.ow true (obS ns s') :: .fz (.int l) :: r) := by
  obtain ⟨i, z, y, hz⟩ := s
  have l0 : l ≠ 0 := by omega
  have l1 : l.natAbs < 1073741824 := by omega
  by_cases q : 0 < z
  · refine ⟨z.fmod l, ⟨i, z.fdiv l, y, Int.fdiv_nonneg (by omega) (by omega)⟩, Int.fmod_nonneg_of_pos _ (by omega), Int.fmod_lt_of_pos _ (by omega), [c, .fz (.int (z.fmod l))], ?_⟩
    simp [nextB, obS, ixS, modD, fdivD, q, l0, l1]
  · refine ⟨((((y * 69621 + 12345).fmod 2147483647).fdiv 7).fmod l), ⟨i, z, (y * 69621 + 12345).fmod 2147483647, hz⟩, Int.fmod_nonneg_of_pos _ (by omega), Int.fmod_lt_of_pos _ (by omega), [c, .un], ?_⟩
    simp [nextB, obS, ixS, modD, fdivD, mulD, q, l0, l1]
theorem nextA_run (ns : List Int) (s : S4) (l : Sl) : ∃ s' c, nextA [.ow true (obS ns s), l, .un, .un] = .ok .nx [.ow true (obS ns s'), l, c, .un] := by
  obtain ⟨i, z, y, hz⟩ := s
  by_cases q1 : z = 0
  · subst q1
    by_cases q2 : i < ns.length
    · by_cases q3 : 1000000000000000000 ≤ ns[i]
      · refine ⟨⟨i + 1, ns[i], y, by omega⟩, .fz (.int ns[i]), ?_⟩
        simp [nextA, obS, ixAug, ixS, powD, q2, q3]
      · refine ⟨⟨i + 1, 0, (y * 48271 + ns[i].fmod 2147483647 + 7).fmod 2147483647, by omega⟩, .fz (.int ns[i]), ?_⟩
        simp [nextA, obS, ixAug, ixS, powD, mulD, modD, q2, q3]
    · refine ⟨⟨i, 0, y, hz⟩, .un, ?_⟩
      simp [nextA, obS, q2]
  · refine ⟨⟨i, z, y, hz⟩, .un, ?_⟩
    simp [nextA, obS, q1]
theorem next_run (ns : List Int) (s : S4) (l : Int) (h1 : 1 ≤ l) (h2 : l < 1073741824) : ∃ v s', 0 ≤ v ∧ v < l ∧ F__law_next [.ow true (obS ns s), .fz (.int l)] = .ok (.int v) [.ow true (obS ns s'), .un] := by
  obtain ⟨s1, c, e1⟩ := nextA_run ns s (.fz (.int l))
  obtain ⟨v, s2, v1, v2, r, e2⟩ := nextB_run ns s1 l h1 h2 c
  refine ⟨v, s2, v1, v2, ?_⟩
  show bodyF 4 (seqS nextA nextB) _ = _
  simp [bodyF, e1, e2]
end K66
end
section
set_option autoImplicit false
set_option maxRecDepth 100000
set_option Elab.async false
set_option linter.all false
namespace K66
open PySem DL L2 SX
/-! ### the signs -/
def abc : List Nat := (List.range 26).map fun k => 97 + k
theorem abc_eq : Str.ofString "abcdefghijklmnopqrstuvwxyz" = S abc := by decide +kernel
theorem abc_at {k : Nat} (h : k < 26) : abc[k]? = some (97 + k) := by
  unfold abc
  rw [List.getElem?_map, List.getElem?_range h]
  rfl
theorem abc_len : abc.length = 26 := by decide
def stA (ns : List Int) (s : S4) (cs : List Nat) (x y : Sl) : Rho := [.ow true (obS ns s), .fz (.str (S abc)), .ow false (.ls (cs.map chr)), x, y]
theorem ltr {k : Nat} (h : k < 26) : ixD (.str (S abc)) (.int (k : Int)) = some (chr (97 + k)) := ix_str abc k _ (by rw [abc_len]; omega) (abc_at h)
theorem in_cs {cs : List Nat} (hc : ∀ c ∈ cs, c < 123) {k : Nat} (h : k < 26) : inD (chr (97 + k)) (.list (cs.map chr)) = some (.bool (decide (97 + k ∈ cs))) := by
  rw [inL_ok ((ok_chr (by omega)).mono (by omega)) fun x hx => ?_, inAny_map enc_chr]
  obtain ⟨c, h1, rfl⟩ := List.mem_map.mp hx
  have := hc c h1
  exact (ok_chr (by omega)).mono (by omega)
theorem while_signs (ns : List Int) (s : S4) (cs : List Nat) (x : Sl) (hc : ∀ c ∈ cs, c < 123) : ∀ (n p : Nat), p < 26 → (∃ j, j < n ∧ 97 + (p + j) % 26 ∉ cs) → ∀ fu, n ≤ fu →
    ∃ q, q < 26 ∧ 97 + q ∉ cs ∧ whileS C__law_signs_1 B__law_signs_1 (fu + 1) (stA ns s cs x (.fz (I p))) = .ok .nx (stA ns s cs x (.fz (I q))) := by
  intro n
  induction n with
  | zero => intro p _ h; obtain ⟨j, h, _⟩ := h; omega
  | succ n ih =>
    intro p hp hj fu hf
    have lt := ltr hp
    have ic := in_cs hc hp
    have test : C__law_signs_1 (stA ns s cs x (.fz (I p))) = .ok (decide (97 + p ∈ cs)) (stA ns s cs x (.fz (I p))) := by
      unfold I
      simp [-Option.bind_some, -Option.bind_none, C__law_signs_1, stA, lt, ic]
    unfold whileS
    rw [test]
    by_cases hm : 97 + p ∈ cs
    · have body : B__law_signs_1 (stA ns s cs x (.fz (I p))) = .ok .nx (stA ns s cs x (.fz (I ((p + 1) % 26)))) := by
        unfold I
        simp [-Option.bind_some, -Option.bind_none, B__law_signs_1, stA, modD]
        rw [Int.fmod_eq_emod_of_nonneg _ (by omega)]
      simp only [Res.bind_ok, hm, decide_true, if_true, body]
      obtain ⟨fu', rfl⟩ : ∃ k, fu = k + 1 := ⟨fu - 1, by omega⟩
      refine ih ((p + 1) % 26) (by omega) ?_ fu' (by omega)
      obtain ⟨j, j1, j2⟩ := hj
      cases j with
      | zero =>
        rw [Nat.add_zero, Nat.mod_eq_of_lt hp] at j2
        exact absurd hm j2
      | succ j =>
        refine ⟨j, by omega, ?_⟩
        have e : ((p + 1) % 26 + j) % 26 = (p + (j + 1)) % 26 := by omega
        rw [e]; exact j2
    · refine ⟨p, hp, hm, ?_⟩
      simp [-Option.bind_some, -Option.bind_none, hm]
theorem free_sign (cs : List Nat) (h : cs.length ≤ 3) (p : Nat) : ∃ j, j < 4 ∧ 97 + (p + j) % 26 ∉ cs := by
  refine Classical.byContradiction fun hn => ?_
  have hall : ∀ j, j < 4 → 97 + (p + j) % 26 ∈ cs := fun j hj => Classical.byContradiction fun z => hn ⟨j, hj, z⟩
  have nd : ([97 + (p + 0) % 26, 97 + (p + 1) % 26, 97 + (p + 2) % 26, 97 + (p + 3) % 26] : List Nat).Nodup := by
    simp [-Option.bind_some, -Option.bind_none]
    omega
  have := nodup_sub_len (m := cs) nd fun x hx => by
    simp only [List.mem_cons, List.not_mem_nil, or_false] at hx
    rcases hx with e | e | e | e <;> (rw [e]; exact hall _ (by omega))
  simp [-Option.bind_some, -Option.bind_none] at this
  omega
theorem put_next (ns : List Int) (s s' : S4) (b : Bool) (r : Rho) : DL.put [.s 0, .d (.int 26)] [.ow true (obS ns s'), .un] (.ow b (obS ns s) :: r) = .ow b (obS ns s') :: r := rfl
theorem body_signs (ns : List Int) (s : S4) (cs : List Nat) (x y : Sl) (hx : ∀ b o, x ≠ .ow b o) (hy : y = .un ∨ ∃ d, y = .fz d) (hc : ∀ c ∈ cs, c < 123) (hl : cs.length ≤ 3) :
    ∃ c s' y', c < 123 ∧ c ∉ cs ∧ (∃ d, y' = .fz d) ∧ B__law_signs_3 (stA ns s cs x y) = .ok .nx (stA ns s' (cs ++ [c]) x y') := by
  obtain ⟨v, s', v1, v2, e⟩ := next_run ns s 26 (by omega) (by omega)
  obtain ⟨p, rfl⟩ := Int.eq_ofNat_of_zero_le v1
  have hp : p < 26 := by omega
  obtain ⟨q, q1, q2, ew⟩ := while_signs ns s' cs x hc 4 p hp (free_sign cs hl p) 99 (by omega)
  refine ⟨97 + q, s', .fz (I q), by omega, q2, ⟨_, rfl⟩, ?_⟩
  have first : setS 4 (callE F__law_next [.s 0, .g (eC (.int 26))]) (stA ns s cs x y) = .ok .nx (stA ns s' cs x (.fz (I p))) := by
    rcases hy with rfl | ⟨d, rfl⟩
    all_goals simp [-Option.bind_some, -Option.bind_none, stA, argE, callR, slots, mk, e, put, back, I]
  have last : mutS appF 2 (e2 ixD (.b 1) (.b 4)) (stA ns s' cs x (.fz (I q))) = .ok .nx (stA ns s' (cs ++ [97 + q]) x (.fz (I q))) := by
    have lt := ltr q1
    have hln : cs.length < 16777216 := by omega
    unfold I
    simp [-Option.bind_some, -Option.bind_none, mutS, stA, lt, hln]
  unfold B__law_signs_3
  simp only [seqS_ap, first, Res.bind_ok, ew, last]

theorem loop_signs (ns : List Int) : ∀ (ds : List D) (s : S4) (cs : List Nat) (x y : Sl), (x = .un ∨ ∃ d, x = .fz d) → (y = .un ∨ ∃ d, y = .fz d) → (∀ c ∈ cs, c < 123) → cs.Nodup → cs.length + ds.length ≤ 4 →
    ∃ s' cs' x' y', (∀ c ∈ cs', c < 123) ∧ cs'.Nodup ∧ cs'.length = cs.length + ds.length ∧ loopS (tgN 3) B__law_signs_3 ds (stA ns s cs x y) = .ok .nx (stA ns s' cs' x' y')
  | [], s, cs, x, y, _, _, hc, hn, _ => ⟨s, cs, x, y, hc, hn, rfl, rfl⟩
  | d :: ds, s, cs, x, y, hx, hy, hc, hn, hl => by
    simp only [List.length_cons] at hl
    obtain ⟨c, s1, y1, c1, c2, ⟨d1, hy1⟩, e⟩ := body_signs ns s cs (.fz d) y (fun _ _ z => by cases z) hy hc (by omega)
    obtain ⟨s2, cs2, x2, y2, h1, h2, h3, e2⟩ := loop_signs ns ds s1 (cs ++ [c]) (.fz d) y1 (.inr ⟨_, rfl⟩) (.inr ⟨d1, hy1⟩) (fun z hz => by
      rcases List.mem_append.mp hz with q | q
      · exact hc z q
      · rw [List.mem_singleton.mp q]; exact c1) (by
      rw [List.nodup_append]
      refine ⟨hn, by simp [-Option.bind_some, -Option.bind_none], fun a ha b hb q => ?_⟩
      rw [List.mem_singleton.mp hb] at q
      exact c2 (q ▸ ha)) (by rw [List.length_append]; simp [-Option.bind_some, -Option.bind_none]; omega)
    refine ⟨s2, cs2, x2, y2, h1, h2, by rw [h3, List.length_append]; simp [-Option.bind_some, -Option.bind_none]; omega, ?_⟩
    have t : (tgN 3).f d (stA ns s cs x y) = some (stA ns s cs (.fz d) y) := by
      rcases hx with rfl | ⟨q, rfl⟩ <;> rfl
    unfold loopS
    rw [t]
    simp only [e, Res.bind_ok, e2]
theorem sort_chr (cs : List Nat) : ∃ cs' : List Nat, cs'.Perm cs ∧ sortO (.list (cs.map chr)) = some (.ls (cs'.map chr)) := by
  refine ⟨cs.mergeSort fun a b => PySem.W.dataLe false id (chr a) (chr b), List.mergeSort_perm _ _, ?_⟩
  have e : sortL (cs.map chr) = (cs.mergeSort fun a b => PySem.W.dataLe false id (chr a) (chr b)).map chr := (PySem.W.sort_maps chr fun _ _ _ _ => rfl).symm
  have ok : sortOk (cs.map chr) = true := by
    unfold sortOk
    simp only [Bool.and_eq_true, Bool.or_eq_true, List.all_eq_true, decide_eq_true_eq, List.mem_map]
    refine ⟨⟨?_, ?_⟩, .inr ?_⟩
    · rintro _ ⟨a, _, rfl⟩ _ ⟨b, _, rfl⟩; rfl
    · rintro _ ⟨a, _, rfl⟩; exact Nat.zero_le _
    · rintro _ ⟨a, _, rfl⟩; rfl
  show (if sortOk (cs.map chr) = true then some (Ob.ls (sortL (cs.map chr))) else none) = _
  rw [if_pos ok, e]
theorem strsOf_chr : ∀ cs : List Nat, strsOf (cs.map chr) = some (cs.map fun c => S [c])
  | [] => rfl
  | c :: cs => by
    show (strsOf (cs.map chr)).map (S [c] :: ·) = _
    rw [strsOf_chr cs]
    rfl
theorem joinL_ones (cs : List Nat) : TL.joinL [] (cs.map fun c => [c]) = cs := by
  have e := join_S [] (cs.map fun c => [c])
  have : ∀ l : List Nat, Txt.join (S []) ((l.map fun c => [c]).map S) = S l := fun l => by
    show Builtin.Str.glued (S []) _ = _
    rw [StrLaws.glued_eq_join]
    induction l with
    | nil => rfl
    | cons c l ih =>
      cases l with
      | nil => rfl
      | cons d l =>
        show S [c] ++ S [] ++ Str.join (S []) (((d :: l).map fun c => [c]).map S) = _
        rw [ih, S_cat, S_cat]
        rfl
  rw [this] at e
  exact (S_inj e).symm
theorem join_chr (cs : List Nat) (h : cs.length ≤ 16777216) : joinD (S []) (.list (cs.map chr)) = some (.str (S cs)) := by
  show ((strsOf (cs.map chr)).bind fun ys => if (ys.map (·.length)).sum + ys.length * (S []).length ≤ 16777216 then some (PyData.str (Txt.join (S []) ys)) else none) = _
  rw [strsOf_chr]
  have e1 : ((cs.map fun c => S [c]).map (·.length)).sum + (cs.map fun c => S [c]).length * (S []).length = cs.length := by
    rw [List.map_map]
    have : ∀ l : List Nat, (l.map ((fun x : Str => x.length) ∘ fun c => S [c])).sum = l.length := fun l => by
      induction l with
      | nil => rfl
      | cons c l ih =>
        rw [List.map_cons, List.sum_cons, ih]
        show 1 + _ = _
        simp [-Option.bind_some, -Option.bind_none]; omega
    rw [this]
    show cs.length + _ * 0 = _
    omega
  have e2 : (cs.map fun c => S [c]) = (cs.map fun c => [c]).map S := by rw [List.map_map]; rfl
  show (if ((cs.map fun c => S [c]).map (·.length)).sum + (cs.map fun c => S [c]).length * (S []).length ≤ 16777216 then some (PyData.str (Txt.join (S []) (cs.map fun c => S [c]))) else none) = _
  rw [e1, if_pos h, e2, join_S, joinL_ones]
theorem signs_run (ns : List Int) (s : S4) : ∃ (cs : List Nat) (s' : S4), cs.Nodup ∧ 2 ≤ cs.length ∧ cs.length ≤ 4 ∧ (∀ c ∈ cs, c < 123) ∧ F__law_signs [.ow true (obS ns s)] = .ok (.str (S cs)) [.ow true (obS ns s')] := by
  obtain ⟨v, s1, v1, v2, e⟩ := next_run ns s 8 (by omega) (by omega)
  obtain ⟨p, rfl⟩ := Int.eq_ofNat_of_zero_le v1
  obtain ⟨n, n1, n2, en⟩ : ∃ n : Nat, 2 ≤ n ∧ n ≤ 4 ∧ ([2, 2, 3, 2, 3, 2, 3, 4] : List Nat)[p]? = some n := by
    have : p < 8 := by omega
    match p, this with
    | 0, _ => exact ⟨2, by omega, by omega, rfl⟩
    | 1, _ => exact ⟨2, by omega, by omega, rfl⟩
    | 2, _ => exact ⟨3, by omega, by omega, rfl⟩
    | 3, _ => exact ⟨2, by omega, by omega, rfl⟩
    | 4, _ => exact ⟨3, by omega, by omega, rfl⟩
    | 5, _ => exact ⟨2, by omega, by omega, rfl⟩
    | 6, _ => exact ⟨3, by omega, by omega, rfl⟩
    | 7, _ => exact ⟨4, by omega, by omega, rfl⟩
  obtain ⟨s2, cs, x2, y2, h1, h2, h3, el⟩ := loop_signs ns ((List.range n).map I) s1 [] .un .un (.inl rfl) (.inl rfl) (fun _ h => by simp [-Option.bind_some, -Option.bind_none] at h) .nil (by simp [-Option.bind_some, -Option.bind_none]; omega)
  obtain ⟨cs', pm, es⟩ := sort_chr cs
  simp only [List.length_nil, List.length_map, List.length_range, Nat.zero_add] at h3
  have hl := pm.length_eq
  refine ⟨cs', s2, pm.nodup_iff.mpr h2, by omega, by omega, fun c hc => h1 c (pm.mem_iff.mp hc), ?_⟩
  have ix : ixD (.list [.int 2, .int 2, .int 3, .int 2, .int 3, .int 2, .int 3, .int 4]) (.int (p : Int)) = some (.int (n : Int)) := by
    show atI _ (p : Int) = _
    rw [atI_n]
    have z : ([.int 2, .int 2, .int 3, .int 2, .int 3, .int 2, .int 3, .int 4] : List D) = ([2, 2, 3, 2, 3, 2, 3, 4] : List Nat).map I := rfl
    rw [z, List.getElem?_map, en]
    rfl
  have hd : forS (e1 rg1D (.g (e2 ixD (.g (eFz (eLst [(eC (.int 2)), (eC (.int 2)), (eC (.int 3)), (eC (.int 2)), (eC (.int 3)), (eC (.int 2)), (eC (.int 3)), (eC (.int 4))]))) (.g (callE (F__law_next) [.s 0, .g (eC (.int 8))]))))) (tgN 3) B__law_signs_3 (stA ns s [] .un .un) = .ok .nx (stA ns s2 cs x2 y2) := by
    have r := rg1_n n (by omega)
    have c1 : callE F__law_next [.s 0, .g (eC (.int 8))] (stA ns s [] .un .un) = .ok (.int (p : Int)) (stA ns s1 [] .un .un) := by
      simp [-Option.bind_some, -Option.bind_none, stA, argE, callR, slots, mk, e, put, back]
    have c2 : ∀ ρ : Rho, eFz (eLst [(eC (.int 2)), (eC (.int 2)), (eC (.int 3)), (eC (.int 2)), (eC (.int 3)), (eC (.int 2)), (eC (.int 3)), (eC (.int 4))]) ρ = .ok (.list [.int 2, .int 2, .int 3, .int 2, .int 3, .int 2, .int 3, .int 4]) ρ := fun ρ => by simp [-Option.bind_some, -Option.bind_none]
    rw [forS_ap, e1_ap, opd_g, e2_ap, opd_g, c2]
    simp only [Res.bind_ok, opd_g, c1, fin_d, obind, ix, ofO_some, r]
    exact el
  have ju := join_chr cs' (by omega)
  have em : Str.ofString "" = S [] := rfl
  have st : bodyF 5 g__law_signs [.ow true (obS ns s)] = match (seqS (forS (e1 rg1D (.g (e2 ixD (.g (eFz (eLst [(eC (.int 2)), (eC (.int 2)), (eC (.int 3)), (eC (.int 2)), (eC (.int 3)), (eC (.int 2)), (eC (.int 3)), (eC (.int 4))]))) (.g (callE (F__law_next) [.s 0, .g (eC (.int 8))]))))) (tgN 3) B__law_signs_3)
    (rtS (eM1 joinD (eC (.str (Str.ofString ""))) (.g (eFz (e1 sortO (.b 2))))))) (stA ns s [] .un .un) with
      | .ok (.rt d) r => .ok d (outOf [.ow true (obS ns s)] r)
      | .ok .nx r => .ok .none (outOf [.ow true (obS ns s)] r)
      | .er c r => .er c (outOf [.ow true (obS ns s)] r)
      | _ => .no := by
    unfold bodyF g__law_signs
    rw [abc_eq]
    have u1 : ∀ h : Ev Fl, seqS (setS 1 (eC (.str (S abc)))) (seqS (setO 2 (eLst [])) h) [.ow true (obS ns s), .un, .un, .un, .un] = h (stA ns s [] .un .un) := fun h => by simp [-Option.bind_some, -Option.bind_none, stA]
    show (match seqS (setS 1 (eC (.str (S abc)))) (seqS (setO 2 (eLst [])) _) [.ow true (obS ns s), .un, .un, .un, .un] with
      | .ok (.rt d) r => Res.ok d (outOf [.ow true (obS ns s)] r)
      | .ok .nx r => .ok .none (outOf [.ow true (obS ns s)] r)
      | .er c r => .er c (outOf [.ow true (obS ns s)] r)
      | _ => .no) = _
    rw [u1]
  show bodyF 5 g__law_signs _ = _
  rw [st]
  simp only [seqS_ap, hd, Res.bind_ok]
  simp [-Option.bind_some, -Option.bind_none, stA, es, em, ju]
end K66
end
section
set_option autoImplicit false
set_option maxRecDepth 100000
set_option Elab.async false
set_option linter.all false
namespace K66
open PySem DL L2 SX
/-! ### the machine -/
def stM (ns : List Int) (s : S4) (cs : List Nat) (n kd : Nat) (steps : List Nat) (lines : List D) (line nexts k pick : Sl) : Rho :=
  [.ow true (obS ns s), .fz (.str (S cs)), .fz (.int (n : Int)), .fz (.int (kd : Int)), .ow false (.ls (steps.map I)), .ow false (.ls lines), line, nexts, k, pick, .un]
theorem ix_I (l : List Nat) (k : Nat) (h : k < l.length) : ixD (.list (l.map I)) (.int (k : Int)) = some (.int ((l[k] : Nat) : Int)) := by
  show atI _ (k : Int) = _
  rw [atI_n, List.getElem?_map, List.getElem?_eq_getElem h]
  exact Eq.trans rfl rfl
theorem pick_run (ns : List Int) (s : S4) (cs : List Nat) (n kd : Nat) (steps : List Nat) (lines : List D) (line : Nat) (nexts : List D) (k : Nat) (pick : Sl) (hn : 1 ≤ n) (hn2 : n ≤ 10) (hk : kd < 7) (hs : ∀ x ∈ steps, x < n) (hl : line < n) (hks : k < steps.length) (hx : nexts.length < 100) (hp : pick = .un ∨ ∃ d, pick = .fz d) :
    ∃ (p : Nat) (s' : S4), p < n ∧ B__law_machine_1 (stM ns s cs n kd steps lines (.fz (.int (line : Int))) (.ow false (.ls nexts)) (.fz (.int (k : Int))) pick) = .ok .nx (stM ns s' cs n kd steps lines (.fz (.int (line : Int))) (.ow false (.ls (nexts ++ [I p]))) (.fz (.int (k : Int))) (.fz (I p))) := by
  obtain ⟨v, s1, v1, v2, e⟩ := next_run ns s (n : Int) (by omega) (by omega)
  obtain ⟨p, rfl⟩ := Int.eq_ofNat_of_zero_le v1
  have hpn : p < n := by omega
  obtain ⟨v', s2, w1, w2, e'⟩ := next_run ns s1 2 (by omega) (by omega)
  have hst : steps[k] < n := hs _ (List.getElem_mem hks)
  have ixs := ix_I steps k hks
  have first : setS 9 (callE F__law_next [.s 0, .g (eV 2)]) (stM ns s cs n kd steps lines (.fz (.int (line : Int))) (.ow false (.ls nexts)) (.fz (.int (k : Int))) pick) = .ok .nx (stM ns s1 cs n kd steps lines (.fz (.int (line : Int))) (.ow false (.ls nexts)) (.fz (.int (k : Int))) (.fz (.int (p : Int)))) := by
    rcases hp with rfl | ⟨d, rfl⟩ <;> simp [-Option.bind_some, -Option.bind_none, stM, argE, callR, slots, mk, e, put, back]
  have last : ∀ (s : S4) (q : Nat), mutS appF 7 (eV 9) (stM ns s cs n kd steps lines (.fz (.int (line : Int))) (.ow false (.ls nexts)) (.fz (.int (k : Int))) (.fz (.int (q : Int)))) = .ok .nx (stM ns s cs n kd steps lines (.fz (.int (line : Int))) (.ow false (.ls (nexts ++ [I q]))) (.fz (.int (k : Int))) (.fz (I q))) := by
    intro s q
    have : nexts.length < 16777216 := by omega
    unfold I
    simp [-Option.bind_some, -Option.bind_none, stM, mutS, this]
  unfold B__law_machine_1
  simp only [seqS_ap, first, Res.bind_ok]
  match kd, hk with
  | 0, _ => exact ⟨p, s1, hpn, by rw [← last s1 p]; simp [-Option.bind_some, -Option.bind_none, stM]⟩
  | 6, _ => exact ⟨p, s1, hpn, by rw [← last s1 p]; simp [-Option.bind_some, -Option.bind_none, stM]⟩
  | 1, _ =>
    refine ⟨if line < p then p else line, s1, by split <;> omega, ?_⟩
    rw [← last s1 _]
    simp [-Option.bind_some, -Option.bind_none, stM]
    split <;> simp [-Option.bind_some, -Option.bind_none]
  | 2, _ =>
    refine ⟨(line + steps[k]) % n, s1, Nat.mod_lt _ (by omega), ?_⟩
    rw [← last s1 _]
    have : ¬ n = 0 := by omega
    simp [-Option.bind_some, -Option.bind_none, stM, ixs, modD, this]
    rw [Int.fmod_eq_emod_of_nonneg _ (by omega)]
  | 3, _ =>
    by_cases c1 : 0 < steps[k]
    · by_cases c2 : line + 1 < n - 1
      · refine ⟨line + 1, s1, by omega, ?_⟩
        have c3 : (line : Int) + 1 < (n : Int) - 1 := by omega
        rw [← last s1 _]
        simp [-Option.bind_some, -Option.bind_none, stM, ixs, c1, c3]
      · refine ⟨n - 1, s1, by omega, ?_⟩
        have c3 : ¬ (line : Int) + 1 < (n : Int) - 1 := by omega
        have c4 : ((n - 1 : Nat) : Int) = (n : Int) - 1 := by omega
        rw [← last s1 _]
        simp [-Option.bind_some, -Option.bind_none, stM, ixs, c1, c3, c4]
    · have c0 : steps[k] = 0 := by omega
      by_cases c2 : line < n - 1
      · refine ⟨line, s1, by omega, ?_⟩
        have c3 : (line : Int) < (n : Int) - 1 := by omega
        rw [← last s1 _]
        simp [-Option.bind_some, -Option.bind_none, stM, ixs, c0, c3]
      · refine ⟨n - 1, s1, by omega, ?_⟩
        have c3 : ¬ (line : Int) < (n : Int) - 1 := by omega
        have c4 : ((n - 1 : Nat) : Int) = (n : Int) - 1 := by omega
        rw [← last s1 _]
        simp [-Option.bind_some, -Option.bind_none, stM, ixs, c0, c3, c4]
  | 4, _ =>
    have : v' = 0 ∨ v' = 1 := by omega
    rcases this with rfl | rfl
    · refine ⟨line, s2, hl, ?_⟩
      rw [← last s2 _]
      simp [-Option.bind_some, -Option.bind_none, stM, argE, callR, slots, mk, e', put, back]
    · refine ⟨if line < p then p else line, s2, by split <;> omega, ?_⟩
      rw [← last s2 _]
      simp [-Option.bind_some, -Option.bind_none, stM, argE, callR, slots, mk, e', put, back]
      split <;> simp [-Option.bind_some, -Option.bind_none]
  | 5, _ =>
    refine ⟨steps[k], s1, hst, ?_⟩
    rw [← last s1 _]
    simp [-Option.bind_some, -Option.bind_none, stM, ixs]

/-- what is not ours to keep -/
def Loose (x : Sl) : Prop := x = .un ∨ (∃ d, x = .fz d) ∨ ∃ o, x = .ow false o
theorem sto_loose {r : Rho} {i : Nat} {x y : Sl} (h : r[i]? = some x) (hx : Loose x) : sto r i y = some (r.set i y) := by
  unfold sto
  rw [h]
  rcases hx with rfl | ⟨d, rfl⟩ | ⟨o, rfl⟩ <;> rfl
theorem picks_run (ns : List Int) (cs : List Nat) (n kd : Nat) (steps : List Nat) (lines : List D) (line : Nat) (hn : 1 ≤ n) (hn2 : n ≤ 10) (hk : kd < 7) (hs : ∀ x ∈ steps, x < n) (hl : line < n) :
    ∀ (m i : Nat) (s : S4) (row : List Nat) (k pick : Sl), i + m ≤ steps.length → row.length = i → i + m ≤ 10 → (k = .un ∨ ∃ d, k = .fz d) → (pick = .un ∨ ∃ d, pick = .fz d) → (∀ x ∈ row, x < n) →
    ∃ (row' : List Nat) (s' : S4) (k' pick' : Sl), row'.length = i + m ∧ (∀ x ∈ row', x < n) ∧ (k' = .un ∨ ∃ d, k' = .fz d) ∧ (pick' = .un ∨ ∃ d, pick' = .fz d) ∧
      loopS (tgN 8) B__law_machine_1 ((List.range' i m).map I) (stM ns s cs n kd steps lines (.fz (.int (line : Int))) (.ow false (.ls (row.map I))) k pick) = .ok .nx (stM ns s' cs n kd steps lines (.fz (.int (line : Int))) (.ow false (.ls (row'.map I))) k' pick') := by
  intro m
  induction m with
  | zero => intro i s row k pick h1 h2 h3 h4 h5 h6; exact ⟨row, s, k, pick, h2, h6, h4, h5, by exact Eq.trans rfl rfl⟩
  | succ m ih =>
    intro i s row k pick h1 h2 h3 h4 h5 h6
    obtain ⟨p, s1, p1, e⟩ := pick_run ns s cs n kd steps lines line (row.map I) i pick hn hn2 hk hs hl (by omega) (by simp [-Option.bind_some, -Option.bind_none]; omega) h5
    obtain ⟨row', s2, k2, pk2, r1, r2, r3, r4, e2⟩ := ih (i + 1) s1 (row ++ [p]) (.fz (I i)) (.fz (I p)) (by omega) (by simp [-Option.bind_some, -Option.bind_none]; omega) (by omega) (.inr ⟨_, rfl⟩) (.inr ⟨_, rfl⟩) (fun x hx => by
      rcases List.mem_append.mp hx with q | q
      · exact h6 x q
      · rw [List.mem_singleton.mp q]; exact p1)
    refine ⟨row', s2, k2, pk2, by omega, r2, r3, r4, ?_⟩
    have t : (tgN 8).f (I i) (stM ns s cs n kd steps lines (.fz (.int (line : Int))) (.ow false (.ls (row.map I))) k pick) = some (stM ns s cs n kd steps lines (.fz (.int (line : Int))) (.ow false (.ls (row.map I))) (.fz (.int (i : Int))) pick) := by
      rcases h4 with rfl | ⟨q, rfl⟩ <;> exact Eq.trans rfl rfl
    rw [List.range'_succ, List.map_cons]
    unfold loopS
    rw [t]
    simp only [e, Res.bind_ok]
    have em : row.map I ++ [I p] = (row ++ [p]).map I := by simp [-Option.bind_some, -Option.bind_none]
    rw [em]
    exact e2
def rowD (r : Bool × List Nat) : D := .tuple [.bool r.1, .tuple (r.2.map I)]
def mD (M : List (Bool × List Nat)) : D := .tuple (M.map rowD)
/-- a machine of n lines, c signs -/
def Ok (M : List (Bool × List Nat)) (c : Nat) : Prop := 0 < M.length ∧ ∀ r ∈ M, r.2.length = c ∧ ∀ x ∈ r.2, x < M.length
theorem line_run (ns : List Int) (s : S4) (cs : List Nat) (n kd : Nat) (steps : List Nat) (lines : List D) (line : Nat) (nexts k pick : Sl) (hn : 1 ≤ n) (hn2 : n ≤ 10) (hk : kd < 7) (hs : ∀ x ∈ steps, x < n) (hl : line < n) (hc : steps.length = cs.length) (hc2 : cs.length ≤ 4) (hln : lines.length < 100)
    (h0 : Loose nexts) (h4 : k = .un ∨ ∃ d, k = .fz d) (h5 : pick = .un ∨ ∃ d, pick = .fz d) :
    ∃ (r : Bool × List Nat) (s' : S4) (nexts' k' pick' : Sl), r.2.length = cs.length ∧ (∀ x ∈ r.2, x < n) ∧ Loose nexts' ∧ (k' = .un ∨ ∃ d, k' = .fz d) ∧ (pick' = .un ∨ ∃ d, pick' = .fz d) ∧
      B__law_machine_2 (stM ns s cs n kd steps lines (.fz (.int (line : Int))) nexts k pick) = .ok .nx (stM ns s' cs n kd steps (lines ++ [rowD r]) (.fz (.int (line : Int))) nexts' k' pick') := by
  obtain ⟨row, s1, k1, p1, r1, r2, r3, r4, e⟩ := picks_run ns cs n kd steps lines line hn hn2 hk hs hl cs.length 0 s [] k pick (by omega) rfl (by omega) h4 h5 (fun _ h => by simp [-Option.bind_some, -Option.bind_none] at h)
  obtain ⟨v, s2, v1, v2, e2⟩ := next_run ns s1 2 (by omega) (by omega)
  refine ⟨(decide (v = 1), row), s2, .ow false (.ls (row.map I)), k1, p1, by simpa [-Option.bind_some, -Option.bind_none] using r1, r2, .inr (.inr ⟨_, rfl⟩), r3, r4, ?_⟩
  have st1 : setO 7 (eLst []) (stM ns s cs n kd steps lines (.fz (.int (line : Int))) nexts k pick) = .ok .nx (stM ns s cs n kd steps lines (.fz (.int (line : Int))) (.ow false (.ls [])) k pick) := by
    rw [setO_ap, eLst_ap, eL_nil]
    simp only [Res.bind_ok, List.length_nil, Nat.zero_le, if_true]
    rw [sto_loose (x := nexts) rfl h0]
    exact Eq.trans rfl rfl
  have rg := rg1_n cs.length (by omega)
  have ls := len_str cs (by omega)
  have st2 : forS (e1 rg1D (.g (e1 lenD (.b 1)))) (tgN 8) B__law_machine_1 (stM ns s cs n kd steps lines (.fz (.int (line : Int))) (.ow false (.ls [])) k pick) = .ok .nx (stM ns s1 cs n kd steps lines (.fz (.int (line : Int))) (.ow false (.ls (row.map I))) k1 p1) := by
    have g1 : e1 rg1D (.g (e1 lenD (.b 1))) (stM ns s cs n kd steps lines (.fz (.int (line : Int))) (.ow false (.ls [])) k pick) = .ok ((List.range' 0 cs.length).map I) (stM ns s cs n kd steps lines (.fz (.int (line : Int))) (.ow false (.ls [])) k pick) := by
      unfold I at ls
      simp [-Option.bind_some, -Option.bind_none, stM, ls, rg, ← List.range_eq_range']
    rw [forS_ap, g1, Res.bind_ok]
    exact e
  unfold B__law_machine_2
  simp only [seqS_ap, st1, Res.bind_ok, st2]
  have hln' : lines.length < 16777216 := by omega
  simp [-Option.bind_some, -Option.bind_none, stM, mutS, argE, callR, slots, mk, e2, put, back, hln', rowD]
end K66
end
section
set_option autoImplicit false
set_option maxRecDepth 100000
set_option Elab.async false
set_option linter.all false
namespace K66
open PySem DL L2 SX
def stI (ns : List Int) (s : S4) (cs : List Nat) (n kd : Nat) : Rho := [.ow true (obS ns s), .fz (.str (S cs)), .fz (.int (n : Int)), .fz (.int (kd : Int)), .un, .un, .un, .un, .un, .un, .un]
theorem steps_run (ns : List Int) (cs : List Nat) (n kd : Nat) (hn : 1 ≤ n) (hn2 : n ≤ 10) : ∀ (l : List Nat) (s : S4) (m : Nat), m + l.length ≤ 100 →
    ∃ (steps : List Nat) (s' : S4), steps.length = l.length ∧ (∀ x ∈ steps, x < n) ∧ lcLoop (tgN 10) yesT (callE F__law_next [.s 0, .g (eV 2)]) [10] (l.map chr) m (stI ns s cs n kd) = .ok (steps.map I) (stI ns s' cs n kd)
  | [], s, m, _ => ⟨[], s, rfl, fun _ h => by simp [-Option.bind_some, -Option.bind_none] at h, Eq.trans rfl rfl⟩
  | c :: l, s, m, hm => by
    simp only [List.length_cons] at hm
    obtain ⟨v, s1, v1, v2, e⟩ := next_run ns s (n : Int) (by omega) (by omega)
    obtain ⟨p, rfl⟩ := Int.eq_ofNat_of_zero_le v1
    obtain ⟨steps, s2, h1, h2, h3⟩ := steps_run ns cs n kd hn hn2 l s1 (m + 1) (by omega)
    refine ⟨p :: steps, s2, by simp [-Option.bind_some, -Option.bind_none, h1], fun x hx => ?_, ?_⟩
    · rcases List.mem_cons.mp hx with q | q
      · rw [q]; omega
      · exact h2 x q
    · have t : (tgN 10).f (chr c) (stI ns s cs n kd) = some [.ow true (obS ns s), .fz (.str (S cs)), .fz (.int (n : Int)), .fz (.int (kd : Int)), .un, .un, .un, .un, .un, .un, .fz (chr c)] := Eq.trans rfl rfl
      have hm' : m < 16777216 := by omega
      have te : callE F__law_next [.s 0, .g (eV 2)] [.ow true (obS ns s), .fz (.str (S cs)), .fz (.int (n : Int)), .fz (.int (kd : Int)), .un, .un, .un, .un, .un, .un, .fz (chr c)] = .ok (.int (p : Int)) [.ow true (obS ns s1), .fz (.str (S cs)), .fz (.int (n : Int)), .fz (.int (kd : Int)), .un, .un, .un, .un, .un, .un, .fz (chr c)] := by
        simp [-Option.bind_some, -Option.bind_none, argE, callR, slots, mk, e, put, back]
      have wp : wipeR [.ow true (obS ns s1), .fz (.str (S cs)), .fz (.int (n : Int)), .fz (.int (kd : Int)), .un, .un, .un, .un, .un, .un, .fz (chr c)] [10] = stI ns s1 cs n kd := Eq.trans rfl rfl
      rw [List.map_cons]
      unfold lcLoop
      rw [t]
      simp only [yesT_ap, noEr_ok, Res.bind_ok, if_true, te, hm', wp, h3]
      exact Eq.trans rfl rfl
theorem lines_run (ns : List Int) (cs : List Nat) (n kd : Nat) (steps : List Nat) (hn : 1 ≤ n) (hn2 : n ≤ 10) (hk : kd < 7) (hs : ∀ x ∈ steps, x < n) (hc : steps.length = cs.length) (hc2 : cs.length ≤ 4) :
    ∀ (m i : Nat) (s : S4) (M : List (Bool × List Nat)) (line nexts k pick : Sl), i + m ≤ n → M.length = i → (∀ r ∈ M, r.2.length = cs.length ∧ ∀ x ∈ r.2, x < n) → (line = .un ∨ ∃ d, line = .fz d) → Loose nexts → (k = .un ∨ ∃ d, k = .fz d) → (pick = .un ∨ ∃ d, pick = .fz d) →
    ∃ (M' : List (Bool × List Nat)) (s' : S4) (line' nexts' k' pick' : Sl), M'.length = i + m ∧ (∀ r ∈ M', r.2.length = cs.length ∧ ∀ x ∈ r.2, x < n) ∧
      loopS (tgN 6) B__law_machine_2 ((List.range' i m).map I) (stM ns s cs n kd steps (M.map rowD) line nexts k pick) = .ok .nx (stM ns s' cs n kd steps (M'.map rowD) line' nexts' k' pick') := by
  intro m
  induction m with
  | zero => intro i s M line nexts k pick h1 h2 h3 h4 h5 h6 h7; exact ⟨M, s, line, nexts, k, pick, h2, h3, Eq.trans rfl rfl⟩
  | succ m ih =>
    intro i s M line nexts k pick h1 h2 h3 h4 h5 h6 h7
    obtain ⟨r, s1, nx1, k1, pk1, r1, r2, r3, r4, r5, e⟩ := line_run ns s cs n kd steps (M.map rowD) i nexts k pick hn hn2 hk hs (by omega) hc hc2 (by simp [-Option.bind_some, -Option.bind_none]; omega) h5 h6 h7
    obtain ⟨M', s2, l2, nx2, k2, pk2, q1, q2, e2⟩ := ih (i + 1) s1 (M ++ [r]) (.fz (I i)) nx1 k1 pk1 (by omega) (by simp [-Option.bind_some, -Option.bind_none]; omega) (fun x hx => by
      rcases List.mem_append.mp hx with q | q
      · exact h3 x q
      · rw [List.mem_singleton.mp q]; exact ⟨r1, r2⟩) (.inr ⟨_, rfl⟩) r3 r4 r5
    refine ⟨M', s2, l2, nx2, k2, pk2, by omega, q2, ?_⟩
    have t : (tgN 6).f (I i) (stM ns s cs n kd steps (M.map rowD) line nexts k pick) = some (stM ns s cs n kd steps (M.map rowD) (.fz (.int (i : Int))) nexts k pick) := by
      rcases h4 with rfl | ⟨q, rfl⟩ <;> exact Eq.trans rfl rfl
    rw [List.range'_succ, List.map_cons]
    unfold loopS
    rw [t]
    simp only [e, Res.bind_ok]
    have em : M.map rowD ++ [rowD r] = (M ++ [r]).map rowD := by simp [-Option.bind_some, -Option.bind_none]
    rw [em]
    exact e2
theorem machine_run (ns : List Int) (s : S4) (cs : List Nat) (hc : cs.length ≤ 4) : ∃ (M : List (Bool × List Nat)) (s' : S4), Ok M cs.length ∧ M.length ≤ 10 ∧ F__law_machine [.ow true (obS ns s), .fz (.str (S cs))] = .ok (mD M) [.ow true (obS ns s'), .un] := by
  obtain ⟨v, s1, v1, v2, n1⟩ := next_run ns s 4 (by omega) (by omega)
  obtain ⟨l, l1, l2, n2⟩ : ∃ l : Int, 1 ≤ l ∧ l ≤ 10 ∧ ixD (.list [.int 6, .int 6, .int 6, .int 10]) (.int v) = some (.int l) := by
    obtain ⟨p, rfl⟩ := Int.eq_ofNat_of_zero_le v1
    have : p < 4 := by omega
    match p, this with
    | 0, _ => exact ⟨6, by omega, by omega, rfl⟩
    | 1, _ => exact ⟨6, by omega, by omega, rfl⟩
    | 2, _ => exact ⟨6, by omega, by omega, rfl⟩
    | 3, _ => exact ⟨10, by omega, by omega, rfl⟩
  obtain ⟨w, s2, w1, w2, n3⟩ := next_run ns s1 l l1 (by omega)
  obtain ⟨n, en⟩ := Int.eq_ofNat_of_zero_le (show 0 ≤ 1 + w by omega)
  obtain ⟨kv, s3, k1, k2, n4⟩ := next_run ns s2 7 (by omega) (by omega)
  obtain ⟨kd, rfl⟩ := Int.eq_ofNat_of_zero_le k1
  obtain ⟨steps, s4, p1, p2, n5⟩ := steps_run ns cs n kd (by omega) (by omega) cs s3 0 (by omega)
  obtain ⟨M, s5, l5, nx5, k5, pk5, m1, m2, n6⟩ := lines_run ns cs n kd steps (by omega) (by omega) (by omega) p2 p1 hc n 0 s4 [] .un .un .un .un (by omega) rfl (fun _ h => by simp [-Option.bind_some, -Option.bind_none] at h) (.inl rfl) (.inl rfl) (.inl rfl) (.inl rfl)
  have m1 : M.length = n := by omega
  refine ⟨M, s5, ⟨by omega, fun r hr => ⟨(m2 r hr).1, by rw [m1]; exact (m2 r hr).2⟩⟩, by omega, ?_⟩
  have rg := rg1_n n (by omega)
  have it := it_str cs
  have a1 : g__law_machine ([.ow true (obS ns s), .fz (.str (S cs))] ++ List.replicate 9 .un) = .ok (.rt (mD M)) (stM ns s5 cs n kd steps (M.map rowD) l5 nx5 k5 pk5) := by
    unfold g__law_machine
    have b1 : setS 2 (e2 addD (.g (eC (.int 1))) (.g (callE (F__law_next) [.s 0, .g (e2 ixD (.g (eFz (eLst [(eC (.int 6)), (eC (.int 6)), (eC (.int 6)), (eC (.int 10))]))) (.g (callE (F__law_next) [.s 0, .g (eC (.int 4))])))]))) ([.ow true (obS ns s), .fz (.str (S cs))] ++ List.replicate 9 .un) = .ok .nx [.ow true (obS ns s2), .fz (.str (S cs)), .fz (.int (n : Int)), .un, .un, .un, .un, .un, .un, .un, .un] := by
      simp [-Option.bind_some, -Option.bind_none, argE, callR, slots, mk, n1, n2, n3, put, back, en, List.replicate]
    have b2 : setS 3 (callE (F__law_next) [.s 0, .g (eC (.int 7))]) [.ow true (obS ns s2), .fz (.str (S cs)), .fz (.int (n : Int)), .un, .un, .un, .un, .un, .un, .un, .un] = .ok .nx (stI ns s3 cs n kd) := by
      simp [-Option.bind_some, -Option.bind_none, argE, callR, slots, mk, n4, put, back, stI]
    have b3 : setO 4 (lcE (eIt (eV 1)) (tgN 10) yesT (callE (F__law_next) [.s 0, .g (eV 2)]) [10]) (stI ns s3 cs n kd) = .ok .nx [.ow true (obS ns s4), .fz (.str (S cs)), .fz (.int (n : Int)), .fz (.int (kd : Int)), .ow false (.ls (steps.map I)), .un, .un, .un, .un, .un, .un] := by
      have c1 : eIt (eV 1) (stI ns s3 cs n kd) = .ok (cs.map chr) (stI ns s3 cs n kd) := by simp [-Option.bind_some, -Option.bind_none, stI, it]
      have c2 : wipeR (stI ns s3 cs n kd) [10] = stI ns s3 cs n kd := Eq.trans rfl rfl
      rw [setO_ap, lcE_ap, c1]
      simp only [Res.bind_ok, c2, n5]
      simp [-Option.bind_some, -Option.bind_none, stI]
    have b4 : setO 5 (eLst []) [.ow true (obS ns s4), .fz (.str (S cs)), .fz (.int (n : Int)), .fz (.int (kd : Int)), .ow false (.ls (steps.map I)), .un, .un, .un, .un, .un, .un] = .ok .nx (stM ns s4 cs n kd steps ([].map rowD) .un .un .un .un) := by
      simp [-Option.bind_some, -Option.bind_none, stM]
    have b5 : forS (e1 rg1D (.b 2)) (tgN 6) B__law_machine_2 (stM ns s4 cs n kd steps ([].map rowD) .un .un .un .un) = .ok .nx (stM ns s5 cs n kd steps (M.map rowD) l5 nx5 k5 pk5) := by
      have c1 : e1 rg1D (.b 2) (stM ns s4 cs n kd steps ([].map rowD) .un .un .un .un) = .ok ((List.range' 0 n).map I) (stM ns s4 cs n kd steps ([].map rowD) .un .un .un .un) := by
        simp [-Option.bind_some, -Option.bind_none, stM, rg, ← List.range_eq_range']
      rw [forS_ap, c1, Res.bind_ok]
      exact n6
    simp only [seqS_ap, b1, b2, b3, b4, b5, Res.bind_ok]
    simp [-Option.bind_some, -Option.bind_none, stM, mD]
  have a2 : ([.ow true (obS ns s), .fz (.str (S cs))] ++ List.replicate (11 - 2) .un : Rho) = [.ow true (obS ns s), .fz (.str (S cs))] ++ List.replicate 9 .un := rfl
  show bodyF 11 g__law_machine _ = _
  unfold bodyF
  have a3 : g__law_machine ([.ow true (obS ns s), .fz (.str (S cs))] ++ List.replicate (11 - List.length [Sl.ow true (obS ns s), .fz (.str (S cs))]) .un) = .ok (.rt (mD M)) (stM ns s5 cs n kd steps (M.map rowD) l5 nx5 k5 pk5) := a1
  rw [a3]
  simp [-Option.bind_some, -Option.bind_none, stM]
end K66
end
section
set_option autoImplicit false
set_option maxRecDepth 100000
set_option Elab.async false
set_option linter.all false
namespace K66
open PySem DL L2 SX
/-! ### where a line leads -/
abbrev Mach := List (Bool × List Nat)
def nxt (M : Mach) (p k : Nat) : Nat := ((M.map Prod.snd).getD p []).getD k 0
theorem nxt_lt {M : Mach} {c p k : Nat} (h : Ok M c) (hp : p < M.length) (hk : k < c) : nxt M p k < M.length := by
  obtain ⟨h1, h2⟩ := h.2 M[p] (List.getElem_mem hp)
  have e : nxt M p k = (M[p].2)[k]'(by omega) := by
    unfold nxt
    simp [-Option.bind_some, -Option.bind_none, List.getD_eq_getElem?_getD, hp, show k < M[p].2.length by omega]
  rw [e]
  exact h2 _ (List.getElem_mem _)
theorem ix_m {M : Mach} {p : Nat} (hp : p < M.length) : ixD (mD M) (.int (p : Int)) = some (rowD M[p]) := by
  show atI _ (p : Int) = _
  rw [atI_n, List.getElem?_map, List.getElem?_eq_getElem hp]
  exact Eq.trans rfl rfl
theorem ix_1 (r : Bool × List Nat) : ixD (rowD r) (.int 1) = some (.tuple (r.2.map I)) := rfl
theorem ix_row {M : Mach} {c p k : Nat} (h : Ok M c) (hp : p < M.length) (hk : k < c) : ixD (.tuple (M[p].2.map I)) (.int (k : Int)) = some (I (nxt M p k)) := by
  obtain ⟨h1, h2⟩ := h.2 M[p] (List.getElem_mem hp)
  have hk' : k < M[p].2.length := by omega
  show atI _ (k : Int) = _
  rw [atI_n, List.getElem?_map, List.getElem?_eq_getElem hk']
  have e : nxt M p k = (M[p].2)[k] := by
    unfold nxt
    simp [-Option.bind_some, -Option.bind_none, List.getD_eq_getElem?_getD, hp, hk']
  rw [e]
  exact Eq.trans rfl rfl
/-- machine[line][1][k] -/
theorem look {M : Mach} {c p k : Nat} (h : Ok M c) (hp : p < M.length) (hk : k < c) {ρ : Rho} {a b d : Nat} (ha : pk ρ a = some (mD M)) (hb : pk ρ b = some (I p)) (hd : pk ρ d = some (I k)) :
    e2 ixD (.g (e2 ixD (.g (e2 ixD (.b a) (.b b))) (.g (eC (.int 1))))) (.b d) ρ = .ok (I (nxt M p k)) ρ := by
  have e1 := ix_m hp
  have e3 := ix_row h hp hk
  unfold I at hb hd ⊢
  simp only [e2_ap, opd_b, opd_g, ha, hb, hd, ofO_some, Res.bind_ok, fin_v, fin_d, obind, e1, ix_1, e3, eC_ap]
  exact Eq.trans rfl rfl
/-- .. with the sign's place found in the text -/
theorem look_g {M : Mach} {c p k : Nat} (h : Ok M c) (hp : p < M.length) (hk : k < c) {ρ : Rho} {a b : Nat} {g : Ev D} (ha : pk ρ a = some (mD M)) (hb : pk ρ b = some (I p)) (hg : g ρ = .ok (I k) ρ) :
    e2 ixD (.g (e2 ixD (.g (e2 ixD (.b a) (.b b))) (.g (eC (.int 1))))) (.g g) ρ = .ok (I (nxt M p k)) ρ := by
  have e1 := ix_m hp
  have e3 := ix_row h hp hk
  unfold I at hb hg ⊢
  simp only [e2_ap, opd_b, opd_g, ha, hb, hg, ofO_some, Res.bind_ok, fin_v, fin_d, obind, e1, ix_1, e3, eC_ap]
  exact Eq.trans rfl rfl
/-! ### sorting -/
def leP (p q : Nat × Nat) : Bool := decide (p.1 < q.1 ∨ (p.1 = q.1 ∧ p.2 ≤ q.2))
theorem sort_I (l : List Nat) : sortO (.list (l.map I)) = some (.ls ((l.mergeSort fun a b => decide (a ≤ b)).map I)) := by
  have e : sortL (l.map I) = (l.mergeSort fun a b => decide (a ≤ b)).map I := by
    refine (PySem.W.sort_maps I fun a _ b _ => ?_).symm
    have z := congrFun (congrFun (PySem.W.dataLe_int (fun k : Nat => (k : Int))) a) b
    show decide (a ≤ b) = PySem.W.dataLe false (fun k : Nat => PyData.int (k : Int)) a b
    rw [z]
    by_cases c : a ≤ b <;> simp [-Option.bind_some, -Option.bind_none, c]
  have ok : sortOk (l.map I) = true := by
    unfold sortOk
    simp only [Bool.and_eq_true, Bool.or_eq_true, List.all_eq_true, decide_eq_true_eq, List.mem_map]
    refine ⟨⟨?_, ?_⟩, .inr ?_⟩
    · rintro _ ⟨a, _, rfl⟩ _ ⟨b, _, rfl⟩; rfl
    · rintro _ ⟨a, _, rfl⟩; exact Nat.zero_le _
    · rintro _ ⟨a, _, rfl⟩; rfl
  show (if sortOk (l.map I) = true then some (Ob.ls (sortL (l.map I))) else none) = _
  rw [if_pos ok, e]
theorem sort_P (l : List (Nat × Nat)) : sortO (.list (l.map pD)) = some (.ls ((l.mergeSort leP).map pD)) := by
  have e : sortL (l.map pD) = (l.mergeSort leP).map pD := by
    refine (PySem.W.sort_maps pD fun a _ b _ => ?_).symm
    have z := congrFun (congrFun (PySem.W.dataLe_ii (fun k : Nat × Nat => (k.1 : Int)) (fun k : Nat × Nat => (k.2 : Int))) a) b
    show leP a b = PySem.W.dataLe false (fun k : Nat × Nat => PyData.tuple [.int (k.1 : Int), .int (k.2 : Int)]) a b
    rw [z]
    unfold leP
    refine decide_eq_decide.mpr ?_
    constructor <;> (rintro (h | ⟨h1, h2⟩) <;> omega)
  have ok : sortOk (l.map pD) = true := by
    unfold sortOk
    simp only [Bool.and_eq_true, Bool.or_eq_true, List.all_eq_true, decide_eq_true_eq, List.mem_map]
    refine ⟨⟨?_, ?_⟩, .inl ?_⟩
    · rintro _ ⟨a, _, rfl⟩ _ ⟨b, _, rfl⟩; rfl
    · rintro _ ⟨a, _, rfl⟩; exact Nat.le_trans (ok_pD a).2 (by omega)
    · rintro _ ⟨a, _, rfl⟩; rfl
  show (if sortOk (l.map pD) = true then some (Ob.ls (sortL (l.map pD))) else none) = _
  rw [if_pos ok, e]
def sort2 (a b : Nat) : Nat × Nat := if a ≤ b then (a, b) else (b, a)
theorem sort_two (a b : Nat) : ([a, b].mergeSort fun a b => decide (a ≤ b)) = [(sort2 a b).1, (sort2 a b).2] := by
  unfold sort2
  by_cases h : a ≤ b
  · rw [if_pos h]
    simp [-Option.bind_some, -Option.bind_none, List.mergeSort, List.MergeSort.Internal.splitInTwo, List.merge, h]
  · rw [if_neg h]
    simp [-Option.bind_some, -Option.bind_none, List.mergeSort, List.MergeSort.Internal.splitInTwo, List.merge, h]
    try omega
theorem leP_anti {a b : Nat × Nat} (h1 : leP a b = true) (h2 : leP b a = true) : a = b := by
  unfold leP at h1 h2
  have h1 := of_decide_eq_true h1
  have h2 := of_decide_eq_true h2
  refine Prod.ext ?_ ?_ <;> omega
theorem leP_sorted (l : List (Nat × Nat)) : (l.mergeSort leP).Pairwise fun a b => leP a b = true := by
  refine List.pairwise_mergeSort (fun a b c h1 h2 => ?_) (fun a b => ?_) l
  · unfold leP at *
    have h1 := of_decide_eq_true h1
    have h2 := of_decide_eq_true h2
    exact decide_eq_true (by omega)
  · unfold leP
    rw [Bool.or_eq_true]
    simp only [decide_eq_true_eq]
    omega
theorem sort_filter (f : Nat × Nat → Bool) (l : List (Nat × Nat)) : (l.filter f).mergeSort leP = (l.mergeSort leP).filter f := by
  refine List.Perm.eq_of_pairwise (le := fun a b => leP a b = true) (fun a b _ _ h1 h2 => leP_anti h1 h2) (leP_sorted _) ((leP_sorted l).filter f) ?_
  exact (List.mergeSort_perm _ _).trans ((List.mergeSort_perm l leP).symm.filter f)
/-! ### a pair's lines behind a sign -/
def beh (M : Mach) (x : Nat × Nat) (k : Nat) : Nat × Nat := sort2 (nxt M x.1 k) (nxt M x.2 k)
theorem lc_pure {t : Tg} {tt : Ev Bool} {te : Ev D} {vs : List Nat} {ρ : Rho} (f : D → Option D) : ∀ (ds : List D) (n : Nat), n + ds.length ≤ 16777216 →
    (∀ d ∈ ds, ∃ r1 b r2, t.f d ρ = some r1 ∧ tt r1 = .ok b r2 ∧ (b = false → f d = none ∧ wipeR r2 vs = ρ) ∧ (b = true → ∃ y r3, te r2 = .ok y r3 ∧ f d = some y ∧ wipeR r3 vs = ρ)) →
    lcLoop t tt te vs ds n ρ = .ok (ds.filterMap f) ρ
  | [], n, _, _ => Eq.trans rfl rfl
  | d :: ds, n, hn, h => by
    simp only [List.length_cons] at hn
    obtain ⟨r1, b, r2, h1, h2, h3, h4⟩ := h d (by simp [-Option.bind_some, -Option.bind_none])
    unfold lcLoop
    rw [h1]
    simp only [h2, noEr_ok, Res.bind_ok]
    cases b with
    | false =>
      obtain ⟨h5, h6⟩ := h3 rfl
      simp only [Bool.false_eq_true, if_false, h6]
      rw [lc_pure f ds n (by omega) fun x hx => h x (by simp [-Option.bind_some, -Option.bind_none, hx]), List.filterMap_cons_none h5]
    | true =>
      obtain ⟨y, r3, h5, h6, h7⟩ := h4 rfl
      have hn' : n < 16777216 := by omega
      simp only [if_true, h5, noEr_ok, Res.bind_ok, hn', h7]
      rw [lc_pure f ds (n + 1) (by omega) fun x hx => h x (by simp [-Option.bind_some, -Option.bind_none, hx]), List.filterMap_cons_some h6]
      exact Eq.trans rfl rfl
/-- .. of a map -/
theorem lc_map {β : Type} {t : Tg} {te : Ev D} {vs : List Nat} {ρ : Rho} (e : β → D) (f : β → D) (l : List β) (n : Nat) (hn : n + l.length ≤ 16777216)
    (h : ∀ x ∈ l, ∃ r1 r3, t.f (e x) ρ = some r1 ∧ te r1 = .ok (f x) r3 ∧ wipeR r3 vs = ρ) : lcLoop t yesT te vs (l.map e) n ρ = .ok (l.map f) ρ := by
  induction l generalizing n with
  | nil => exact Eq.trans rfl rfl
  | cons x l ih =>
    simp only [List.length_cons] at hn
    obtain ⟨r1, r3, h1, h2, h3⟩ := h x (by simp [-Option.bind_some, -Option.bind_none])
    have hn' : n < 16777216 := by omega
    rw [List.map_cons]
    unfold lcLoop
    rw [h1]
    simp only [yesT_ap, noEr_ok, Res.bind_ok, if_true, h2, hn', h3]
    rw [ih (n + 1) (by omega) fun y hy => h y (by simp [-Option.bind_some, -Option.bind_none, hy])]
    exact Eq.trans rfl rfl
/-- .. of a filter -/
theorem lc_filter {β : Type} {t : Tg} {tt : Ev Bool} {te : Ev D} {vs : List Nat} {ρ : Rho} (e : β → D) (f : β → Bool) (l : List β) (n : Nat) (hn : n + l.length ≤ 16777216)
    (h : ∀ x ∈ l, ∃ r1 r2, t.f (e x) ρ = some r1 ∧ tt r1 = .ok (f x) r2 ∧ wipeR r2 vs = ρ ∧ ∃ r3, te r2 = .ok (e x) r3 ∧ wipeR r3 vs = ρ) : lcLoop t tt te vs (l.map e) n ρ = .ok ((l.filter f).map e) ρ := by
  induction l generalizing n with
  | nil => exact Eq.trans rfl rfl
  | cons x l ih =>
    simp only [List.length_cons] at hn
    obtain ⟨r1, r2, h1, h2, h3, r3, h4, h5⟩ := h x (by simp [-Option.bind_some, -Option.bind_none])
    have hn' : n < 16777216 := by omega
    have ih' := fun m hm => ih m hm fun y hy => h y (by simp [-Option.bind_some, -Option.bind_none, hy])
    rw [List.map_cons]
    unfold lcLoop
    rw [h1]
    simp only [noEr_ok, Res.bind_ok, h2]
    cases q : f x with
    | true =>
      simp only [if_true, h4, noEr_ok, Res.bind_ok, hn', h5]
      rw [ih' (n + 1) (by omega), List.filter_cons_of_pos q]
      exact Eq.trans rfl rfl
    | false =>
      simp only [Bool.false_eq_true, if_false, h3]
      rw [ih' n (by omega), List.filter_cons_of_neg (by rw [q]; exact Bool.false_ne_true)]
theorem beh_comp {M : Mach} {c k : Nat} (h : Ok M c) (x : Nat × Nat) (h1 : x.1 < M.length) (h2 : x.2 < M.length) (hk : k < c) :
    F_pair_behind [.fz (mD M), .fz (I k), .fz (pD x)] = .ok (pD (beh M x k)) [.un, .un, .un] ∧ F__law_behind [.fz (mD M), .fz (I k), .fz (pD x)] = .ok (pD (beh M x k)) [.un, .un, .un] := by
  have lp : lcLoop (tgN 3) yesT (e2 ixD (.g (e2 ixD (.g (e2 ixD (.b 0) (.b 3))) (.g (eC (.int 1))))) (.b 1)) [3] ([x.1, x.2].map I) 0 [.fz (mD M), .fz (I k), .fz (pD x), .un] = .ok ([x.1, x.2].map fun p => I (nxt M p k)) [.fz (mD M), .fz (I k), .fz (pD x), .un] := by
    refine lc_map I (fun p => I (nxt M p k)) [x.1, x.2] 0 (by simp [-Option.bind_some, -Option.bind_none]) fun p hp => ?_
    have hp' : p < M.length := by
      simp only [List.mem_cons, List.not_mem_nil, or_false] at hp
      rcases hp with e | e <;> (rw [e]; assumption)
    exact ⟨[.fz (mD M), .fz (I k), .fz (pD x), .fz (I p)], [.fz (mD M), .fz (I k), .fz (pD x), .fz (I p)], Eq.trans rfl rfl, look h hp' hk rfl rfl rfl, Eq.trans rfl rfl⟩
  have st : sortO (.list ([x.1, x.2].map fun p => I (nxt M p k))) = some (.ls [I (beh M x k).1, I (beh M x k).2]) := by
    have e : ([x.1, x.2].map fun p => I (nxt M p k)) = [nxt M x.1 k, nxt M x.2 k].map I := rfl
    rw [e, sort_I, sort_two]
    exact Eq.trans rfl rfl
  have lp' : lcLoop (tgN 3) yesT (e2 ixD (.g (e2 ixD (.g (e2 ixD (.b 0) (.b 3))) (.g (eC (.int 1))))) (.b 1)) [3] [I x.1, I x.2] 0 (wipeR [.fz (mD M), .fz (I k), .fz (pD x), .un] [3]) = .ok ([x.1, x.2].map fun p => I (nxt M p k)) [.fz (mD M), .fz (I k), .fz (pD x), .un] := lp
  have it : iterD (pD x) = some [I x.1, I x.2] := rfl
  have g : (rtS (e1 tupD (.g (eFz (e1 sortO (.g (eFz (lcE (eIt (eV 2)) (tgN 3) yesT (e2 ixD (.g (e2 ixD (.g (e2 ixD (.b 0) (.b 3))) (.g (eC (.int 1))))) (.b 1)) [3])))))))) [.fz (mD M), .fz (I k), .fz (pD x), .un] = .ok (.rt (pD (beh M x k))) [.fz (mD M), .fz (I k), .fz (pD x), .un] := by
    have a1 : eIt (eV 2) [.fz (mD M), .fz (I k), .fz (pD x), .un] = .ok [I x.1, I x.2] [.fz (mD M), .fz (I k), .fz (pD x), .un] := by
      simp [-Option.bind_some, -Option.bind_none, it]
    have a2 : lcE (eIt (eV 2)) (tgN 3) yesT (e2 ixD (.g (e2 ixD (.g (e2 ixD (.b 0) (.b 3))) (.g (eC (.int 1))))) (.b 1)) [3] [.fz (mD M), .fz (I k), .fz (pD x), .un] = .ok (.ls ([x.1, x.2].map fun p => I (nxt M p k))) [.fz (mD M), .fz (I k), .fz (pD x), .un] := by
      rw [lcE_ap, a1]
      simp only [Res.bind_ok, lp']
    simp only [rtS_ap, e1_ap, opd_g, eFz_ap, a2, Res.bind_ok, fin_d, obind, st, ofO_some]
    exact Eq.trans rfl rfl
  constructor
  · show bodyF 4 g_pair_behind _ = _
    have e : bodyF 4 g_pair_behind [.fz (mD M), .fz (I k), .fz (pD x)] = match g_pair_behind [.fz (mD M), .fz (I k), .fz (pD x), .un] with
      | .ok (.rt d) r => .ok d (outOf [.fz (mD M), .fz (I k), .fz (pD x)] r)
      | .ok .nx r => .ok .none (outOf [.fz (mD M), .fz (I k), .fz (pD x)] r)
      | .er c r => .er c (outOf [.fz (mD M), .fz (I k), .fz (pD x)] r)
      | _ => .no := rfl
    rw [e]
    unfold g_pair_behind
    rw [g]
    exact Eq.trans rfl rfl
  · show bodyF 4 g__law_behind _ = _
    have e : bodyF 4 g__law_behind [.fz (mD M), .fz (I k), .fz (pD x)] = match g__law_behind [.fz (mD M), .fz (I k), .fz (pD x), .un] with
      | .ok (.rt d) r => .ok d (outOf [.fz (mD M), .fz (I k), .fz (pD x)] r)
      | .ok .nx r => .ok .none (outOf [.fz (mD M), .fz (I k), .fz (pD x)] r)
      | .er c r => .er c (outOf [.fz (mD M), .fz (I k), .fz (pD x)] r)
      | _ => .no := rfl
    rw [e]
    unfold g__law_behind
    rw [g]
    exact Eq.trans rfl rfl
end K66
end
section
set_option autoImplicit false
set_option maxRecDepth 100000
set_option Elab.async false
set_option linter.all false
namespace K66
open PySem DL L2 SX
/-! ### pairs that meet -/
def prs (n : Nat) : List (Nat × Nat) := ((List.range n).map fun q => (List.range q).map fun p => (p, q)).flatten
theorem mem_prs {n : Nat} {x : Nat × Nat} : x ∈ prs n ↔ x.1 < x.2 ∧ x.2 < n := by
  unfold prs
  rw [List.mem_flatten]
  constructor
  · rintro ⟨l, h1, h2⟩
    obtain ⟨q, h3, rfl⟩ := List.mem_map.mp h1
    obtain ⟨p, h4, rfl⟩ := List.mem_map.mp h2
    exact ⟨List.mem_range.mp h4, List.mem_range.mp h3⟩
  · rintro ⟨h1, h2⟩
    exact ⟨_, List.mem_map.mpr ⟨x.2, List.mem_range.mpr h2, rfl⟩, List.mem_map.mpr ⟨x.1, List.mem_range.mpr h1, rfl⟩⟩
theorem prs_succ (n : Nat) : prs (n + 1) = prs n ++ (List.range n).map fun p => (p, n) := by
  unfold prs
  rw [List.range_succ, List.map_append, List.flatten_append]
  simp [-Option.bind_some, -Option.bind_none]
theorem prs_len : ∀ n : Nat, (prs n).length ≤ n * n
  | 0 => Nat.le_refl _
  | n + 1 => by
    have := prs_len n
    rw [prs_succ, List.length_append, List.length_map, List.length_range, Nat.mul_add, Nat.add_mul]
    omega
inductive Meet (M : Mach) (c : Nat) : Nat × Nat → Prop
  | now {x : Nat × Nat} {k : Nat} : k < c → (beh M x k).1 = (beh M x k).2 → Meet M c x
  | step {x : Nat × Nat} {k : Nat} : k < c → Meet M c (beh M x k) → Meet M c x
def trig (M : Mach) (c : Nat) (m : List (Nat × Nat)) (x : Nat × Nat) : Bool := (List.range c).any fun k => decide ((beh M x k).1 = (beh M x k).2) || decide (beh M x k ∈ m)
theorem beh_prs {M : Mach} {c k : Nat} (h : Ok M c) {x : Nat × Nat} (hx : x ∈ prs M.length) (hk : k < c) : (beh M x k).1 = (beh M x k).2 ∨ beh M x k ∈ prs M.length := by
  obtain ⟨h1, h2⟩ := mem_prs.mp hx
  have a := nxt_lt h (show x.1 < M.length by omega) hk
  have b := nxt_lt h h2 hk
  by_cases e : (beh M x k).1 = (beh M x k).2
  · exact .inl e
  · refine .inr (mem_prs.mpr ?_)
    unfold beh sort2 at e ⊢
    split at e <;> rename_i q
    · rw [if_pos q]; simp only at e ⊢; omega
    · rw [if_neg q]; simp only at e ⊢; omega
structure Good (M : Mach) (c : Nat) (m : List (Nat × Nat)) : Prop where
  nd : m.Nodup
  sub : ∀ x ∈ m, x ∈ prs M.length
  snd : ∀ x ∈ m, Meet M c x
theorem trig_meet {M : Mach} {c : Nat} {m : List (Nat × Nat)} (hs : ∀ x ∈ m, Meet M c x) {x : Nat × Nat} (h : trig M c m x = true) : Meet M c x := by
  unfold trig at h
  rw [List.any_eq_true] at h
  obtain ⟨k, hk, h⟩ := h
  rw [Bool.or_eq_true, decide_eq_true_eq, decide_eq_true_eq] at h
  rcases h with h | h
  · exact .now (List.mem_range.mp hk) h
  · exact .step (List.mem_range.mp hk) (hs _ h)
theorem closed_meet {M : Mach} {c : Nat} (hM : Ok M c) {m : List (Nat × Nat)} (hc : ∀ x ∈ prs M.length, x ∈ m ∨ trig M c m x = false) {x : Nat × Nat} (h : Meet M c x) : x ∈ prs M.length → x ∈ m := by
  induction h with
  | @now x k hk he =>
    intro hx
    rcases hc x hx with q | q
    · exact q
    · unfold trig at q
      rw [List.any_eq_false] at q
      have := q k (List.mem_range.mpr hk)
      simp [-Option.bind_some, -Option.bind_none, he] at this
  | @step x k hk _ ih =>
    intro hx
    rcases hc x hx with q | q
    · exact q
    · unfold trig at q
      rw [List.any_eq_false] at q
      have := q k (List.mem_range.mpr hk)
      rcases beh_prs hM hx hk with e | e
      · simp [-Option.bind_some, -Option.bind_none, e] at this
      · simp [-Option.bind_some, -Option.bind_none, ih e] at this
/-- one step of the program's pass -/
def stepN (M : Mach) (c : Nat) (s : List (Nat × Nat) × Bool) (x : Nat × Nat) : List (Nat × Nat) × Bool := if x ∈ s.1 then s else if trig M c s.1 x = true then (s.1 ++ [x], true) else s
theorem step_good {M : Mach} {c : Nat} {s : List (Nat × Nat) × Bool} {x : Nat × Nat} (h : Good M c s.1) (hx : x ∈ prs M.length) : Good M c (stepN M c s x).1 := by
  unfold stepN
  split
  · exact h
  · rename_i h1
    split
    · rename_i h2
      refine ⟨?_, fun y hy => ?_, fun y hy => ?_⟩
      · rw [List.nodup_append]
        refine ⟨h.nd, by simp [-Option.bind_some, -Option.bind_none], fun a ha b hb q => ?_⟩
        rw [List.mem_singleton.mp hb] at q
        exact h1 (q ▸ ha)
      · rcases List.mem_append.mp hy with q | q
        · exact h.sub y q
        · rw [List.mem_singleton.mp q]; exact hx
      · rcases List.mem_append.mp hy with q | q
        · exact h.snd y q
        · rw [List.mem_singleton.mp q]; exact trig_meet h.snd h2
    · exact h
theorem fold_good {M : Mach} {c : Nat} : ∀ (l : List (Nat × Nat)) (s : List (Nat × Nat) × Bool), Good M c s.1 → (∀ x ∈ l, x ∈ prs M.length) → Good M c (l.foldl (stepN M c) s).1
  | [], _, h, _ => h
  | x :: l, s, h, hl => fold_good l _ (step_good h (hl x (by simp [-Option.bind_some, -Option.bind_none]))) fun y hy => hl y (by simp [-Option.bind_some, -Option.bind_none, hy])
theorem fold_len {M : Mach} {c : Nat} : ∀ (l : List (Nat × Nat)) (s : List (Nat × Nat) × Bool), s.1.length ≤ (l.foldl (stepN M c) s).1.length ∧ (s.2 = true → (l.foldl (stepN M c) s).2 = true) ∧ ((l.foldl (stepN M c) s).2 = true → s.2 = true ∨ s.1.length < (l.foldl (stepN M c) s).1.length)
  | [], s => ⟨Nat.le_refl _, id, .inl⟩
  | x :: l, s => by
    obtain ⟨h1, h2, h3⟩ := fold_len l (stepN M c s x)
    have hs : (stepN M c s x = s) ∨ (stepN M c s x = (s.1 ++ [x], true)) := by
      unfold stepN
      split
      · exact .inl rfl
      · split
        · exact .inr rfl
        · exact .inl rfl
    rw [List.foldl_cons]
    rcases hs with e | e
    · rw [e] at h1 h2 h3 ⊢; exact ⟨h1, h2, h3⟩
    · rw [e] at h1 h2 h3 ⊢
      have h1 : (s.1 ++ [x]).length ≤ _ := h1
      rw [List.length_append] at h1
      simp only [List.length_singleton] at h1
      exact ⟨by omega, fun _ => h2 rfl, fun _ => .inr (by omega)⟩
theorem fold_stop {M : Mach} {c : Nat} : ∀ (l : List (Nat × Nat)) (s : List (Nat × Nat) × Bool), (l.foldl (stepN M c) s).2 = false → (l.foldl (stepN M c) s).1 = s.1 ∧ ∀ x ∈ l, x ∈ s.1 ∨ trig M c s.1 x = false
  | [], s, _ => ⟨rfl, fun _ h => by simp [-Option.bind_some, -Option.bind_none] at h⟩
  | x :: l, s, h => by
    rw [List.foldl_cons] at h ⊢
    obtain ⟨h1, h2⟩ := fold_stop l _ h
    have hs : stepN M c s x = s ∧ (x ∈ s.1 ∨ trig M c s.1 x = false) := by
      unfold stepN
      split
      · rename_i q; exact ⟨rfl, .inl q⟩
      · split
        · rename_i q1 q2
          exfalso
          have := (fold_len (M := M) (c := c) l (stepN M c s x)).2.1 (by unfold stepN; rw [if_neg q1, if_pos q2])
          rw [h] at this; cases this
        · rename_i q; exact ⟨rfl, .inr (by simpa [-Option.bind_some, -Option.bind_none] using q)⟩
    rw [hs.1] at h1 h2
    rw [hs.1]
    refine ⟨h1, fun y hy => ?_⟩
    rcases List.mem_cons.mp hy with e | e
    · rw [e]; exact hs.2
    · exact h2 y e
/-! ### the program's pass -/
def stN (M : Mach) (cs : List Nat) (ps : Sl) (m : List (Nat × Nat)) (g : Bool) (x5 x6 : Sl) : Rho := [.fz (mD M), .fz (.str (S cs)), ps, .ow false (.ls (m.map pD)), .fz (.bool g), x5, x6, .un, .un, .un, .un]
theorem ok_Ps (m : List (Nat × Nat)) : ∀ y ∈ m.map pD, okN 1 y := fun y hy => by
  obtain ⟨z, _, rfl⟩ := List.mem_map.mp hy
  exact ok_pD z
theorem nin_P (x : Nat × Nat) (m : List (Nat × Nat)) : notInD (pD x) (.list (m.map pD)) = some (.bool (!decide (x ∈ m))) := by
  rw [ninL_ok ((ok_pD x).mono (by omega)) fun y hy => (ok_Ps m y hy).mono (by omega), inAny_mem enc_pD x m inferInstance]
theorem in_P (x : Nat × Nat) (m : List (Nat × Nat)) : inD (pD x) (.list (m.map pD)) = some (.bool (decide (x ∈ m))) := by
  rw [inL_ok ((ok_pD x).mono (by omega)) fun y hy => (ok_Ps m y hy).mono (by omega), inAny_mem enc_pD x m inferInstance]
theorem in_B (bs : List Bool) (b : Bool) : inD (.bool b) (.list (bs.map .bool)) = some (.bool (bs.any fun z => z == b)) := by
  rw [inL_ok ((ok_bool b).mono (by omega)) fun y hy => ?_]
  · unfold inAny
    rw [List.any_map]
    exact Eq.trans rfl rfl
  · obtain ⟨z, _, rfl⟩ := List.mem_map.mp hy
    exact (ok_bool z).mono (by omega)
theorem ix_p0 (x : Nat × Nat) : ixD (pD x) (.int 0) = some (I x.1) := rfl
theorem ix_p1 (x : Nat × Nat) : ixD (pD x) (.int 1) = some (I x.2) := rfl
theorem eq_I (a b : Nat) : eqD (I a) (I b) = some (.bool (decide (a = b))) := by
  unfold I
  rw [eq_int]
  by_cases h : a = b <;> simp [-Option.bind_some, -Option.bind_none, h]
  omega
theorem behs_run {M : Mach} {cs : List Nat} (h : Ok M cs.length) (hc : cs.length ≤ 4) (ps : Sl) (m : List (Nat × Nat)) (g : Bool) (x : Nat × Nat) (x6 : Sl) (hx : x ∈ prs M.length) (h6 : Loose x6) :
    setO 6 (lcE (e1 rg1D (.g (e1 lenD (.b 1)))) (tgN 9) yesT (callE (F_pair_behind) [.g (eV 0), .g (eV 9), .g (eV 5)]) [9]) (stN M cs ps m g (.fz (pD x)) x6) = .ok .nx (stN M cs ps m g (.fz (pD x)) (.ow false (.ls ((List.range cs.length).map fun k => pD (beh M x k))))) := by
  obtain ⟨h1, h2⟩ := mem_prs.mp hx
  have ls := len_str cs (by omega)
  have rg := rg1_n cs.length (by omega)
  have a1 : e1 rg1D (.g (e1 lenD (.b 1))) (stN M cs ps m g (.fz (pD x)) x6) = .ok ((List.range cs.length).map I) (stN M cs ps m g (.fz (pD x)) x6) := by
    unfold I at ls
    simp [-Option.bind_some, -Option.bind_none, stN, ls, rg]
  have a2 : wipeR (stN M cs ps m g (.fz (pD x)) x6) [9] = stN M cs ps m g (.fz (pD x)) x6 := Eq.trans rfl rfl
  have a3 : lcLoop (tgN 9) yesT (callE (F_pair_behind) [.g (eV 0), .g (eV 9), .g (eV 5)]) [9] ((List.range cs.length).map I) 0 (stN M cs ps m g (.fz (pD x)) x6) = .ok ((List.range cs.length).map fun k => pD (beh M x k)) (stN M cs ps m g (.fz (pD x)) x6) := by
    refine lc_map I (fun k => pD (beh M x k)) _ 0 (by simp [-Option.bind_some, -Option.bind_none]; omega) fun k hk => ?_
    have bc := (beh_comp h x (by omega) h2 (List.mem_range.mp hk)).1
    refine ⟨[.fz (mD M), .fz (.str (S cs)), ps, .ow false (.ls (m.map pD)), .fz (.bool g), .fz (pD x), x6, .un, .un, .fz (I k), .un], [.fz (mD M), .fz (.str (S cs)), ps, .ow false (.ls (m.map pD)), .fz (.bool g), .fz (pD x), x6, .un, .un, .fz (I k), .un], Eq.trans rfl rfl, ?_, Eq.trans rfl rfl⟩
    simp [-Option.bind_some, -Option.bind_none, callR, slots, mk, bc, put]
  rw [setO_ap, lcE_ap, a1]
  simp only [Res.bind_ok, a2, a3]
  rw [sto_loose (x := x6) (Eq.trans rfl rfl) h6]
  exact Eq.trans rfl rfl
theorem stepN_run {M : Mach} {cs : List Nat} (h : Ok M cs.length) (hc : cs.length ≤ 4) (ps : Sl) (m : List (Nat × Nat)) (g : Bool) (x : Nat × Nat) (x6 : Sl) (hx : x ∈ prs M.length) (h6 : Loose x6) (hm : m.length < 10000) :
    ∃ x6', Loose x6' ∧ B_never_meeting_1 (stN M cs ps m g (.fz (pD x)) x6) = .ok .nx (stN M cs ps (stepN M cs.length (m, g) x).1 (stepN M cs.length (m, g) x).2 (.fz (pD x)) x6') := by
  have b1 := behs_run h hc ps m g x x6 hx h6
  have np := nin_P x m
  unfold B_never_meeting_1
  by_cases hxm : x ∈ m
  · refine ⟨x6, h6, ?_⟩
    have e : stepN M cs.length (m, g) x = (m, g) := if_pos hxm
    rw [e]
    have t : eT (e2 notInD (.b 5) (.b 3)) (stN M cs ps m g (.fz (pD x)) x6) = .ok false (stN M cs ps m g (.fz (pD x)) x6) := by
      simp [-Option.bind_some, -Option.bind_none, stN, np, hxm]
    rw [ifS_ap, t]
    exact Eq.trans rfl rfl
  · have t : eT (e2 notInD (.b 5) (.b 3)) (stN M cs ps m g (.fz (pD x)) x6) = .ok true (stN M cs ps m g (.fz (pD x)) x6) := by
      simp [-Option.bind_some, -Option.bind_none, stN, np, hxm]
    have ys : Loose (.fz (.list ((List.range cs.length).map fun k => pD (beh M x k)))) := .inr (.inl ⟨_, rfl⟩)
    refine ⟨.fz (.list ((List.range cs.length).map fun k => pD (beh M x k))), ys, ?_⟩
    -- the row of truth values
    have l1 : lcLoop (tgN 10) yesT (eOrV (e2 eqD (.g (e2 ixD (.b 10) (.g (eC (.int 0))))) (.g (e2 ixD (.b 10) (.g (eC (.int 1)))))) (e2 inD (.b 10) (.b 3))) [10] ((List.range cs.length).map fun k => pD (beh M x k)) 0 (stN M cs ps m g (.fz (pD x)) (.fz (.list ((List.range cs.length).map fun k => pD (beh M x k))))) =
        .ok ((List.range cs.length).map fun k => .bool (decide ((beh M x k).1 = (beh M x k).2) || decide (beh M x k ∈ m))) (stN M cs ps m g (.fz (pD x)) (.fz (.list ((List.range cs.length).map fun k => pD (beh M x k))))) := by
      refine lc_map (fun k => pD (beh M x k)) (fun k => .bool (decide ((beh M x k).1 = (beh M x k).2) || decide (beh M x k ∈ m))) _ 0 (by simp [-Option.bind_some, -Option.bind_none]; omega) fun k hk => ?_
      refine ⟨[.fz (mD M), .fz (.str (S cs)), ps, .ow false (.ls (m.map pD)), .fz (.bool g), .fz (pD x), .fz (.list ((List.range cs.length).map fun k => pD (beh M x k))), .un, .un, .un, .fz (pD (beh M x k))], [.fz (mD M), .fz (.str (S cs)), ps, .ow false (.ls (m.map pD)), .fz (.bool g), .fz (pD x), .fz (.list ((List.range cs.length).map fun k => pD (beh M x k))), .un, .un, .un, .fz (pD (beh M x k))], Eq.trans rfl rfl, ?_, Eq.trans rfl rfl⟩
      have e1 := eq_I (beh M x k).1 (beh M x k).2
      have e3 := in_P (beh M x k) m
      generalize decide ((beh M x k).1 = (beh M x k).2) = d at e1 ⊢
      cases d <;> simp [-Option.bind_some, -Option.bind_none, ix_p0, ix_p1, e1, e3]
    have b2 : eT (e2 inD (.g (eC (.bool true))) (.g (eFz (lcE (eIt (eV 6)) (tgN 10) yesT (eOrV (e2 eqD (.g (e2 ixD (.b 10) (.g (eC (.int 0))))) (.g (e2 ixD (.b 10) (.g (eC (.int 1)))))) (e2 inD (.b 10) (.b 3))) [10])))) (stN M cs ps m g (.fz (pD x)) (.ow false (.ls ((List.range cs.length).map fun k => pD (beh M x k))))) =
        .ok (trig M cs.length m x) (stN M cs ps m g (.fz (pD x)) (.fz (.list ((List.range cs.length).map fun k => pD (beh M x k))))) := by
      have c1 : eIt (eV 6) (stN M cs ps m g (.fz (pD x)) (.ow false (.ls ((List.range cs.length).map fun k => pD (beh M x k))))) = .ok ((List.range cs.length).map fun k => pD (beh M x k)) (stN M cs ps m g (.fz (pD x)) (.fz (.list ((List.range cs.length).map fun k => pD (beh M x k))))) := by
        simp [-Option.bind_some, -Option.bind_none, stN]
      have c2 : wipeR (stN M cs ps m g (.fz (pD x)) (.fz (.list ((List.range cs.length).map fun k => pD (beh M x k))))) [10] = stN M cs ps m g (.fz (pD x)) (.fz (.list ((List.range cs.length).map fun k => pD (beh M x k)))) := Eq.trans rfl rfl
      have c3 : inD (.bool true) (.list ((List.range cs.length).map fun k => .bool (decide ((beh M x k).1 = (beh M x k).2) || decide (beh M x k ∈ m)))) = some (.bool (trig M cs.length m x)) := by
        have z := in_B ((List.range cs.length).map fun k => (decide ((beh M x k).1 = (beh M x k).2) || decide (beh M x k ∈ m))) true
        rw [List.map_map] at z
        refine z.trans ?_
        unfold trig
        rw [List.any_map]
        have fz : ((fun z => z == true) ∘ fun k => decide ((beh M x k).1 = (beh M x k).2) || decide (beh M x k ∈ m)) = fun k => decide ((beh M x k).1 = (beh M x k).2) || decide (beh M x k ∈ m) := funext fun k => by simp [-Option.bind_some, -Option.bind_none]
        rw [fz]
      have c4 : eFz (lcE (eIt (eV 6)) (tgN 10) yesT (eOrV (e2 eqD (.g (e2 ixD (.b 10) (.g (eC (.int 0))))) (.g (e2 ixD (.b 10) (.g (eC (.int 1)))))) (e2 inD (.b 10) (.b 3))) [10]) (stN M cs ps m g (.fz (pD x)) (.ow false (.ls ((List.range cs.length).map fun k => pD (beh M x k))))) = .ok (.list ((List.range cs.length).map fun k => .bool (decide ((beh M x k).1 = (beh M x k).2) || decide (beh M x k ∈ m)))) (stN M cs ps m g (.fz (pD x)) (.fz (.list ((List.range cs.length).map fun k => pD (beh M x k))))) := by
        rw [eFz_ap, lcE_ap, c1]
        simp only [Res.bind_ok, c2, l1]
      rw [eT_ap, e2_ap, opd_g, eC_ap]
      simp only [Res.bind_ok, opd_g, c4, fin_d, obind, c3, ofO_some]
    rw [ifS_ap, t]
    simp only [Res.bind_ok, if_true, seqS_ap, b1, ifS_ap, b2]
    by_cases q : trig M cs.length m x = true
    · have e : stepN M cs.length (m, g) x = (m ++ [x], true) := by
        unfold stepN
        rw [if_neg hxm, if_pos q]
      rw [e, q]
      have hm' : m.length < 16777216 := by omega
      simp [-Option.bind_some, -Option.bind_none, stN, mutS, hm']
    · have q : trig M cs.length m x = false := by simpa [-Option.bind_some, -Option.bind_none] using q
      have e : stepN M cs.length (m, g) x = (m, g) := by
        unfold stepN
        rw [if_neg hxm, if_neg (by rw [q]; exact Bool.false_ne_true)]
      rw [e, q]
      simp [-Option.bind_some, -Option.bind_none]
end K66
end
section
set_option autoImplicit false
set_option maxRecDepth 100000
set_option Elab.async false
set_option linter.all false
namespace K66
open PySem DL L2 SX
theorem good_len {M : Mach} {c : Nat} {m : List (Nat × Nat)} (h : Good M c m) : m.length ≤ (prs M.length).length := nodup_sub_len h.nd h.sub
theorem sq_le {n : Nat} (h : n ≤ 20) : n * n ≤ 400 := Nat.mul_le_mul h h
theorem passN {M : Mach} {cs : List Nat} (h : Ok M cs.length) (hc : cs.length ≤ 4) (hn : M.length ≤ 20) (ps : Sl) : ∀ (l : List (Nat × Nat)) (m : List (Nat × Nat)) (g : Bool) (x5 x6 : Sl), Good M cs.length m → (∀ x ∈ l, x ∈ prs M.length) → Loose x5 → Loose x6 →
    ∃ x5' x6', Loose x5' ∧ Loose x6' ∧ loopS (tgN 5) B_never_meeting_1 (l.map pD) (stN M cs ps m g x5 x6) = .ok .nx (stN M cs ps (l.foldl (stepN M cs.length) (m, g)).1 (l.foldl (stepN M cs.length) (m, g)).2 x5' x6')
  | [], m, g, x5, x6, _, _, h5, h6 => ⟨x5, x6, h5, h6, Eq.trans rfl rfl⟩
  | x :: l, m, g, x5, x6, gd, hl, h5, h6 => by
    have gl := good_len gd
    have pl := prs_len M.length
    have sq := sq_le hn
    obtain ⟨y6, l6, e⟩ := stepN_run h hc ps m g x x6 (hl x (by simp [-Option.bind_some, -Option.bind_none])) h6 (by omega)
    obtain ⟨z5, z6, l7, l8, e2⟩ := passN h hc hn ps l (stepN M cs.length (m, g) x).1 (stepN M cs.length (m, g) x).2 (.fz (pD x)) y6 (step_good (s := (m, g)) gd (hl x (by simp [-Option.bind_some, -Option.bind_none]))) (fun y hy => hl y (by simp [-Option.bind_some, -Option.bind_none, hy])) (.inr (.inl ⟨_, rfl⟩)) l6
    refine ⟨z5, z6, l7, l8, ?_⟩
    have t : (tgN 5).f (pD x) (stN M cs ps m g x5 x6) = some (stN M cs ps m g (.fz (pD x)) x6) := by
      show sto _ 5 _ = _
      rw [sto_loose (x := x5) (Eq.trans rfl rfl) h5]
      exact Eq.trans rfl rfl
    rw [List.map_cons]
    unfold loopS
    rw [t]
    simp only [e, Res.bind_ok]
    rw [e2, List.foldl_cons]
def psO (n : Nat) : Sl := .ow false (.ls ((prs n).map pD))
def psF (n : Nat) : Sl := .fz (.list ((prs n).map pD))
theorem bodyN {M : Mach} {cs : List Nat} (h : Ok M cs.length) (hc : cs.length ≤ 4) (hn : M.length ≤ 20) (ps : Sl) (hps : ps = psO M.length ∨ ps = psF M.length) (m : List (Nat × Nat)) (g : Bool) (x5 x6 : Sl) (gd : Good M cs.length m) (h5 : Loose x5) (h6 : Loose x6) :
    ∃ x5' x6', Loose x5' ∧ Loose x6' ∧ B_never_meeting_2 (stN M cs ps m g x5 x6) = .ok .nx (stN M cs (psF M.length) ((prs M.length).foldl (stepN M cs.length) (m, false)).1 ((prs M.length).foldl (stepN M cs.length) (m, false)).2 x5' x6') := by
  obtain ⟨y5, y6, l5, l6, e⟩ := passN h hc hn (psF M.length) (prs M.length) m false x5 x6 gd (fun _ h => h) h5 h6
  refine ⟨y5, y6, l5, l6, ?_⟩
  have a1 : setS 4 (eC (.bool false)) (stN M cs ps m g x5 x6) = .ok .nx (stN M cs ps m false x5 x6) := by simp [-Option.bind_some, -Option.bind_none, stN]
  have a2 : eIt (eV 2) (stN M cs ps m false x5 x6) = .ok ((prs M.length).map pD) (stN M cs (psF M.length) m false x5 x6) := by
    rcases hps with rfl | rfl <;> simp [-Option.bind_some, -Option.bind_none, stN, psO, psF]
  unfold B_never_meeting_2
  simp only [seqS_ap, a1, Res.bind_ok, forS_ap, a2, e]
theorem whileN {M : Mach} {cs : List Nat} (h : Ok M cs.length) (hc : cs.length ≤ 4) (hn : M.length ≤ 20) : ∀ (d fu : Nat) (ps : Sl) (m : List (Nat × Nat)) (x5 x6 : Sl), (ps = psO M.length ∨ ps = psF M.length) → Good M cs.length m → (prs M.length).length ≤ m.length + d → d + 2 ≤ fu → Loose x5 → Loose x6 →
    ∃ m' x5' x6', Good M cs.length m' ∧ (∀ x ∈ prs M.length, x ∈ m' ∨ trig M cs.length m' x = false) ∧ whileS C_never_meeting_2 B_never_meeting_2 fu (stN M cs ps m true x5 x6) = .ok .nx (stN M cs (psF M.length) m' false x5' x6') := by
  intro d
  induction d with
  | zero =>
    intro fu ps m x5 x6 hps gd hd hf h5 h6
    obtain ⟨fu, rfl⟩ : ∃ k, fu = k + 2 := ⟨fu - 2, by omega⟩
    obtain ⟨y5, y6, l5, l6, e⟩ := bodyN h hc hn ps hps m true x5 x6 gd h5 h6
    have fg := fold_good (prs M.length) (m, false) gd (fun _ h => h)
    obtain ⟨f1, f2, f3⟩ := fold_len (M := M) (c := cs.length) (prs M.length) (m, false)
    have gl := good_len fg
    cases eg : ((prs M.length).foldl (stepN M cs.length) (m, false)).2 with
    | true =>
      rcases f3 eg with z | z
      · cases z
      · have z : m.length < _ := z
        omega
    | false =>
      obtain ⟨s1, s2⟩ := fold_stop (prs M.length) (m, false) eg
      rw [eg, s1] at e
      refine ⟨m, y5, y6, gd, s2, ?_⟩
      have t1 : C_never_meeting_2 (stN M cs ps m true x5 x6) = .ok true (stN M cs ps m true x5 x6) := by simp [-Option.bind_some, -Option.bind_none, C_never_meeting_2, stN, truD]
      have t2 : C_never_meeting_2 (stN M cs (psF M.length) m false y5 y6) = .ok false (stN M cs (psF M.length) m false y5 y6) := by simp [-Option.bind_some, -Option.bind_none, C_never_meeting_2, stN, truD]
      unfold whileS
      rw [t1]
      simp only [Res.bind_ok, if_true, e]
      unfold whileS
      rw [t2]
      exact Eq.trans rfl rfl
  | succ d ih =>
    intro fu ps m x5 x6 hps gd hd hf h5 h6
    obtain ⟨fu, rfl⟩ : ∃ k, fu = k + 1 := ⟨fu - 1, by omega⟩
    obtain ⟨y5, y6, l5, l6, e⟩ := bodyN h hc hn ps hps m true x5 x6 gd h5 h6
    have fg := fold_good (prs M.length) (m, false) gd (fun _ h => h)
    obtain ⟨f1, f2, f3⟩ := fold_len (M := M) (c := cs.length) (prs M.length) (m, false)
    have t1 : C_never_meeting_2 (stN M cs ps m true x5 x6) = .ok true (stN M cs ps m true x5 x6) := by simp [-Option.bind_some, -Option.bind_none, C_never_meeting_2, stN, truD]
    cases eg : ((prs M.length).foldl (stepN M cs.length) (m, false)).2 with
    | true =>
      rcases f3 eg with z | z
      · cases z
      · have z : m.length < _ := z
        rw [eg] at e
        obtain ⟨m', z5, z6, g1, g2, e2⟩ := ih fu (psF M.length) _ y5 y6 (.inr rfl) fg (by omega) (by omega) l5 l6
        refine ⟨m', z5, z6, g1, g2, ?_⟩
        unfold whileS
        rw [t1]
        simp only [Res.bind_ok, if_true, e, e2]
    | false =>
      obtain ⟨s1, s2⟩ := fold_stop (prs M.length) (m, false) eg
      rw [eg, s1] at e
      refine ⟨m, y5, y6, gd, s2, ?_⟩
      obtain ⟨fu, rfl⟩ : ∃ k, fu = k + 1 := ⟨fu - 1, by omega⟩
      have t2 : C_never_meeting_2 (stN M cs (psF M.length) m false y5 y6) = .ok false (stN M cs (psF M.length) m false y5 y6) := by simp [-Option.bind_some, -Option.bind_none, C_never_meeting_2, stN, truD]
      unfold whileS
      rw [t1]
      simp only [Res.bind_ok, if_true, e]
      unfold whileS
      rw [t2]
      exact Eq.trans rfl rfl
/-! ### the pairs in order -/
def stL (M : Mach) (cs : List Nat) : Rho := [.fz (mD M), .fz (.str (S cs)), .un, .un, .un, .un, .un, .un, .un, .un, .un]
theorem row_prs (M : Mach) (cs : List Nat) (q : Nat) : ∀ (l : List Nat) (n : Nat), n + l.length ≤ 10000 →
    lcLoop (tgN 8) yesT (eTup [eV 8, eV 7]) [8] (l.map I) n [.fz (mD M), .fz (.str (S cs)), .un, .un, .un, .un, .un, .fz (I q), .un, .un, .un] = .ok (l.map fun p => pD (p, q)) [.fz (mD M), .fz (.str (S cs)), .un, .un, .un, .un, .un, .fz (I q), .un, .un, .un] := fun l n hn =>
  lc_map I (fun p => pD (p, q)) l n (by omega) fun p _ => ⟨[.fz (mD M), .fz (.str (S cs)), .un, .un, .un, .un, .un, .fz (I q), .fz (I p), .un, .un], [.fz (mD M), .fz (.str (S cs)), .un, .un, .un, .un, .un, .fz (I q), .fz (I p), .un, .un], Eq.trans rfl rfl, by simp [-Option.bind_some, -Option.bind_none, pD], Eq.trans rfl rfl⟩
theorem all_prs (M : Mach) (cs : List Nat) : ∀ (m i : Nat), i + m ≤ 20 →
    lc2Loop (tgN 7) yesT (e1 rg1D (.b 7)) (tgN 8) yesT (eTup [eV 8, eV 7]) [7, 8] [8] ((List.range' i m).map I) ((prs i).map pD) (stL M cs) = .ok ((prs (i + m)).map pD) (stL M cs)
  | 0, i, _ => Eq.trans rfl rfl
  | m + 1, i, h => by
    have t : (tgN 7).f (I i) (stL M cs) = some [.fz (mD M), .fz (.str (S cs)), .un, .un, .un, .un, .un, .fz (I i), .un, .un, .un] := Eq.trans rfl rfl
    have rg := rg1_I i (by omega)
    have g1 : e1 rg1D (.b 7) [.fz (mD M), .fz (.str (S cs)), .un, .un, .un, .un, .un, .fz (I i), .un, .un, .un] = .ok ((List.range i).map I) [.fz (mD M), .fz (.str (S cs)), .un, .un, .un, .un, .un, .fz (I i), .un, .un, .un] := by simp [-Option.bind_some, -Option.bind_none, rg]
    have w1 : wipeR [.fz (mD M), .fz (.str (S cs)), .un, .un, .un, .un, .un, .fz (I i), .un, .un, .un] [8] = [.fz (mD M), .fz (.str (S cs)), .un, .un, .un, .un, .un, .fz (I i), .un, .un, .un] := Eq.trans rfl rfl
    have w2 : wipeR [.fz (mD M), .fz (.str (S cs)), .un, .un, .un, .un, .un, .fz (I i), .un, .un, .un] [7, 8] = stL M cs := Eq.trans rfl rfl
    have pl := prs_len i
    have sq := sq_le (n := i) (by omega)
    have r := row_prs M cs i (List.range i) ((prs i).map pD).length (by simp [-Option.bind_some, -Option.bind_none]; omega)
    have em : (prs i).map pD ++ ((List.range i).map fun p => pD (p, i)) = (prs (i + 1)).map pD := by
      rw [prs_succ, List.map_append, List.map_map]
      rfl
    rw [List.range'_succ, List.map_cons]
    unfold lc2Loop
    rw [t]
    simp only [yesT_ap, noEr_ok, Res.bind_ok, if_true, g1, w1, r, apR, em, w2]
    rw [all_prs M cs m (i + 1) (by omega)]
    have : i + 1 + m = i + (m + 1) := by omega
    rw [this]
/-- the pairs that never meet -/
def left (M : Mach) (m : List (Nat × Nat)) : List (Nat × Nat) := ((prs M.length).mergeSort leP).filter fun x => decide (x ∉ m)
theorem never_run {M : Mach} {cs : List Nat} (h : Ok M cs.length) (hc : cs.length ≤ 4) (hn : M.length ≤ 20) :
    ∃ m, Good M cs.length m ∧ (∀ x ∈ prs M.length, x ∈ m ∨ trig M cs.length m x = false) ∧ F_never_meeting [.fz (mD M), .fz (.str (S cs))] = .ok (.tuple ((left M m).map pD)) [.un, .un] := by
  have pl := prs_len M.length
  have sq := sq_le hn
  obtain ⟨m, z5, z6, gd, cl, ew⟩ := whileN h hc hn (prs M.length).length 1000 (psO M.length) [] .un .un (.inl rfl) ⟨.nil, fun _ h => by simp [-Option.bind_some, -Option.bind_none] at h, fun _ h => by simp [-Option.bind_some, -Option.bind_none] at h⟩ (by simp [-Option.bind_some, -Option.bind_none]) (by omega) (.inl rfl) (.inl rfl)
  refine ⟨m, gd, cl, ?_⟩
  have rg := rg1_n M.length (by omega)
  have lm : lenD (mD M) = some (.int (M.length : Int)) := by
    show some (PyData.int ((M.map rowD).length : Int)) = _
    rw [List.length_map]
  have a1 : setO 2 (lc2E (e1 rg1D (.g (e1 lenD (.b 0)))) (tgN 7) (e1 rg1D (.b 7)) (tgN 8) (eTup [(eV 8), (eV 7)]) [7, 8] [8]) (stL M cs) = .ok .nx [.fz (mD M), .fz (.str (S cs)), psO M.length, .un, .un, .un, .un, .un, .un, .un, .un] := by
    have b1 : e1 rg1D (.g (e1 lenD (.b 0))) (stL M cs) = .ok ((List.range' 0 M.length).map I) (stL M cs) := by
      simp [-Option.bind_some, -Option.bind_none, stL, lm, rg, ← List.range_eq_range']
    have b2 : wipeR (stL M cs) [7, 8] = stL M cs := Eq.trans rfl rfl
    have b3 : lc2Loop (tgN 7) yesT (e1 rg1D (.b 7)) (tgN 8) yesT (eTup [eV 8, eV 7]) [7, 8] [8] ((List.range' 0 M.length).map I) [] (stL M cs) = .ok ((prs M.length).map pD) (stL M cs) := by
      have := all_prs M cs M.length 0 (by omega)
      rw [Nat.zero_add] at this
      exact this
    rw [setO_ap]
    unfold lc2E lc2G
    rw [b1]
    simp only [Res.bind_ok, b2, b3]
    simp [-Option.bind_some, -Option.bind_none, stL, psO]
  have a2 : setO 3 (eLst []) [.fz (mD M), .fz (.str (S cs)), psO M.length, .un, .un, .un, .un, .un, .un, .un, .un] = .ok .nx [.fz (mD M), .fz (.str (S cs)), psO M.length, .ow false (.ls []), .un, .un, .un, .un, .un, .un, .un] := by simp [-Option.bind_some, -Option.bind_none]
  have a3 : setS 4 (eC (.bool true)) [.fz (mD M), .fz (.str (S cs)), psO M.length, .ow false (.ls []), .un, .un, .un, .un, .un, .un, .un] = .ok .nx (stN M cs (psO M.length) [] true .un .un) := by simp [-Option.bind_some, -Option.bind_none, stN]
  have a4 : (rtS (e1 tupD (.g (eFz (e1 sortO (.g (eFz (lcE (eIt (eV 2)) (tgN 5) (eT (e2 notInD (.b 5) (.b 3))) (eV 5) [5])))))))) (stN M cs (psF M.length) m false z5 z6) = .ok (.rt (.tuple ((left M m).map pD))) (stN M cs (psF M.length) m false .un z6) := by
    have b1 : eIt (eV 2) (stN M cs (psF M.length) m false z5 z6) = .ok ((prs M.length).map pD) (stN M cs (psF M.length) m false z5 z6) := by simp [-Option.bind_some, -Option.bind_none, stN, psF]
    have b2 : wipeR (stN M cs (psF M.length) m false z5 z6) [5] = stN M cs (psF M.length) m false .un z6 := Eq.trans rfl rfl
    have b3 : lcLoop (tgN 5) (eT (e2 notInD (.b 5) (.b 3))) (eV 5) [5] ((prs M.length).map pD) 0 (stN M cs (psF M.length) m false .un z6) = .ok (((prs M.length).filter fun x => decide (x ∉ m)).map pD) (stN M cs (psF M.length) m false .un z6) := by
      refine lc_filter pD (fun x => decide (x ∉ m)) _ 0 (by omega) fun x _ => ?_
      have np := nin_P x m
      refine ⟨stN M cs (psF M.length) m false (.fz (pD x)) z6, stN M cs (psF M.length) m false (.fz (pD x)) z6, Eq.trans rfl rfl, ?_, Eq.trans rfl rfl, stN M cs (psF M.length) m false (.fz (pD x)) z6, by simp [-Option.bind_some, -Option.bind_none, stN], Eq.trans rfl rfl⟩
      simp [-Option.bind_some, -Option.bind_none, stN, np]
    have b4 := sort_P ((prs M.length).filter fun x => decide (x ∉ m))
    rw [sort_filter] at b4
    have b5 : lcE (eIt (eV 2)) (tgN 5) (eT (e2 notInD (.b 5) (.b 3))) (eV 5) [5] (stN M cs (psF M.length) m false z5 z6) = .ok (.ls (((prs M.length).filter fun x => decide (x ∉ m)).map pD)) (stN M cs (psF M.length) m false .un z6) := by
      rw [lcE_ap, b1]
      simp only [Res.bind_ok, b2, b3]
    simp only [rtS_ap, e1_ap, opd_g, eFz_ap, b5, Res.bind_ok, fin_d, obind, b4, ofO_some]
    exact Eq.trans rfl rfl
  refine bodyF_rt (n := 11) (g := g_never_meeting) (ρ0 := stL M cs) (r := stN M cs (psF M.length) m false .un z6) rfl ?_ rfl
  unfold g_never_meeting
  simp only [seqS_ap, a1, a2, a3, ew, a4, Res.bind_ok]
end K66
end
section
set_option autoImplicit false
set_option maxRecDepth 100000
set_option Elab.async false
set_option linter.all false
namespace K66
open PySem DL L2 SX
theorem prs_nodup : ∀ n : Nat, (prs n).Nodup
  | 0 => .nil
  | n + 1 => by
    rw [prs_succ, List.nodup_append]
    refine ⟨prs_nodup n, ?_, fun a ha b hb q => ?_⟩
    · exact List.Pairwise.map (R := fun a b : Nat => a ≠ b) (S := fun a b => a ≠ b) (fun p => (p, n)) (fun a b h z => h (Prod.mk.inj z).1) (List.nodup_range (n := n))
    · subst q
      obtain ⟨p, _, rfl⟩ := List.mem_map.mp hb
      have := (mem_prs.mp ha).2
      simp [-Option.bind_some, -Option.bind_none] at this
/-! ### the law's pass -/
def stT (M : Mach) (cs : List Nat) (ps x3 : Sl) (m : List (Nat × Nat)) (t : Sl) (more : Sl) (x7 x8 : Sl) : Rho := [.fz (mD M), .fz (.str (S cs)), ps, x3, .ow false (.ls (m.map pD)), t, more, x7, x8, .un, .un, .un]
theorem ne_nil (ds : List D) (h : ∀ d ∈ ds, okN 1 d) : neD (.list ds) (.list []) = some (.bool (!ds.isEmpty)) := by
  rw [neD_ok ((ok_list h).mono (by omega)) ((ok_list (n := 0) fun d hd => by simp [-Option.bind_some, -Option.bind_none] at hd).mono (by omega))]
  cases ds <;> exact Eq.trans rfl rfl
theorem endsT {M : Mach} {cs : List Nat} (h : Ok M cs.length) (hc : cs.length ≤ 4) (ps x3 : Sl) (m : List (Nat × Nat)) (t : Sl) (more : Sl) (x : Nat × Nat) (x8 : Sl) (hx : x ∈ prs M.length) (h8 : Loose x8) :
    setO 8 (lcE (e1 rg1D (.g (e1 lenD (.b 1)))) (tgN 10) yesT (callE (F__law_behind) [.g (eV 0), .g (eV 10), .g (eV 7)]) [10]) (stT M cs ps x3 m t more (.fz (pD x)) x8) = .ok .nx (stT M cs ps x3 m t more (.fz (pD x)) (.ow false (.ls ((List.range cs.length).map fun k => pD (beh M x k))))) := by
  obtain ⟨h1, h2⟩ := mem_prs.mp hx
  have ls := len_str cs (by omega)
  have rg := rg1_n cs.length (by omega)
  have a1 : e1 rg1D (.g (e1 lenD (.b 1))) (stT M cs ps x3 m t more (.fz (pD x)) x8) = .ok ((List.range cs.length).map I) (stT M cs ps x3 m t more (.fz (pD x)) x8) := by
    unfold I at ls
    simp [-Option.bind_some, -Option.bind_none, stT, ls, rg]
  have a2 : wipeR (stT M cs ps x3 m t more (.fz (pD x)) x8) [10] = stT M cs ps x3 m t more (.fz (pD x)) x8 := Eq.trans rfl rfl
  have a3 : lcLoop (tgN 10) yesT (callE (F__law_behind) [.g (eV 0), .g (eV 10), .g (eV 7)]) [10] ((List.range cs.length).map I) 0 (stT M cs ps x3 m t more (.fz (pD x)) x8) = .ok ((List.range cs.length).map fun k => pD (beh M x k)) (stT M cs ps x3 m t more (.fz (pD x)) x8) := by
    refine lc_map I (fun k => pD (beh M x k)) _ 0 (by simp [-Option.bind_some, -Option.bind_none]; omega) fun k hk => ?_
    have bc := (beh_comp h x (by omega) h2 (List.mem_range.mp hk)).2
    refine ⟨[.fz (mD M), .fz (.str (S cs)), ps, x3, .ow false (.ls (m.map pD)), t, more, .fz (pD x), x8, .un, .fz (I k), .un], [.fz (mD M), .fz (.str (S cs)), ps, x3, .ow false (.ls (m.map pD)), t, more, .fz (pD x), x8, .un, .fz (I k), .un], Eq.trans rfl rfl, ?_, Eq.trans rfl rfl⟩
    simp [-Option.bind_some, -Option.bind_none, callR, slots, mk, bc, put]
  rw [setO_ap, lcE_ap, a1]
  simp only [Res.bind_ok, a2, a3]
  rw [sto_loose (x := x8) (Eq.trans rfl rfl) h8]
  exact Eq.trans rfl rfl
def takes (M : Mach) (c : Nat) (m : List (Nat × Nat)) (x : Nat × Nat) : Bool := decide (x ∉ m) && trig M c m x
theorem stepT_run {M : Mach} {cs : List Nat} (h : Ok M cs.length) (hc : cs.length ≤ 4) (ps x3 : Sl) (m : List (Nat × Nat)) (t : Sl) (more : List (Nat × Nat)) (x : Nat × Nat) (x8 : Sl) (hx : x ∈ prs M.length) (h8 : Loose x8) (hm : more.length < 10000) :
    ∃ x8', Loose x8' ∧ B__law_meeting_2 (stT M cs ps x3 m t (.ow false (.ls (more.map pD))) (.fz (pD x)) x8) = .ok .nx (stT M cs ps x3 m t (.ow false (.ls ((more ++ [x].filter (takes M cs.length m)).map pD))) (.fz (pD x)) x8') := by
  have b1 := endsT h hc ps x3 m t (.ow false (.ls (more.map pD))) x x8 hx h8
  have np := nin_P x m
  unfold B__law_meeting_2
  generalize hE : (List.range cs.length).map (fun k => pD (beh M x k)) = E at b1
  by_cases hxm : x ∈ m
  · refine ⟨.ow false (.ls E), .inr (.inr ⟨_, rfl⟩), ?_⟩
    have e : [x].filter (takes M cs.length m) = [] := by simp [-Option.bind_some, -Option.bind_none, takes, hxm]
    have tt : eT (e2 notInD (.b 7) (.b 4)) (stT M cs ps x3 m t (.ow false (.ls (more.map pD))) (.fz (pD x)) (.ow false (.ls E))) = .ok false (stT M cs ps x3 m t (.ow false (.ls (more.map pD))) (.fz (pD x)) (.ow false (.ls E))) := by
      simp [-Option.bind_some, -Option.bind_none, stT, np, hxm]
    rw [e, List.append_nil]
    simp only [seqS_ap, b1, Res.bind_ok, ifS_ap, eAnd_ap, tt]
    exact Eq.trans rfl rfl
  · refine ⟨.fz (.list E), .inr (.inl ⟨_, rfl⟩), ?_⟩
    have tt : eT (e2 notInD (.b 7) (.b 4)) (stT M cs ps x3 m t (.ow false (.ls (more.map pD))) (.fz (pD x)) (.ow false (.ls E))) = .ok true (stT M cs ps x3 m t (.ow false (.ls (more.map pD))) (.fz (pD x)) (.ow false (.ls E))) := by
      simp [-Option.bind_some, -Option.bind_none, stT, np, hxm]
    let f : Nat → Bool := fun k => decide ((beh M x k).1 = (beh M x k).2) || decide (beh M x k ∈ m)
    have l1 : lcLoop (tgN 11) (eOr (eT (e2 eqD (.g (e2 ixD (.b 11) (.g (eC (.int 0))))) (.g (e2 ixD (.b 11) (.g (eC (.int 1))))))) (eT (e2 inD (.b 11) (.b 4)))) (eV 11) [11] E 0 (stT M cs ps x3 m t (.ow false (.ls (more.map pD))) (.fz (pD x)) (.fz (.list E))) =
        .ok (((List.range cs.length).filter f).map fun k => pD (beh M x k)) (stT M cs ps x3 m t (.ow false (.ls (more.map pD))) (.fz (pD x)) (.fz (.list E))) := by
      have := lc_filter (t := tgN 11) (tt := eOr (eT (e2 eqD (.g (e2 ixD (.b 11) (.g (eC (.int 0))))) (.g (e2 ixD (.b 11) (.g (eC (.int 1))))))) (eT (e2 inD (.b 11) (.b 4)))) (te := eV 11) (vs := [11]) (ρ := stT M cs ps x3 m t (.ow false (.ls (more.map pD))) (.fz (pD x)) (.fz (.list E))) (fun k => pD (beh M x k)) f (List.range cs.length) 0 (by simp [-Option.bind_some, -Option.bind_none]; omega) fun k hk => ?_
      · rw [hE] at this; exact this
      · have e1 := eq_I (beh M x k).1 (beh M x k).2
        have e3 := in_P (beh M x k) m
        refine ⟨[.fz (mD M), .fz (.str (S cs)), ps, x3, .ow false (.ls (m.map pD)), t, .ow false (.ls (more.map pD)), .fz (pD x), .fz (.list E), .un, .un, .fz (pD (beh M x k))], [.fz (mD M), .fz (.str (S cs)), ps, x3, .ow false (.ls (m.map pD)), t, .ow false (.ls (more.map pD)), .fz (pD x), .fz (.list E), .un, .un, .fz (pD (beh M x k))], Eq.trans rfl rfl, ?_, Eq.trans rfl rfl, [.fz (mD M), .fz (.str (S cs)), ps, x3, .ow false (.ls (m.map pD)), t, .ow false (.ls (more.map pD)), .fz (pD x), .fz (.list E), .un, .un, .fz (pD (beh M x k))], by simp [-Option.bind_some, -Option.bind_none], Eq.trans rfl rfl⟩
        show _ = Res.ok (decide ((beh M x k).1 = (beh M x k).2) || decide (beh M x k ∈ m)) _
        generalize decide ((beh M x k).1 = (beh M x k).2) = d at e1 ⊢
        cases d <;> simp [-Option.bind_some, -Option.bind_none, ix_p0, ix_p1, e1, e3]
    have c1 : eIt (eV 8) (stT M cs ps x3 m t (.ow false (.ls (more.map pD))) (.fz (pD x)) (.ow false (.ls E))) = .ok E (stT M cs ps x3 m t (.ow false (.ls (more.map pD))) (.fz (pD x)) (.fz (.list E))) := by simp [-Option.bind_some, -Option.bind_none, stT]
    have c2 : wipeR (stT M cs ps x3 m t (.ow false (.ls (more.map pD))) (.fz (pD x)) (.fz (.list E))) [11] = stT M cs ps x3 m t (.ow false (.ls (more.map pD))) (.fz (pD x)) (.fz (.list E)) := Eq.trans rfl rfl
    have c3 : neD (.list (((List.range cs.length).filter f).map fun k => pD (beh M x k))) (.list []) = some (.bool (trig M cs.length m x)) := by
      rw [ne_nil _ fun d hd => by obtain ⟨z, _, rfl⟩ := List.mem_map.mp hd; exact ok_pD _]
      have : (!(((List.range cs.length).filter f).map fun k => pD (beh M x k)).isEmpty) = trig M cs.length m x := by
        unfold trig
        show _ = (List.range cs.length).any f
        rw [List.isEmpty_map]
        generalize List.range cs.length = l
        induction l with
        | nil => rfl
        | cons a l ih =>
          rw [List.any_cons, List.filter_cons]
          cases f a with
          | true => rfl
          | false => simpa [-Option.bind_some, -Option.bind_none] using ih
      rw [this]
    have c4 : eFz (lcE (eIt (eV 8)) (tgN 11) (eOr (eT (e2 eqD (.g (e2 ixD (.b 11) (.g (eC (.int 0))))) (.g (e2 ixD (.b 11) (.g (eC (.int 1))))))) (eT (e2 inD (.b 11) (.b 4)))) (eV 11) [11]) (stT M cs ps x3 m t (.ow false (.ls (more.map pD))) (.fz (pD x)) (.ow false (.ls E))) = .ok (.list (((List.range cs.length).filter f).map fun k => pD (beh M x k))) (stT M cs ps x3 m t (.ow false (.ls (more.map pD))) (.fz (pD x)) (.fz (.list E))) := by
      rw [eFz_ap, lcE_ap, c1]
      simp only [Res.bind_ok, c2, l1]
    have c5 : ∀ ρ : Rho, eFz (eLst []) ρ = .ok (.list []) ρ := fun ρ => by simp [-Option.bind_some, -Option.bind_none]
    have b2 : eT (e2 neD (.g (eFz (lcE (eIt (eV 8)) (tgN 11) (eOr (eT (e2 eqD (.g (e2 ixD (.b 11) (.g (eC (.int 0))))) (.g (e2 ixD (.b 11) (.g (eC (.int 1))))))) (eT (e2 inD (.b 11) (.b 4)))) (eV 11) [11]))) (.g (eFz (eLst [])))) (stT M cs ps x3 m t (.ow false (.ls (more.map pD))) (.fz (pD x)) (.ow false (.ls E))) = .ok (trig M cs.length m x) (stT M cs ps x3 m t (.ow false (.ls (more.map pD))) (.fz (pD x)) (.fz (.list E))) := by
      rw [eT_ap, e2_ap, opd_g, c4]
      simp only [Res.bind_ok, opd_g, c5, fin_d, obind, c3, ofO_some]
    simp only [seqS_ap, b1, Res.bind_ok, ifS_ap, eAnd_ap, tt, if_true, b2]
    cases q : trig M cs.length m x with
    | true =>
      have e : [x].filter (takes M cs.length m) = [x] := by simp [-Option.bind_some, -Option.bind_none, takes, hxm, q]
      have hm' : more.length < 16777216 := by omega
      rw [e]
      simp [-Option.bind_some, -Option.bind_none, stT, mutS, hm']
    | false =>
      have e : [x].filter (takes M cs.length m) = [] := by simp [-Option.bind_some, -Option.bind_none, takes, q]
      rw [e]
      simp [-Option.bind_some, -Option.bind_none]
theorem passT {M : Mach} {cs : List Nat} (h : Ok M cs.length) (hc : cs.length ≤ 4) (ps x3 : Sl) (m : List (Nat × Nat)) (t : Sl) : ∀ (l : List (Nat × Nat)) (more : List (Nat × Nat)) (x7 x8 : Sl), (∀ x ∈ l, x ∈ prs M.length) → more.length + l.length ≤ 10000 → Loose x7 → Loose x8 →
    ∃ x7' x8', Loose x7' ∧ Loose x8' ∧ loopS (tgN 7) B__law_meeting_2 (l.map pD) (stT M cs ps x3 m t (.ow false (.ls (more.map pD))) x7 x8) = .ok .nx (stT M cs ps x3 m t (.ow false (.ls ((more ++ l.filter (takes M cs.length m)).map pD))) x7' x8')
  | [], more, x7, x8, _, _, h7, h8 => ⟨x7, x8, h7, h8, by rw [List.filter_nil, List.append_nil]; exact Eq.trans rfl rfl⟩
  | x :: l, more, x7, x8, hl, hb, h7, h8 => by
    simp only [List.length_cons] at hb
    obtain ⟨y8, l8, e⟩ := stepT_run h hc ps x3 m t more x x8 (hl x (by simp [-Option.bind_some, -Option.bind_none])) h8 (by omega)
    have fl : ([x].filter (takes M cs.length m)).length ≤ 1 := List.length_filter_le _ _
    obtain ⟨z7, z8, q7, q8, e2⟩ := passT h hc ps x3 m t l (more ++ [x].filter (takes M cs.length m)) (.fz (pD x)) y8 (fun y hy => hl y (by simp [-Option.bind_some, -Option.bind_none, hy])) (by rw [List.length_append]; omega) (.inr (.inl ⟨_, rfl⟩)) l8
    refine ⟨z7, z8, q7, q8, ?_⟩
    have tg : (tgN 7).f (pD x) (stT M cs ps x3 m t (.ow false (.ls (more.map pD))) x7 x8) = some (stT M cs ps x3 m t (.ow false (.ls (more.map pD))) (.fz (pD x)) x8) := by
      show sto _ 7 _ = _
      rw [sto_loose (x := x7) (Eq.trans rfl rfl) h7]
      exact Eq.trans rfl rfl
    rw [List.map_cons]
    unfold loopS
    rw [tg]
    simp only [e, Res.bind_ok]
    rw [e2, List.append_assoc, ← List.filter_append]
    rfl
end K66
end
section
set_option autoImplicit false
set_option maxRecDepth 100000
set_option Elab.async false
set_option linter.all false
namespace K66
open PySem DL L2 SX
def more (M : Mach) (c : Nat) (m : List (Nat × Nat)) : List (Nat × Nat) := (prs M.length).filter (takes M c m)
theorem more_good {M : Mach} {c : Nat} {m : List (Nat × Nat)} (g : Good M c m) : Good M c (m ++ more M c m) := by
  have hf : ∀ y ∈ more M c m, y ∈ prs M.length ∧ y ∉ m ∧ trig M c m y = true := fun y hy => by
    obtain ⟨h1, h2⟩ := List.mem_filter.mp hy
    unfold takes at h2
    simp only [Bool.and_eq_true, decide_eq_true_eq] at h2
    exact ⟨h1, h2.1, h2.2⟩
  refine ⟨?_, fun y hy => ?_, fun y hy => ?_⟩
  · rw [List.nodup_append]
    refine ⟨g.nd, (prs_nodup _).filter _, fun a ha b hb q => ?_⟩
    subst q
    exact (hf a hb).2.1 ha
  · rcases List.mem_append.mp hy with q | q
    · exact g.sub y q
    · exact (hf y q).1
  · rcases List.mem_append.mp hy with q | q
    · exact g.snd y q
    · exact trig_meet g.snd (hf y q).2.2
theorem bodyT {M : Mach} {cs : List Nat} (h : Ok M cs.length) (hc : cs.length ≤ 4) (hn : M.length ≤ 20) (ps x3 : Sl) (hps : ps = psO M.length ∨ ps = psF M.length) (m : List (Nat × Nat)) (b : Bool) (mo x7 x8 : Sl) (gd : Good M cs.length m) (h6 : Loose mo) (h7 : Loose x7) (h8 : Loose x8) :
    ∃ x7' x8', Loose x7' ∧ Loose x8' ∧ B__law_meeting_3 (stT M cs ps x3 m (.fz (.bool b)) mo x7 x8) = .ok .nx (stT M cs (psF M.length) x3 (m ++ more M cs.length m) (.fz (.bool (!(more M cs.length m).isEmpty))) (.ow false (.ls ((more M cs.length m).map pD))) x7' x8') := by
  have pl := prs_len M.length
  have sq := sq_le hn
  have gl := good_len gd
  have ml : (more M cs.length m).length ≤ (prs M.length).length := List.length_filter_le _ _
  obtain ⟨y7, y8, l7, l8, e⟩ := passT h hc (psF M.length) x3 m (.fz (.bool b)) (prs M.length) [] x7 x8 (fun _ h => h) (by simp [-Option.bind_some, -Option.bind_none]; omega) h7 h8
  refine ⟨y7, y8, l7, l8, ?_⟩
  have a1 : setO 6 (eLst []) (stT M cs ps x3 m (.fz (.bool b)) mo x7 x8) = .ok .nx (stT M cs ps x3 m (.fz (.bool b)) (.ow false (.ls [])) x7 x8) := by
    rw [setO_ap, eLst_ap, eL_nil]
    simp only [Res.bind_ok, List.length_nil, Nat.zero_le, if_true]
    rw [sto_loose (x := mo) (Eq.trans rfl rfl) h6]
    exact Eq.trans rfl rfl
  have a2 : eIt (eV 2) (stT M cs ps x3 m (.fz (.bool b)) (.ow false (.ls [])) x7 x8) = .ok ((prs M.length).map pD) (stT M cs (psF M.length) x3 m (.fz (.bool b)) (.ow false (.ls [])) x7 x8) := by
    rcases hps with rfl | rfl <;> simp [-Option.bind_some, -Option.bind_none, stT, psO, psF]
  have e' : loopS (tgN 7) B__law_meeting_2 ((prs M.length).map pD) (stT M cs (psF M.length) x3 m (.fz (.bool b)) (.ow false (.ls [])) x7 x8) = .ok .nx (stT M cs (psF M.length) x3 m (.fz (.bool b)) (.ow false (.ls ((more M cs.length m).map pD))) y7 y8) := e
  have ct : catO (.list (m.map pD)) (.list ((more M cs.length m).map pD)) = some (.ls ((m ++ more M cs.length m).map pD)) := by
    show (if (m.map pD).length + ((more M cs.length m).map pD).length ≤ 16777216 then some (Ob.ls (m.map pD ++ (more M cs.length m).map pD)) else none) = _
    rw [if_pos (by simp [-Option.bind_some, -Option.bind_none]; omega), List.map_append]
  have a3 : setO 4 (e2 catO (.b 4) (.b 6)) (stT M cs (psF M.length) x3 m (.fz (.bool b)) (.ow false (.ls ((more M cs.length m).map pD))) y7 y8) = .ok .nx (stT M cs (psF M.length) x3 (m ++ more M cs.length m) (.fz (.bool b)) (.ow false (.ls ((more M cs.length m).map pD))) y7 y8) := by
    simp [-Option.bind_some, -Option.bind_none, stT, ct]
  have nn := ne_nil ((more M cs.length m).map pD) (ok_Ps _)
  rw [List.isEmpty_map] at nn
  have a4 : setS 5 (e2 neD (.b 6) (.g (eFz (eLst [])))) (stT M cs (psF M.length) x3 (m ++ more M cs.length m) (.fz (.bool b)) (.ow false (.ls ((more M cs.length m).map pD))) y7 y8) = .ok .nx (stT M cs (psF M.length) x3 (m ++ more M cs.length m) (.fz (.bool (!(more M cs.length m).isEmpty))) (.ow false (.ls ((more M cs.length m).map pD))) y7 y8) := by
    simp [-Option.bind_some, -Option.bind_none, stT, nn]
  unfold B__law_meeting_3
  simp only [seqS_ap, a1, Res.bind_ok, forS_ap, a2, e', a3, a4]
theorem testT (M : Mach) (cs : List Nat) (ps x3 : Sl) (m : List (Nat × Nat)) (b : Bool) (mo x7 x8 : Sl) : C__law_meeting_3 (stT M cs ps x3 m (.fz (.bool b)) mo x7 x8) = .ok b (stT M cs ps x3 m (.fz (.bool b)) mo x7 x8) := by
  simp [-Option.bind_some, -Option.bind_none, C__law_meeting_3, stT, truD]
theorem whileT {M : Mach} {cs : List Nat} (h : Ok M cs.length) (hc : cs.length ≤ 4) (hn : M.length ≤ 20) (x3 : Sl) : ∀ (d fu : Nat) (ps : Sl) (m : List (Nat × Nat)) (mo x7 x8 : Sl), (ps = psO M.length ∨ ps = psF M.length) → Good M cs.length m → (prs M.length).length ≤ m.length + d → d + 2 ≤ fu → Loose mo → Loose x7 → Loose x8 →
    ∃ m' mo' x7' x8', Good M cs.length m' ∧ (∀ x ∈ prs M.length, x ∈ m' ∨ trig M cs.length m' x = false) ∧ whileS C__law_meeting_3 B__law_meeting_3 fu (stT M cs ps x3 m (.fz (.bool true)) mo x7 x8) = .ok .nx (stT M cs (psF M.length) x3 m' (.fz (.bool false)) mo' x7' x8') ∧ Loose x7' := by
  have stop : ∀ (fu : Nat) (ps : Sl) (m : List (Nat × Nat)) (mo x7 x8 : Sl), (ps = psO M.length ∨ ps = psF M.length) → Good M cs.length m → Loose mo → Loose x7 → Loose x8 → more M cs.length m = [] →
      ∃ m' mo' x7' x8', Good M cs.length m' ∧ (∀ x ∈ prs M.length, x ∈ m' ∨ trig M cs.length m' x = false) ∧ whileS C__law_meeting_3 B__law_meeting_3 (fu + 2) (stT M cs ps x3 m (.fz (.bool true)) mo x7 x8) = .ok .nx (stT M cs (psF M.length) x3 m' (.fz (.bool false)) mo' x7' x8') ∧ Loose x7' := by
    intro fu ps m mo x7 x8 hps gd h6 h7 h8 em
    obtain ⟨y7, y8, l7, l8, e⟩ := bodyT h hc hn ps x3 hps m true mo x7 x8 gd h6 h7 h8
    rw [em, List.append_nil] at e
    refine ⟨m, .ow false (.ls []), y7, y8, gd, fun x hx => ?_, ?_, l7⟩
    · by_cases q : x ∈ m
      · exact .inl q
      · refine .inr ?_
        cases q2 : trig M cs.length m x with
        | false => rfl
        | true =>
          exfalso
          have : x ∈ more M cs.length m := List.mem_filter.mpr ⟨hx, by simp [-Option.bind_some, -Option.bind_none, takes, q, q2]⟩
          rw [em] at this
          simp [-Option.bind_some, -Option.bind_none] at this
    · unfold whileS
      rw [testT]
      simp only [Res.bind_ok, if_true, e]
      unfold whileS
      rw [show (!([] : List (Nat × Nat)).isEmpty) = false from rfl, testT]
      exact Eq.trans rfl rfl
  intro d
  induction d with
  | zero =>
    intro fu ps m mo x7 x8 hps gd hd hf h6 h7 h8
    obtain ⟨fu, rfl⟩ : ∃ k, fu = k + 2 := ⟨fu - 2, by omega⟩
    refine stop fu ps m mo x7 x8 hps gd h6 h7 h8 ?_
    have gl := good_len (more_good gd)
    rw [List.length_append] at gl
    exact List.eq_nil_of_length_eq_zero (by omega)
  | succ d ih =>
    intro fu ps m mo x7 x8 hps gd hd hf h6 h7 h8
    by_cases em : more M cs.length m = []
    · obtain ⟨fu, rfl⟩ : ∃ k, fu = k + 2 := ⟨fu - 2, by omega⟩
      exact stop fu ps m mo x7 x8 hps gd h6 h7 h8 em
    · obtain ⟨fu, rfl⟩ : ∃ k, fu = k + 1 := ⟨fu - 1, by omega⟩
      obtain ⟨y7, y8, l7, l8, e⟩ := bodyT h hc hn ps x3 hps m true mo x7 x8 gd h6 h7 h8
      have pos : 0 < (more M cs.length m).length := List.length_pos_iff.mpr em
      have ne : (!(more M cs.length m).isEmpty) = true := by
        cases q : more M cs.length m with
        | nil => exact absurd q em
        | cons _ _ => rfl
      rw [ne] at e
      obtain ⟨m', mo', z7, z8, g1, g2, e2, g3⟩ := ih fu (psF M.length) (m ++ more M cs.length m) (.ow false (.ls ((more M cs.length m).map pD))) y7 y8 (.inr rfl) (more_good gd) (by rw [List.length_append]; omega) (by omega) (.inr (.inr ⟨_, rfl⟩)) l7 l8
      refine ⟨m', mo', z7, z8, g1, g2, ?_, g3⟩
      unfold whileS
      rw [testT]
      simp only [Res.bind_ok, if_true, e, e2]
/-! ### the law's pairs in order -/
def stQ (M : Mach) (cs : List Nat) (i : Nat) (x3 : Sl) : Rho := [.fz (mD M), .fz (.str (S cs)), .ow false (.ls ((prs i).map pD)), x3, .un, .un, .un, .un, .un, .un, .un, .un]
theorem all_prsT (M : Mach) (cs : List Nat) : ∀ (m i : Nat) (x3 : Sl), i + m ≤ 20 → Loose x3 →
    ∃ x3', Loose x3' ∧ loopS (tgN 3) B__law_meeting_1 ((List.range' i m).map I) (stQ M cs i x3) = .ok .nx (stQ M cs (i + m) x3')
  | 0, i, x3, _, h3 => ⟨x3, h3, Eq.trans rfl rfl⟩
  | m + 1, i, x3, h, h3 => by
    obtain ⟨y3, l3, e⟩ := all_prsT M cs m (i + 1) (.fz (I i)) (by omega) (.inr (.inl ⟨_, rfl⟩))
    refine ⟨y3, l3, ?_⟩
    have t : (tgN 3).f (I i) (stQ M cs i x3) = some (stQ M cs i (.fz (I i))) := by
      show sto _ 3 _ = _
      rw [sto_loose (x := x3) (Eq.trans rfl rfl) h3]
      exact Eq.trans rfl rfl
    have rg := rg1_I i (by omega)
    have g1 : e1 rg1D (.b 3) (stQ M cs i (.fz (I i))) = .ok ((List.range i).map I) (stQ M cs i (.fz (I i))) := by simp [-Option.bind_some, -Option.bind_none, stQ, rg]
    have w1 : wipeR (stQ M cs i (.fz (I i))) [9] = stQ M cs i (.fz (I i)) := Eq.trans rfl rfl
    have r : lcLoop (tgN 9) yesT (eTup [(eV 9), (eV 3)]) [9] ((List.range i).map I) 0 (stQ M cs i (.fz (I i))) = .ok ((List.range i).map fun p => pD (p, i)) (stQ M cs i (.fz (I i))) := by
      refine lc_map I (fun p => pD (p, i)) _ 0 (by simp [-Option.bind_some, -Option.bind_none]; omega) fun p _ => ?_
      exact ⟨[.fz (mD M), .fz (.str (S cs)), .ow false (.ls ((prs i).map pD)), .fz (I i), .un, .un, .un, .un, .un, .fz (I p), .un, .un], [.fz (mD M), .fz (.str (S cs)), .ow false (.ls ((prs i).map pD)), .fz (I i), .un, .un, .un, .un, .un, .fz (I p), .un, .un], Eq.trans rfl rfl, by simp [-Option.bind_some, -Option.bind_none, pD], Eq.trans rfl rfl⟩
    have pl := prs_len i
    have sq := sq_le (n := i) (by omega)
    have ct : catO (.list ((prs i).map pD)) (.list ((List.range i).map fun p => pD (p, i))) = some (.ls ((prs (i + 1)).map pD)) := by
      show (if ((prs i).map pD).length + ((List.range i).map fun p => pD (p, i)).length ≤ 16777216 then some (Ob.ls ((prs i).map pD ++ (List.range i).map fun p => pD (p, i))) else none) = _
      rw [if_pos (by simp [-Option.bind_some, -Option.bind_none]; omega), prs_succ, List.map_append, List.map_map]
      rfl
    have c1 : eFz (lcE (e1 rg1D (.b 3)) (tgN 9) yesT (eTup [(eV 9), (eV 3)]) [9]) (stQ M cs i (.fz (I i))) = .ok (.list ((List.range i).map fun p => pD (p, i))) (stQ M cs i (.fz (I i))) := by
      rw [eFz_ap, lcE_ap, g1]
      simp only [Res.bind_ok, w1, r]
    have b : B__law_meeting_1 (stQ M cs i (.fz (I i))) = .ok .nx (stQ M cs (i + 1) (.fz (I i))) := by
      unfold B__law_meeting_1
      rw [setO_ap, e2_ap, opd_b]
      have p2 : pk (stQ M cs i (.fz (I i))) 2 = some (.list ((prs i).map pD)) := Eq.trans rfl rfl
      simp only [p2, ofO_some, Res.bind_ok, opd_g, c1, fin_v, fin_d, obind, ct]
      exact Eq.trans rfl rfl
    rw [List.range'_succ, List.map_cons]
    unfold loopS
    rw [t]
    simp only [b, Res.bind_ok]
    have : i + (m + 1) = i + 1 + m := by omega
    rw [this]
    exact e
theorem meeting_run {M : Mach} {cs : List Nat} (h : Ok M cs.length) (hc : cs.length ≤ 4) (hn : M.length ≤ 20) :
    ∃ m, Good M cs.length m ∧ (∀ x ∈ prs M.length, x ∈ m ∨ trig M cs.length m x = false) ∧ F__law_meeting [.fz (mD M), .fz (.str (S cs))] = .ok (.list ((left M m).map pD)) [.un, .un] := by
  have pl := prs_len M.length
  have sq := sq_le hn
  have rg := rg1_n M.length (by omega)
  have lm : lenD (mD M) = some (.int (M.length : Int)) := by
    show some (PyData.int ((M.map rowD).length : Int)) = _
    rw [List.length_map]
  obtain ⟨x3, l3, e1'⟩ := all_prsT M cs M.length 0 .un (by omega) (.inl rfl)
  obtain ⟨m, mo, z7, z8, gd, cl, ew, lz⟩ := whileT h hc hn x3 (prs M.length).length 1000 (psO M.length) [] .un .un .un (.inl rfl) ⟨.nil, fun _ h => by simp [-Option.bind_some, -Option.bind_none] at h, fun _ h => by simp [-Option.bind_some, -Option.bind_none] at h⟩ (by simp [-Option.bind_some, -Option.bind_none]) (by omega) (.inl rfl) (.inl rfl) (.inl rfl)
  refine ⟨m, gd, cl, ?_⟩
  rw [Nat.zero_add] at e1'
  have a1 : setO 2 (eLst []) [.fz (mD M), .fz (.str (S cs)), .un, .un, .un, .un, .un, .un, .un, .un, .un, .un] = .ok .nx (stQ M cs 0 .un) := by
    simp [-Option.bind_some, -Option.bind_none, stQ]
    exact Eq.trans rfl rfl
  have a2 : forS (e1 rg1D (.g (e1 lenD (.b 0)))) (tgN 3) B__law_meeting_1 (stQ M cs 0 .un) = .ok .nx (stQ M cs M.length x3) := by
    have b1 : e1 rg1D (.g (e1 lenD (.b 0))) (stQ M cs 0 .un) = .ok ((List.range' 0 M.length).map I) (stQ M cs 0 .un) := by
      simp [-Option.bind_some, -Option.bind_none, stQ, lm, rg, ← List.range_eq_range']
    rw [forS_ap, b1, Res.bind_ok]
    exact e1'
  have a3 : setO 4 (eLst []) (stQ M cs M.length x3) = .ok .nx [.fz (mD M), .fz (.str (S cs)), psO M.length, x3, .ow false (.ls []), .un, .un, .un, .un, .un, .un, .un] := by
    simp [-Option.bind_some, -Option.bind_none, stQ, psO]
  have a4 : setS 5 (eC (.bool true)) [.fz (mD M), .fz (.str (S cs)), psO M.length, x3, .ow false (.ls []), .un, .un, .un, .un, .un, .un, .un] = .ok .nx (stT M cs (psO M.length) x3 [] (.fz (.bool true)) .un .un .un) := by simp [-Option.bind_some, -Option.bind_none, stT]
  have a5 : (rtS (eFz (lcE (eIt (eFz (e1 sortO (.b 2)))) (tgN 7) (eT (e2 notInD (.b 7) (.b 4))) (eV 7) [7]))) (stT M cs (psF M.length) x3 m (.fz (.bool false)) mo z7 z8) = .ok (.rt (.list ((left M m).map pD))) (stT M cs (psF M.length) x3 m (.fz (.bool false)) mo .un z8) := by
    have st := sort_P (prs M.length)
    have b1 : eIt (eFz (e1 sortO (.b 2))) (stT M cs (psF M.length) x3 m (.fz (.bool false)) mo z7 z8) = .ok (((prs M.length).mergeSort leP).map pD) (stT M cs (psF M.length) x3 m (.fz (.bool false)) mo z7 z8) := by simp [-Option.bind_some, -Option.bind_none, stT, psF, st]
    have b2 : wipeR (stT M cs (psF M.length) x3 m (.fz (.bool false)) mo z7 z8) [7] = stT M cs (psF M.length) x3 m (.fz (.bool false)) mo .un z8 := Eq.trans rfl rfl
    have b3 : lcLoop (tgN 7) (eT (e2 notInD (.b 7) (.b 4))) (eV 7) [7] (((prs M.length).mergeSort leP).map pD) 0 (stT M cs (psF M.length) x3 m (.fz (.bool false)) mo .un z8) = .ok ((left M m).map pD) (stT M cs (psF M.length) x3 m (.fz (.bool false)) mo .un z8) := by
      refine lc_filter pD (fun x => decide (x ∉ m)) _ 0 (by rw [List.length_mergeSort]; omega) fun x _ => ?_
      have np := nin_P x m
      refine ⟨stT M cs (psF M.length) x3 m (.fz (.bool false)) mo (.fz (pD x)) z8, stT M cs (psF M.length) x3 m (.fz (.bool false)) mo (.fz (pD x)) z8, Eq.trans rfl rfl, ?_, Eq.trans rfl rfl, stT M cs (psF M.length) x3 m (.fz (.bool false)) mo (.fz (pD x)) z8, by simp [-Option.bind_some, -Option.bind_none, stT], Eq.trans rfl rfl⟩
      simp [-Option.bind_some, -Option.bind_none, stT, np]
    rw [rtS_ap, eFz_ap, lcE_ap, b1]
    simp only [Res.bind_ok, b2, b3]
  refine bodyF_rt (n := 12) (g := g__law_meeting) (ρ0 := [.fz (mD M), .fz (.str (S cs)), .un, .un, .un, .un, .un, .un, .un, .un, .un, .un]) (r := stT M cs (psF M.length) x3 m (.fz (.bool false)) mo .un z8) rfl ?_ rfl
  unfold g__law_meeting
  simp only [seqS_ap, a1, a2, a3, a4, ew, a5, Res.bind_ok]
/-- both find the same pairs -/
theorem left_same {M : Mach} {c : Nat} (h : Ok M c) {m1 m2 : List (Nat × Nat)} (g1 : Good M c m1) (c1 : ∀ x ∈ prs M.length, x ∈ m1 ∨ trig M c m1 x = false) (g2 : Good M c m2) (c2 : ∀ x ∈ prs M.length, x ∈ m2 ∨ trig M c m2 x = false) : left M m1 = left M m2 := by
  unfold left
  refine List.filter_congr fun x hx => ?_
  have hx : x ∈ prs M.length := (List.mergeSort_perm _ _).mem_iff.mp hx
  refine decide_eq_decide.mpr ?_
  constructor
  · exact fun q z => q (closed_meet h c1 (g2.snd x z) hx)
  · exact fun q z => q (closed_meet h c2 (g1.snd x z) hx)
end K66
end
section
set_option autoImplicit false
set_option maxRecDepth 100000
set_option Elab.async false
set_option linter.all false
namespace K66
open PySem DL L2 SX
/-! ### sets of lines -/
def nset (l : List Nat) : List Nat := (usort (l.map fun k : Nat => (k : Int))).map Int.toNat
theorem usort_nn (l : List Nat) : ∀ x ∈ usort (l.map fun k : Nat => (k : Int)), 0 ≤ x := fun x hx => by
  obtain ⟨k, _, rfl⟩ := List.mem_map.mp (mem_usort.mp hx)
  omega
theorem nset_I (l : List Nat) : (nset l).map I = (usort (l.map fun k : Nat => (k : Int))).map PyData.int := by
  unfold nset
  rw [List.map_map]
  refine List.map_congr_left fun x hx => ?_
  have := usort_nn l x hx
  show PyData.int ((x.toNat : Nat) : Int) = _
  rw [Int.toNat_of_nonneg this]
theorem mem_nset {l : List Nat} {x : Nat} : x ∈ nset l ↔ x ∈ l := by
  unfold nset
  rw [List.mem_map]
  constructor
  · rintro ⟨y, h1, rfl⟩
    obtain ⟨k, h2, rfl⟩ := List.mem_map.mp (mem_usort.mp h1)
    simpa [-Option.bind_some, -Option.bind_none] using h2
  · intro h
    exact ⟨(x : Int), mem_usort.mpr (List.mem_map.mpr ⟨x, h, rfl⟩), by simp [-Option.bind_some, -Option.bind_none]⟩
theorem nset_lt (l : List Nat) : (nset l).Pairwise (· < ·) := by
  unfold nset
  rw [List.pairwise_map]
  refine (usort_lt _).imp_of_mem fun {a b} ha hb h => ?_
  have := usort_nn l a ha
  have := usort_nn l b hb
  omega
theorem nset_nd (l : List Nat) : (nset l).Nodup := (nset_lt l).imp fun h => by omega
theorem intsOf_I : ∀ l : List Nat, intsOf (l.map I) = some (l.map fun k : Nat => (k : Int))
  | [] => rfl
  | k :: l => by
    show (intsOf (l.map I)).map ((k : Int) :: ·) = _
    rw [intsOf_I l]
    rfl
theorem sortset_I (l : List Nat) (h : l.length < 64) : sortsetO (.list (l.map I)) = some (.ls ((nset l).map I)) := by
  show ((intsOf (l.map I)).bind fun ns => if ns.length < 64 then some (Ob.ls ((usort ns).map .int)) else none) = _
  rw [intsOf_I, nset_I]
  show (if (l.map fun k : Nat => (k : Int)).length < 64 then _ else _) = _
  rw [if_pos (by rw [List.length_map]; exact h)]
theorem nset_len (l : List Nat) : (nset l).length ≤ l.length := nodup_sub_len (nset_nd l) fun x hx => mem_nset.mp hx
theorem nlt_ext {a b : List Nat} (ha : a.Pairwise (· < ·)) (hb : b.Pairwise (· < ·)) (h : ∀ k, k ∈ a ↔ k ∈ b) : a = b := by
  have z := lt_ext (a := a.map fun k : Nat => (k : Int)) (b := b.map fun k : Nat => (k : Int)) (by rw [List.pairwise_map]; exact ha.imp fun h => by omega) (by rw [List.pairwise_map]; exact hb.imp fun h => by omega) fun k => by
    simp only [List.mem_map]
    constructor
    · rintro ⟨x, h1, h2⟩; exact ⟨x, (h x).mp h1, h2⟩
    · rintro ⟨x, h1, h2⟩; exact ⟨x, (h x).mpr h1, h2⟩
  have inj : ∀ {a b : List Nat}, a.map (fun k : Nat => (k : Int)) = b.map (fun k : Nat => (k : Int)) → a = b := fun {a b} e => by
    have := congrArg (List.map Int.toNat) e
    rw [List.map_map, List.map_map] at this
    have i : (Int.toNat ∘ fun k : Nat => (k : Int)) = id := funext fun k => by simp [-Option.bind_some, -Option.bind_none]
    rw [i, List.map_id, List.map_id] at this
    exact this
  exact inj z
def img (M : Mach) (k : Nat) (T : List Nat) : List Nat := nset (T.map fun p => nxt M p k)
def imgs (M : Mach) (w : List Nat) : List Nat := w.foldl (fun T k => img M k T) (List.range M.length)
/-- a set of lines -/
def IsSet (n : Nat) (T : List Nat) : Prop := T.Pairwise (· < ·) ∧ T ≠ [] ∧ ∀ x ∈ T, x < n
theorem img_set {M : Mach} {c k : Nat} (h : Ok M c) (hk : k < c) {T : List Nat} (hT : IsSet M.length T) : IsSet M.length (img M k T) := by
  refine ⟨nset_lt _, fun e => ?_, fun x hx => ?_⟩
  · obtain ⟨p, hp⟩ := List.exists_mem_of_ne_nil _ hT.2.1
    have : nxt M p k ∈ img M k T := mem_nset.mpr (List.mem_map.mpr ⟨p, hp, rfl⟩)
    rw [e] at this
    simp [-Option.bind_some, -Option.bind_none] at this
  · obtain ⟨p, hp, rfl⟩ := List.mem_map.mp (mem_nset.mp hx)
    exact nxt_lt h (hT.2.2 p hp) hk
theorem img_len (M : Mach) (k : Nat) (T : List Nat) : (img M k T).length ≤ T.length := by
  have := nset_len (T.map fun p => nxt M p k)
  rw [List.length_map] at this
  exact this
theorem img_less {M : Mach} {k : Nat} {T : List Nat} {p q : Nat} (hp : p ∈ T) (hq : q ∈ T) (hne : p ≠ q) (e : nxt M p k = nxt M q k) : (img M k T).length < T.length := by
  have h := nodup_sub_len (l := img M k T) (m := (T.erase q).map fun p => nxt M p k) (nset_nd _) fun x hx => by
    obtain ⟨r, hr, rfl⟩ := List.mem_map.mp (mem_nset.mp hx)
    by_cases z : r = q
    · subst z
      exact List.mem_map.mpr ⟨p, (List.mem_erase_of_ne hne).mpr hp, e⟩
    · exact List.mem_map.mpr ⟨r, (List.mem_erase_of_ne z).mpr hr, rfl⟩
  rw [List.length_map, List.length_erase_of_mem hq] at h
  have := List.length_pos_of_mem hq
  omega
theorem range_set {n : Nat} (h : 0 < n) : IsSet n (List.range n) := by
  refine ⟨List.pairwise_lt_range, fun e => ?_, fun x hx => List.mem_range.mp hx⟩
  have := congrArg List.length e
  simp [-Option.bind_some, -Option.bind_none] at this
  omega
/-! ### how many sets there are -/
def subs : Nat → List (List Nat)
  | 0 => [[]]
  | n + 1 => subs n ++ (subs n).map (· ++ [n])
theorem subs_len : ∀ n : Nat, (subs n).length = 2 ^ n
  | 0 => rfl
  | n + 1 => by
    show (subs n ++ (subs n).map (· ++ [n])).length = _
    rw [List.length_append, List.length_map, subs_len n, Nat.pow_succ]
    omega
theorem mem_subs : ∀ (n : Nat) (T : List Nat), T.Pairwise (· < ·) → (∀ x ∈ T, x < n) → T ∈ subs n
  | 0, T, _, h => by
    cases T with
    | nil => simp [-Option.bind_some, -Option.bind_none, subs]
    | cons x _ => exact absurd (h x (by simp [-Option.bind_some, -Option.bind_none])) (by omega)
  | n + 1, T, hs, h => by
    show T ∈ subs n ++ (subs n).map (· ++ [n])
    rw [List.mem_append]
    by_cases hn : n ∈ T
    · right
      obtain ⟨A, B, rfl⟩ := List.append_of_mem hn
      rw [List.pairwise_append] at hs
      obtain ⟨s1, s2, s3⟩ := hs
      obtain ⟨s4, s5⟩ := List.pairwise_cons.mp s2
      have hB : B = [] := by
        cases B with
        | nil => rfl
        | cons y B =>
          have a := s4 y (by simp [-Option.bind_some, -Option.bind_none])
          have b := h y (by simp [-Option.bind_some, -Option.bind_none])
          omega
      subst hB
      exact List.mem_map.mpr ⟨A, mem_subs n A s1 fun x hx => s3 x hx n (by simp [-Option.bind_some, -Option.bind_none]), rfl⟩
    · left
      refine mem_subs n T hs fun x hx => ?_
      have := h x hx
      have : x ≠ n := fun e => hn (e ▸ hx)
      omega
/-! ### the search -/
abbrev Que := List (List Nat × List Nat)
def outs (M : Mach) (c : Nat) (T w : List Nat) : Que := (List.range c).map fun k => (img M k T, w ++ [k])
inductive Find (M : Mach) (c : Nat) : Nat → List (List Nat) → Que → List Nat → Prop
  | hit {h : Nat} {met : List (List Nat)} {Q : Que} {T w : List Nat} : T.length = 1 → Find M c (h + 1) met ((T, w) :: Q) w
  | skip {h : Nat} {met : List (List Nat)} {Q : Que} {T w r : List Nat} : T.length ≠ 1 → T ∈ met → Find M c h met Q r → Find M c (h + 1) met ((T, w) :: Q) r
  | go {h : Nat} {met : List (List Nat)} {Q : Que} {T w r : List Nat} : T.length ≠ 1 → T ∉ met → Find M c h (met ++ [T]) (Q ++ outs M c T w) r → Find M c (h + 1) met ((T, w) :: Q) r
structure Inv (M : Mach) (c : Nat) (met : List (List Nat)) (Q : Que) : Prop where
  nd : met.Nodup
  set : ∀ T ∈ met, IsSet M.length T ∧ T.length ≠ 1
  que : ∀ x ∈ Q, x.1 = imgs M x.2 ∧ IsSet M.length x.1 ∧ (∀ k ∈ x.2, k < c) ∧ x.2.length ≤ met.length
  clo : ∀ T ∈ met, ∀ k, k < c → img M k T ∈ met ∨ ∃ w, (img M k T, w) ∈ Q
  st : List.range M.length ∈ met ∨ ∃ w, (List.range M.length, w) ∈ Q
theorem inv_len {M : Mach} {c : Nat} {met : List (List Nat)} {Q : Que} (h : Inv M c met Q) : met.length ≤ 2 ^ M.length := by
  rw [← subs_len]
  exact nodup_sub_len h.nd fun T hT => mem_subs _ T (h.set T hT).1.1 (h.set T hT).1.2.2
theorem less_of {M : Mach} {c : Nat} (hM : Ok M c) {met : List (List Nat)} (set : ∀ T ∈ met, IsSet M.length T) (clo : ∀ T ∈ met, ∀ k, k < c → img M k T ∈ met) {x : Nat × Nat} (h : Meet M c x) : ∀ T ∈ met, x.1 ∈ T → x.2 ∈ T → x.1 ≠ x.2 → ∃ T' ∈ met, T'.length < T.length := by
  induction h with
  | @now x k hk he =>
    intro T hT h1 h2 hne
    refine ⟨img M k T, clo T hT k hk, img_less h1 h2 hne ?_⟩
    unfold beh sort2 at he
    split at he
    · exact he
    · exact he.symm
  | @step x k hk _ ih =>
    intro T hT h1 h2 hne
    have m1 : nxt M x.1 k ∈ img M k T := mem_nset.mpr (List.mem_map.mpr ⟨_, h1, rfl⟩)
    have m2 : nxt M x.2 k ∈ img M k T := mem_nset.mpr (List.mem_map.mpr ⟨_, h2, rfl⟩)
    by_cases e : nxt M x.1 k = nxt M x.2 k
    · exact ⟨img M k T, clo T hT k hk, img_less h1 h2 hne e⟩
    · have b : (beh M x k).1 ∈ img M k T ∧ (beh M x k).2 ∈ img M k T ∧ (beh M x k).1 ≠ (beh M x k).2 := by
        unfold beh sort2
        split
        · exact ⟨m1, m2, e⟩
        · exact ⟨m2, m1, fun z => e z.symm⟩
      obtain ⟨T', h3, h4⟩ := ih (img M k T) (clo T hT k hk) b.1 b.2.1 b.2.2
      have := img_len M k T
      exact ⟨T', h3, by omega⟩
theorem no_end {M : Mach} {c : Nat} (hM : Ok M c) (all : ∀ x ∈ prs M.length, Meet M c x) {met : List (List Nat)} (set : ∀ T ∈ met, IsSet M.length T ∧ T.length ≠ 1) (clo : ∀ T ∈ met, ∀ k, k < c → img M k T ∈ met) : ∀ (n : Nat) (T : List Nat), T ∈ met → T.length ≤ n → False := by
  intro n
  induction n with
  | zero =>
    intro T hT hl
    exact (set T hT).1.2.1 (List.eq_nil_of_length_eq_zero (by omega))
  | succ n ih =>
    intro T hT hl
    obtain ⟨⟨h1, h2, h3⟩, h4⟩ := set T hT
    match T, h1, h2, h3, h4, hT, hl with
    | [], _, h2, _, _, _, _ => exact h2 rfl
    | [a], _, _, _, h4, _, _ => exact h4 rfl
    | a :: b :: T, h1, _, h3, _, hT, hl =>
      have ab : a < b := (List.pairwise_cons.mp h1).1 b (by simp [-Option.bind_some, -Option.bind_none])
      have hb := h3 b (by simp [-Option.bind_some, -Option.bind_none])
      obtain ⟨T', t1, t2⟩ := less_of hM (fun T hT => (set T hT).1) clo (all (a, b) (mem_prs.mpr ⟨ab, hb⟩)) _ hT (show a ∈ _ by simp [-Option.bind_some, -Option.bind_none]) (show b ∈ _ by simp [-Option.bind_some, -Option.bind_none]) (show a ≠ b by omega)
      exact ih T' t1 (by omega)
theorem imgs_snoc (M : Mach) (w : List Nat) (k : Nat) : imgs M (w ++ [k]) = img M k (imgs M w) := by
  unfold imgs
  rw [List.foldl_append]
  rfl
theorem find_run {M : Mach} {c : Nat} (hM : Ok M c) (hc : c ≤ 4) (all : ∀ x ∈ prs M.length, Meet M c x) : ∀ (d : Nat) (met : List (List Nat)) (Q : Que), Inv M c met Q → 5 * (2 ^ M.length - met.length) + Q.length ≤ d → ∃ h r, h ≤ d + 1 ∧ Find M c h met Q r ∧ (imgs M r).length = 1 ∧ (∀ k ∈ r, k < c) ∧ r.length ≤ 2 ^ M.length := by
  intro d
  induction d with
  | zero =>
    intro met Q I hd
    have il := inv_len I
    have : Q = [] := List.eq_nil_of_length_eq_zero (by omega)
    subst this
    exfalso
    have clo : ∀ T ∈ met, ∀ k, k < c → img M k T ∈ met := fun T hT k hk => by
      rcases I.clo T hT k hk with z | ⟨w, z⟩
      · exact z
      · simp [-Option.bind_some, -Option.bind_none] at z
    have st : List.range M.length ∈ met := by
      rcases I.st with z | ⟨w, z⟩
      · exact z
      · simp [-Option.bind_some, -Option.bind_none] at z
    exact no_end hM all I.set clo _ _ st (Nat.le_refl _)
  | succ d ih =>
    intro met Q I hd
    have il := inv_len I
    match Q, I, hd with
    | [], I, hd =>
      exfalso
      have clo : ∀ T ∈ met, ∀ k, k < c → img M k T ∈ met := fun T hT k hk => by
        rcases I.clo T hT k hk with z | ⟨w, z⟩
        · exact z
        · simp [-Option.bind_some, -Option.bind_none] at z
      have st : List.range M.length ∈ met := by
        rcases I.st with z | ⟨w, z⟩
        · exact z
        · simp [-Option.bind_some, -Option.bind_none] at z
      exact no_end hM all I.set clo _ _ st (Nat.le_refl _)
    | (T, w) :: Q, I, hd =>
      simp only [List.length_cons] at hd
      obtain ⟨q1, q2, q3, q4⟩ := I.que (T, w) (by simp [-Option.bind_some, -Option.bind_none])
      simp only at q1 q2 q3 q4
      by_cases h1 : T.length = 1
      · exact ⟨1, w, by omega, .hit h1, by rw [← q1]; exact h1, q3, by omega⟩
      · by_cases h2 : T ∈ met
        · have I' : Inv M c met Q := by
            refine ⟨I.nd, I.set, fun x hx => I.que x (by simp [-Option.bind_some, -Option.bind_none, hx]), fun T' hT k hk => ?_, ?_⟩
            · rcases I.clo T' hT k hk with z | ⟨v, z⟩
              · exact .inl z
              · rcases List.mem_cons.mp z with z | z
                · exact .inl (by rw [(Prod.mk.inj z).1]; exact h2)
                · exact .inr ⟨v, z⟩
            · rcases I.st with z | ⟨v, z⟩
              · exact .inl z
              · rcases List.mem_cons.mp z with z | z
                · exact .inl (by rw [(Prod.mk.inj z).1]; exact h2)
                · exact .inr ⟨v, z⟩
          obtain ⟨h, r, a, b, e⟩ := ih met Q I' (by omega)
          exact ⟨h + 1, r, by omega, .skip h1 h2 b, e⟩
        · have ol : (outs M c T w).length = c := by unfold outs; simp [-Option.bind_some, -Option.bind_none]
          have I' : Inv M c (met ++ [T]) (Q ++ outs M c T w) := by
            refine ⟨?_, fun T' hT' => ?_, fun x hx => ?_, fun T' hT' k hk => ?_, ?_⟩
            · rw [List.nodup_append]
              refine ⟨I.nd, by simp [-Option.bind_some, -Option.bind_none], fun a ha b hb z => ?_⟩
              rw [List.mem_singleton.mp hb] at z
              exact h2 (z ▸ ha)
            · rcases List.mem_append.mp hT' with z | z
              · exact I.set T' z
              · rw [List.mem_singleton.mp z]; exact ⟨q2, h1⟩
            · rw [List.length_append, List.length_singleton]
              rcases List.mem_append.mp hx with z | z
              · obtain ⟨a, b, e, f⟩ := I.que x (by simp [-Option.bind_some, -Option.bind_none, z])
                exact ⟨a, b, e, by omega⟩
              · unfold outs at z
                obtain ⟨k, hk, rfl⟩ := List.mem_map.mp z
                have hk := List.mem_range.mp hk
                refine ⟨by rw [imgs_snoc, ← q1], img_set hM hk q2, fun j hj => ?_, by rw [List.length_append, List.length_singleton]; omega⟩
                rcases List.mem_append.mp hj with y | y
                · exact q3 j y
                · rw [List.mem_singleton.mp y]; exact hk
            · rcases List.mem_append.mp hT' with z | z
              · rcases I.clo T' z k hk with y | ⟨v, y⟩
                · exact .inl (List.mem_append_left _ y)
                · rcases List.mem_cons.mp y with y | y
                  · exact .inl (by rw [(Prod.mk.inj y).1]; simp [-Option.bind_some, -Option.bind_none])
                  · exact .inr ⟨v, List.mem_append_left _ y⟩
              · rw [List.mem_singleton.mp z]
                exact .inr ⟨w ++ [k], List.mem_append_right _ (List.mem_map.mpr ⟨k, List.mem_range.mpr hk, rfl⟩)⟩
            · rcases I.st with y | ⟨v, y⟩
              · exact .inl (List.mem_append_left _ y)
              · rcases List.mem_cons.mp y with y | y
                · exact .inl (by rw [(Prod.mk.inj y).1]; simp [-Option.bind_some, -Option.bind_none])
                · exact .inr ⟨v, List.mem_append_left _ y⟩
          have il' := inv_len I'
          rw [List.length_append, List.length_singleton] at il'
          obtain ⟨h, r, a, b, e⟩ := ih (met ++ [T]) (Q ++ outs M c T w) I' (by rw [List.length_append, List.length_append, List.length_singleton, ol]; omega)
          exact ⟨h + 1, r, by omega, .go h1 h2 b, e⟩
end K66
end
section
set_option autoImplicit false
set_option maxRecDepth 100000
set_option Elab.async false
set_option linter.all false
namespace K66
open PySem DL L2 SX
/-! ### the queue without what is known -/
def firsts : List (List Nat) → Que → Que
  | _, [] => []
  | acc, x :: Q => if x.1 ∈ acc then firsts acc Q else x :: firsts (x.1 :: acc) Q
theorem firsts_congr : ∀ (Q : Que) {a b : List (List Nat)}, (∀ T, T ∈ a ↔ T ∈ b) → firsts a Q = firsts b Q
  | [], _, _, _ => rfl
  | x :: Q, a, b, h => by
    unfold firsts
    by_cases c : x.1 ∈ a
    · rw [if_pos c, if_pos ((h _).mp c)]; exact firsts_congr Q h
    · rw [if_neg c, if_neg fun z => c ((h _).mpr z)]
      rw [firsts_congr Q (a := x.1 :: a) (b := x.1 :: b) fun T => by simp [-Option.bind_some, -Option.bind_none, h T]]
theorem firsts_app : ∀ (A B : Que) (acc : List (List Nat)), firsts acc (A ++ B) = firsts acc A ++ firsts (A.map Prod.fst ++ acc) B
  | [], B, acc => rfl
  | x :: A, B, acc => by
    rw [List.cons_append]
    show (if x.1 ∈ acc then firsts acc (A ++ B) else x :: firsts (x.1 :: acc) (A ++ B)) = (if x.1 ∈ acc then firsts acc A else x :: firsts (x.1 :: acc) A) ++ _
    by_cases c : x.1 ∈ acc
    · rw [if_pos c, if_pos c, firsts_app A B acc]
      congr 1
      refine firsts_congr B fun T => ?_
      simp only [List.map_cons, List.cons_append, List.mem_cons, List.mem_append]
      constructor
      · rintro (h | h) <;> simp [-Option.bind_some, -Option.bind_none, h]
      · rintro (h | h | h)
        · subst h; exact .inr c
        · exact .inl h
        · exact .inr h
    · rw [if_neg c, if_neg c, firsts_app A B (x.1 :: acc), List.cons_append]
      congr 2
      refine firsts_congr B fun T => ?_
      simp only [List.map_cons, List.cons_append, List.mem_cons, List.mem_append]
      constructor
      · rintro (h | h | h) <;> simp [-Option.bind_some, -Option.bind_none, h]
      · rintro (h | h | h) <;> simp [-Option.bind_some, -Option.bind_none, h]
/-! ### the program's rows -/
abbrev Rws := List (List Nat × List Nat)
def lkR : Rws → List Nat → Option (List Nat)
  | [], _ => none
  | (T, w) :: R, U => if T = U then some w else lkR R U
theorem lkR_app : ∀ (R R' : Rws) (U : List Nat), lkR (R ++ R') U = match lkR R U with | some w => some w | none => lkR R' U
  | [], R', U => rfl
  | (T, w) :: R, R', U => by
    show (if T = U then some w else lkR (R ++ R') U) = match (if T = U then some w else lkR R U) with | some w => some w | none => lkR R' U
    by_cases h : T = U
    · rw [if_pos h, if_pos h]
    · rw [if_neg h, if_neg h]; exact lkR_app R R' U
structure RelP (met : List (List Nat)) (Q : Que) (R : Rws) (L : List (List Nat)) : Prop where
  left : L = (firsts met Q).map Prod.fst
  word : ∀ x ∈ firsts met Q, lkR R x.1 = some x.2
  has : ∀ T, (lkR R T).isSome = true ↔ T ∈ met ∨ T ∈ Q.map Prod.fst
def push (s : Rws × List (List Nat)) (x : List Nat × List Nat) : Rws × List (List Nat) := if (lkR s.1 x.1).isSome = true then s else (s.1 ++ [x], s.2 ++ [x.1])
theorem push_rel {met : List (List Nat)} {Q : Que} {s : Rws × List (List Nat)} (h : RelP met Q s.1 s.2) (x : List Nat × List Nat) : RelP met (Q ++ [x]) (push s x).1 (push s x).2 := by
  obtain ⟨h1, h2, h3⟩ := h
  unfold push
  have fa := firsts_app Q [x] met
  by_cases c : (lkR s.1 x.1).isSome = true
  · rw [if_pos c]
    have m : x.1 ∈ Q.map Prod.fst ++ met := by
      rcases (h3 x.1).mp c with z | z <;> simp [-Option.bind_some, -Option.bind_none, z]
    have e : firsts (Q.map Prod.fst ++ met) [x] = [] := by
      show (if x.1 ∈ Q.map Prod.fst ++ met then _ else _) = _
      rw [if_pos m]
      rfl
    rw [e, List.append_nil] at fa
    refine ⟨by rw [fa]; exact h1, by rw [fa]; exact h2, fun T => ?_⟩
    rw [h3 T, List.map_append, List.mem_append]
    constructor
    · rintro (z | z)
      · exact .inl z
      · exact .inr (.inl z)
    · rintro (z | z | z)
      · exact .inl z
      · exact .inr z
      · have : T = x.1 := by simpa [-Option.bind_some, -Option.bind_none] using z
        subst this
        exact (h3 _).mp c
  · rw [if_neg c]
    have c' : lkR s.1 x.1 = none := by
      cases q : lkR s.1 x.1 with
      | none => rfl
      | some w => rw [q] at c; exact absurd rfl c
    have m : ¬ x.1 ∈ Q.map Prod.fst ++ met := fun z => c ((h3 x.1).mpr (by rcases List.mem_append.mp z with z | z <;> simp [-Option.bind_some, -Option.bind_none, z]))
    have e : firsts (Q.map Prod.fst ++ met) [x] = [x] := by
      show (if x.1 ∈ Q.map Prod.fst ++ met then _ else _) = _
      rw [if_neg m]
      rfl
    rw [e] at fa
    refine ⟨?_, fun y hy => ?_, fun T => ?_⟩
    · rw [fa, List.map_append, ← h1]
      rfl
    · rw [fa] at hy
      rw [lkR_app]
      rcases List.mem_append.mp hy with z | z
      · rw [h2 y z]
      · rw [List.mem_singleton.mp z, c']
        show (if x.1 = x.1 then some x.2 else _) = _
        rw [if_pos rfl]
    · rw [lkR_app, List.map_append, List.mem_append]
      have key : ∀ U, (lkR [x] U).isSome = true ↔ U = x.1 := fun U => by
        show (if x.1 = U then some x.2 else none).isSome = true ↔ _
        by_cases q : x.1 = U
        · rw [if_pos q]; simp [-Option.bind_some, -Option.bind_none, q]
        · rw [if_neg q]; simp [-Option.bind_some, -Option.bind_none]; exact fun z => q z.symm
      cases q : lkR s.1 T with
      | some w =>
        have : (lkR s.1 T).isSome = true := by rw [q]; rfl
        have := (h3 T).mp this
        constructor
        · intro _
          rcases this with z | z
          · exact .inl z
          · exact .inr (.inl z)
        · intro _; rfl
      | none =>
        have n : ¬ (T ∈ met ∨ T ∈ Q.map Prod.fst) := fun z => by
          have := (h3 T).mpr z
          rw [q] at this
          cases this
        simp only
        rw [key]
        constructor
        · intro z; exact .inr (.inr (by simp [-Option.bind_some, -Option.bind_none, z]))
        · rintro (z | z | z)
          · exact absurd (.inl z) n
          · exact absurd (.inr z) n
          · simpa [-Option.bind_some, -Option.bind_none] using z
theorem pushes_rel {met : List (List Nat)} : ∀ (O Q : Que) (s : Rws × List (List Nat)), RelP met Q s.1 s.2 → RelP met (Q ++ O) (O.foldl push s).1 (O.foldl push s).2
  | [], Q, s, h => by rw [List.append_nil]; exact h
  | x :: O, Q, s, h => by
    have := pushes_rel O (Q ++ [x]) (push s x) (push_rel h x)
    rw [List.append_assoc] at this
    exact this
theorem push_len (s : Rws × List (List Nat)) (x : List Nat × List Nat) : (push s x).1.length ≤ s.1.length + 1 ∧ (push s x).2.length ≤ s.2.length + 1 := by
  unfold push
  split <;> simp [-Option.bind_some, -Option.bind_none]
theorem pushes_len : ∀ (O : Que) (s : Rws × List (List Nat)), (O.foldl push s).1.length ≤ s.1.length + O.length ∧ (O.foldl push s).2.length ≤ s.2.length + O.length
  | [], s => ⟨Nat.le_refl _, Nat.le_refl _⟩
  | x :: O, s => by
    have h1 := pushes_len O (push s x)
    have h2 := push_len s x
    rw [List.foldl_cons, List.length_cons]
    omega
/-! ### the program's search -/
def kS (T : List Nat) : List Key := T.map fun p : Nat => Sum.inl (p : Int)
def cAt (cs : List Nat) (k : Nat) : Nat := cs.getD k 0
def setD (T : List Nat) : D := .tuple (T.map I)
def wd (cs w : List Nat) : List Nat := w.map (cAt cs)
def entD (cs : List Nat) (x : List Nat × List Nat) : List Key × D := (kS x.1, .str (S (wd cs x.2)))
theorem kS_inj {A B : List Nat} (h : kS A = kS B) : A = B := by
  unfold kS at h
  refine List.map_inj_right (f := fun p : Nat => (Sum.inl (p : Int) : Key)) (fun x y e => ?_) |>.mp h
  have := Sum.inl.inj e
  omega
theorem toKs_I : ∀ T : List Nat, toKs (T.map I) = some (kS T)
  | [] => rfl
  | p :: T => by
    show ((toK (I p)).bind fun k => (toKs (T.map I)).map (k :: ·)) = _
    rw [toKs_I T]
    rfl
theorem lk_ent (cs : List Nat) : ∀ (R : Rws) (U : List Nat), lk (R.map (entD cs)) (kS U) = (lkR R U).map fun w => PyData.str (S (wd cs w))
  | [], _ => rfl
  | (T, w) :: R, U => by
    show (if kS T = kS U then some (PyData.str (S (wd cs w))) else lk (R.map (entD cs)) (kS U)) = (if T = U then some w else lkR R U).map _
    by_cases h : T = U
    · rw [if_pos h, if_pos (by rw [h])]
      rfl
    · rw [if_neg h, if_neg fun z => h (kS_inj z)]
      exact lk_ent cs R U
theorem dget_ent (cs : List Nat) (R : Rws) (T : List Nat) : dGet (.dt (R.map (entD cs))) (setD T) = some ((lkR R T).map fun w => PyData.str (S (wd cs w))) := by
  show (toKs (T.map I)).map (fun ks => lk (R.map (entD cs)) ks) = _
  rw [toKs_I]
  show some (lk _ _) = _
  rw [lk_ent]
theorem dput_ent (cs : List Nat) (R : Rws) (T w : List Nat) (h : lkR R T = none) (hl : R.length < 16777216) : dPut (.dt (R.map (entD cs))) (setD T) (.str (S (wd cs w))) = some (.dt ((R ++ [(T, w)]).map (entD cs))) := by
  show ((toKs (T.map I)).bind fun ks => if (R.map (entD cs)).length < 16777216 then some (Ob.dt (pt' (R.map (entD cs)) ks (.str (S (wd cs w))))) else none) = _
  rw [toKs_I]
  show (if (R.map (entD cs)).length < 16777216 then some (Ob.dt (pt' (R.map (entD cs)) (kS T) (.str (S (wd cs w))))) else none) = _
  rw [List.length_map, if_pos hl]
  unfold pt'
  rw [lk_ent, h]
  show some (Ob.dt (if (none : Option D).isSome = true then _ else _)) = _
  rw [if_neg (by simp [-Option.bind_some, -Option.bind_none]), List.map_append]
  rfl
def stP (M : Mach) (cs : List Nat) (R : Rws) (L : List (List Nat)) (x5 x6 x7 x8 : Sl) : Rho := [.fz (mD M), .fz (.str (S cs)), .fz (setD (List.range M.length)), .ow false (.dt (R.map (entD cs))), .ow false (.ls (L.map setD)), x5, x6, x7, x8, .un]
theorem set_small {n : Nat} {T : List Nat} (h : IsSet n T) : T.length ≤ n := by
  have := nodup_sub_len (l := T) (m := List.range n) (h.1.imp fun h => by omega) fun x hx => List.mem_range.mpr (h.2.2 x hx)
  simpa [-Option.bind_some, -Option.bind_none] using this
theorem other_run {M : Mach} {cs : List Nat} (h : Ok M cs.length) (hn : M.length ≤ 20) (R : Rws) (L : List (List Nat)) (T : List Nat) (hT : IsSet M.length T) (k : Nat) (hk : k < cs.length) (x7 x8 : Sl) (h8 : Loose x8) :
    setS 8 (e1 tupD (.g (eFz (e1 sortsetO (.g (eFz (lcE (eIt (eV 5)) (tgN 9) yesT (e2 ixD (.g (e2 ixD (.g (e2 ixD (.b 0) (.b 9))) (.g (eC (.int 1))))) (.b 6)) [9]))))))) (stP M cs R L (.fz (setD T)) (.fz (I k)) x7 x8) = .ok .nx (stP M cs R L (.fz (setD T)) (.fz (I k)) x7 (.fz (setD (img M k T)))) := by
  have sm := set_small hT
  have a1 : eIt (eV 5) (stP M cs R L (.fz (setD T)) (.fz (I k)) x7 x8) = .ok (T.map I) (stP M cs R L (.fz (setD T)) (.fz (I k)) x7 x8) := by simp [-Option.bind_some, -Option.bind_none, stP, setD]
  have a2 : wipeR (stP M cs R L (.fz (setD T)) (.fz (I k)) x7 x8) [9] = stP M cs R L (.fz (setD T)) (.fz (I k)) x7 x8 := Eq.trans rfl rfl
  have a3 : lcLoop (tgN 9) yesT (e2 ixD (.g (e2 ixD (.g (e2 ixD (.b 0) (.b 9))) (.g (eC (.int 1))))) (.b 6)) [9] (T.map I) 0 (stP M cs R L (.fz (setD T)) (.fz (I k)) x7 x8) = .ok (T.map fun p => I (nxt M p k)) (stP M cs R L (.fz (setD T)) (.fz (I k)) x7 x8) := by
    refine lc_map I (fun p => I (nxt M p k)) T 0 (by omega) fun p hp => ?_
    exact ⟨[.fz (mD M), .fz (.str (S cs)), .fz (setD (List.range M.length)), .ow false (.dt (R.map (entD cs))), .ow false (.ls (L.map setD)), .fz (setD T), .fz (I k), x7, x8, .fz (I p)], _, Eq.trans rfl rfl, look h (hT.2.2 p hp) hk rfl rfl rfl, Eq.trans rfl rfl⟩
  have a4 : sortsetO (.list (T.map fun p => I (nxt M p k))) = some (.ls ((img M k T).map I)) := by
    have z := sortset_I (T.map fun p => nxt M p k) (by rw [List.length_map]; omega)
    rw [List.map_map] at z
    exact z
  have a5 : lcE (eIt (eV 5)) (tgN 9) yesT (e2 ixD (.g (e2 ixD (.g (e2 ixD (.b 0) (.b 9))) (.g (eC (.int 1))))) (.b 6)) [9] (stP M cs R L (.fz (setD T)) (.fz (I k)) x7 x8) = .ok (.ls (T.map fun p => I (nxt M p k))) (stP M cs R L (.fz (setD T)) (.fz (I k)) x7 x8) := by
    rw [lcE_ap, a1]
    simp only [Res.bind_ok, a2, a3]
  simp only [setS_ap, e1_ap, opd_g, eFz_ap, a5, Res.bind_ok, fin_d, obind, a4, ofO_some, tupD]
  rw [sto_loose (x := x8) (Eq.trans rfl rfl) h8]
  exact Eq.trans rfl rfl
theorem push_run {M : Mach} {cs : List Nat} (h : Ok M cs.length) (hn : M.length ≤ 20) (R : Rws) (L : List (List Nat)) (T w : List Nat) (hT : IsSet M.length T) (k : Nat) (hk : k < cs.length) (x8 : Sl) (h8 : Loose x8) (hw : lkR R T = some w) (hR : R.length < 16000000) (hL : L.length < 16000000) (hwl : w.length < 16000000) :
    ∃ x8', Loose x8' ∧ B_least_reset_1 (stP M cs R L (.fz (setD T)) (.fz (I k)) (.fz (chr (cAt cs k))) x8) = .ok .nx (stP M cs (push (R, L) (img M k T, w ++ [k])).1 (push (R, L) (img M k T, w ++ [k])).2 (.fz (setD T)) (.fz (I k)) (.fz (chr (cAt cs k))) x8') := by
  have b1 := other_run h hn R L T hT k hk (.fz (chr (cAt cs k))) x8 h8
  have g1 := dget_ent cs R (img M k T)
  have g2 := dget_ent cs R T
  rw [hw] at g2
  refine ⟨.fz (setD (img M k T)), .inr (.inl ⟨_, rfl⟩), ?_⟩
  unfold B_least_reset_1
  rw [seqS_ap, b1]
  simp only [Res.bind_ok]
  have t : eT (dinE true 3 (eV 8)) (stP M cs R L (.fz (setD T)) (.fz (I k)) (.fz (chr (cAt cs k))) (.fz (setD (img M k T)))) = .ok (!(lkR R (img M k T)).isSome) (stP M cs R L (.fz (setD T)) (.fz (I k)) (.fz (chr (cAt cs k))) (.fz (setD (img M k T)))) := by
    simp [-Option.bind_some, -Option.bind_none, dinE, stP, DL.obS, g1]
  rw [ifS_ap, t]
  simp only [Res.bind_ok]
  cases q : lkR R (img M k T) with
  | some v =>
    have e : push (R, L) (img M k T, w ++ [k]) = (R, L) := if_pos (by rw [q]; rfl)
    rw [e]
    exact Eq.trans rfl rfl
  | none =>
    have e : push (R, L) (img M k T, w ++ [k]) = (R ++ [(img M k T, w ++ [k])], L ++ [img M k T]) := if_neg (by rw [q]; exact Bool.false_ne_true)
    have ad : addD (.str (S (wd cs w))) (chr (cAt cs k)) = some (.str (S (wd cs (w ++ [k])))) := by
      have := add_str (wd cs w) [cAt cs k] (by unfold wd; simp [-Option.bind_some, -Option.bind_none]; omega)
      unfold chr
      rw [this]
      unfold wd
      rw [List.map_append]
      rfl
    have dp := dput_ent cs R (img M k T) (w ++ [k]) q (by omega)
    have hL' : L.length < 16777216 := by omega
    rw [e]
    show seqS _ _ _ = _
    have s1 : dputS 3 (eV 8) (e2 addD (.g (dgetE 3 (eV 5))) (.b 7)) (stP M cs R L (.fz (setD T)) (.fz (I k)) (.fz (chr (cAt cs k))) (.fz (setD (img M k T)))) = .ok .nx (stP M cs (R ++ [(img M k T, w ++ [k])]) L (.fz (setD T)) (.fz (I k)) (.fz (chr (cAt cs k))) (.fz (setD (img M k T)))) := by
      simp [-Option.bind_some, -Option.bind_none, dputS, dgetE, stP, DL.obS, g2, ad, dp]
    have s2 : mutS appF 4 (eV 8) (stP M cs (R ++ [(img M k T, w ++ [k])]) L (.fz (setD T)) (.fz (I k)) (.fz (chr (cAt cs k))) (.fz (setD (img M k T)))) = .ok .nx (stP M cs (R ++ [(img M k T, w ++ [k])]) (L ++ [img M k T]) (.fz (setD T)) (.fz (I k)) (.fz (chr (cAt cs k))) (.fz (setD (img M k T)))) := by
      simp [-Option.bind_some, -Option.bind_none, mutS, stP, hL']
    rw [seqS_ap, s1]
    simp only [Res.bind_ok, s2]
end K66
end
section
set_option autoImplicit false
set_option maxRecDepth 100000
set_option Elab.async false
set_option linter.all false
namespace K66
open PySem DL L2 SX
theorem push_keep {s : Rws × List (List Nat)} {x : List Nat × List Nat} {T w : List Nat} (h : lkR s.1 T = some w) : lkR (push s x).1 T = some w := by
  unfold push
  split
  · exact h
  · rw [lkR_app, h]
theorem loopP {M : Mach} {cs : List Nat} (h : Ok M cs.length) (hn : M.length ≤ 20) (T w : List Nat) (hT : IsSet M.length T) (hwl : w.length < 16000000) : ∀ (m i : Nat) (s : Rws × List (List Nat)) (x6 x7 x8 : Sl), i + m = cs.length → lkR s.1 T = some w → s.1.length + m < 16000000 → s.2.length + m < 16000000 → Loose x6 → Loose x7 → Loose x8 →
    ∃ x6' x7' x8', Loose x6' ∧ Loose x7' ∧ Loose x8' ∧ loopS (tgT [(tgN 6), (tgN 7)]) B_least_reset_1 (numD i ((cs.drop i).map chr)) (stP M cs s.1 s.2 (.fz (setD T)) x6 x7 x8) =
      .ok .nx (stP M cs (((List.range' i m).map fun k => (img M k T, w ++ [k])).foldl push s).1 (((List.range' i m).map fun k => (img M k T, w ++ [k])).foldl push s).2 (.fz (setD T)) x6' x7' x8')
  | 0, i, s, x6, x7, x8, hi, _, _, _, h6, h7, h8 => by
    refine ⟨x6, x7, x8, h6, h7, h8, ?_⟩
    rw [List.drop_eq_nil_of_le (by omega)]
    exact Eq.trans rfl rfl
  | m + 1, i, s, x6, x7, x8, hi, hw, hR, hL, h6, h7, h8 => by
    have hk : i < cs.length := by omega
    obtain ⟨y8, l8, e⟩ := push_run h hn s.1 s.2 T w hT i hk x8 h8 hw (by omega) (by omega) hwl
    have pl := push_len s (img M i T, w ++ [i])
    obtain ⟨z6, z7, z8, q6, q7, q8, e2⟩ := loopP h hn T w hT hwl m (i + 1) (push s (img M i T, w ++ [i])) (.fz (I i)) (.fz (chr (cAt cs i))) y8 (by omega) (push_keep hw) (by omega) (by omega) (.inr (.inl ⟨_, rfl⟩)) (.inr (.inl ⟨_, rfl⟩)) l8
    refine ⟨z6, z7, z8, q6, q7, q8, ?_⟩
    have ed : cs.drop i = cAt cs i :: cs.drop (i + 1) := by
      rw [List.drop_eq_getElem_cons hk]
      unfold cAt
      simp [-Option.bind_some, -Option.bind_none, List.getD_eq_getElem?_getD, hk]
    have t : (tgT [(tgN 6), (tgN 7)]).f (.tuple [.int (i : Nat), chr (cAt cs i)]) (stP M cs s.1 s.2 (.fz (setD T)) x6 x7 x8) = some (stP M cs s.1 s.2 (.fz (setD T)) (.fz (I i)) (.fz (chr (cAt cs i))) x8) := by
      show (sto _ 6 _).bind (fun r1 => (sto r1 7 _).bind fun r2 => some r2) = _
      rw [sto_loose (x := x6) (Eq.trans rfl rfl) h6]
      show (sto _ 7 _).bind (fun r2 => some r2) = _
      rw [sto_loose (x := x7) (Eq.trans rfl rfl) h7]
      exact Eq.trans rfl rfl
    rw [ed, List.map_cons]
    show loopS _ _ (.tuple [.int (i : Nat), chr (cAt cs i)] :: numD (i + 1) ((cs.drop (i + 1)).map chr)) _ = _
    unfold loopS
    rw [t]
    simp only [e, Res.bind_ok]
    rw [e2, List.range'_succ, List.map_cons, List.foldl_cons]
theorem find_ne {M : Mach} {c h : Nat} {met : List (List Nat)} {r : List Nat} : ¬ Find M c h met [] r := fun z => by cases z
theorem len_set (T : List Nat) : lenD (setD T) = some (.int (T.length : Int)) := by
  show some (PyData.int ((T.map I).length : Int)) = _
  rw [List.length_map]
theorem prog_find {M : Mach} {cs : List Nat} (h : Ok M cs.length) (hn : M.length ≤ 20) (hc : cs.length ≤ 4) {hh : Nat} {met : List (List Nat)} {Q : Que} {r : List Nat} (F : Find M cs.length hh met Q r) : ∀ (R : Rws) (L : List (List Nat)) (x5 x6 x7 x8 : Sl) (fu : Nat), RelP met Q R L → (∀ T ∈ met, T.length ≠ 1) → (∀ x ∈ Q, IsSet M.length x.1 ∧ x.2.length + hh < 100000) → hh ≤ fu → R.length + 4 * hh < 1000000 → L.length + 4 * hh < 1000000 → Loose x5 → Loose x6 → Loose x7 → Loose x8 →
    ∃ ρ, whileS C_least_reset_2 B_least_reset_2 fu (stP M cs R L x5 x6 x7 x8) = .ok (.rt (.str (S (wd cs r)))) ρ := by
  -- a turn's beginning
  have head : ∀ (R : Rws) (T : List Nat) (L : List (List Nat)) (x5 x6 x7 x8 : Sl), Loose x5 → C_least_reset_2 (stP M cs R (T :: L) x5 x6 x7 x8) = .ok true (stP M cs R (T :: L) x5 x6 x7 x8) ∧ setS 5 (popE 4 (eC (.int 0))) (stP M cs R (T :: L) x5 x6 x7 x8) = .ok .nx (stP M cs R L (.fz (setD T)) x6 x7 x8) := by
    intro R T L x5 x6 x7 x8 h5
    constructor
    · simp [-Option.bind_some, -Option.bind_none, C_least_reset_2, stP, truD]
    · have p : popE 4 (eC (.int 0)) (stP M cs R (T :: L) x5 x6 x7 x8) = .ok (setD T) (stP M cs R L x5 x6 x7 x8) := by simp [-Option.bind_some, -Option.bind_none, popE, stP]
      rw [setS_ap, p]
      simp only [Res.bind_ok]
      rw [sto_loose (x := x5) (Eq.trans rfl rfl) h5]
      exact Eq.trans rfl rfl
  have test : ∀ (R : Rws) (L : List (List Nat)) (T : List Nat) (x6 x7 x8 : Sl), eT (e2 eqD (.g (e1 lenD (.b 5))) (.g (eC (.int 1)))) (stP M cs R L (.fz (setD T)) x6 x7 x8) = .ok (decide (T.length = 1)) (stP M cs R L (.fz (setD T)) x6 x7 x8) := by
    intro R L T x6 x7 x8
    have ls := len_set T
    simp [-Option.bind_some, -Option.bind_none, stP, ls]
    omega
  induction F with
  | @hit hh met Q T w h1 =>
    intro R L x5 x6 x7 x8 fu rel hm hq hf hR hL h5 h6 h7 h8
    obtain ⟨fu, rfl⟩ : ∃ k, fu = k + 1 := ⟨fu - 1, by omega⟩
    have hT : T ∉ met := fun z => hm T z h1
    have fe : firsts met ((T, w) :: Q) = (T, w) :: firsts (T :: met) Q := if_neg hT
    have el := rel.left
    rw [fe, List.map_cons] at el
    subst el
    have lw : lkR R T = some w := rel.word (T, w) (by rw [fe]; simp [-Option.bind_some, -Option.bind_none])
    obtain ⟨a1, a2⟩ := head R T ((firsts (T :: met) Q).map Prod.fst) x5 x6 x7 x8 h5
    have g2 := dget_ent cs R T
    rw [lw] at g2
    have a3 : rtS (dgetE 3 (eV 5)) (stP M cs R ((firsts (T :: met) Q).map Prod.fst) (.fz (setD T)) x6 x7 x8) = .ok (.rt (.str (S (wd cs w)))) (stP M cs R ((firsts (T :: met) Q).map Prod.fst) (.fz (setD T)) x6 x7 x8) := by
      simp [-Option.bind_some, -Option.bind_none, dgetE, stP, DL.obS, g2]
    refine ⟨stP M cs R ((firsts (T :: met) Q).map Prod.fst) (.fz (setD T)) x6 x7 x8, ?_⟩
    unfold whileS
    rw [a1]
    simp only [Res.bind_ok, if_true]
    unfold B_least_reset_2
    simp only [seqS_ap, a2, Res.bind_ok, ifS_ap, test, h1, decide_true, if_true, a3]
  | @skip hh met Q T w r h1 h2 _ ih =>
    intro R L x5 x6 x7 x8 fu rel hm hq hf hR hL h5 h6 h7 h8
    have fe : firsts met ((T, w) :: Q) = firsts met Q := if_pos h2
    refine ih R L x5 x6 x7 x8 fu ⟨by rw [← fe]; exact rel.left, by rw [← fe]; exact rel.word, fun U => ?_⟩ hm (fun x hx => ?_) (by omega) (by omega) (by omega) h5 h6 h7 h8
    · rw [rel.has U, List.map_cons, List.mem_cons]
      constructor
      · rintro (z | z | z)
        · exact .inl z
        · subst z; exact .inl h2
        · exact .inr z
      · rintro (z | z)
        · exact .inl z
        · exact .inr (.inr z)
    · obtain ⟨a, b⟩ := hq x (by simp [-Option.bind_some, -Option.bind_none, hx])
      exact ⟨a, by omega⟩
  | @go hh met Q T w r h1 h2 _ ih =>
    intro R L x5 x6 x7 x8 fu rel hm hq hf hR hL h5 h6 h7 h8
    obtain ⟨fu, rfl⟩ : ∃ k, fu = k + 1 := ⟨fu - 1, by omega⟩
    have fe : firsts met ((T, w) :: Q) = (T, w) :: firsts (T :: met) Q := if_neg h2
    have el := rel.left
    rw [fe, List.map_cons] at el
    subst el
    rw [List.length_cons] at hL
    have lw : lkR R T = some w := rel.word (T, w) (by rw [fe]; simp [-Option.bind_some, -Option.bind_none])
    obtain ⟨qs, qw⟩ := hq (T, w) (by simp [-Option.bind_some, -Option.bind_none])
    simp only at qs qw
    obtain ⟨a1, a2⟩ := head R T ((firsts (T :: met) Q).map Prod.fst) x5 x6 x7 x8 h5
    have rel0 : RelP (met ++ [T]) Q R ((firsts (T :: met) Q).map Prod.fst) := by
      have fc : firsts (T :: met) Q = firsts (met ++ [T]) Q := firsts_congr Q fun U => by simp [-Option.bind_some, -Option.bind_none, or_comm]
      refine ⟨by rw [fc], fun x hx => ?_, fun U => ?_⟩
      · refine rel.word x ?_
        rw [fe, fc]
        simp [-Option.bind_some, -Option.bind_none, hx]
      · rw [rel.has U, List.map_cons, List.mem_cons, List.mem_append, List.mem_singleton]
        constructor
        · rintro (z | z | z)
          · exact .inl (.inl z)
          · exact .inl (.inr z)
          · exact .inr z
        · rintro ((z | z) | z)
          · exact .inl z
          · exact .inr (.inl z)
          · exact .inr (.inr z)
    have rel1 := pushes_rel (outs M cs.length T w) Q (R, (firsts (T :: met) Q).map Prod.fst) rel0
    obtain ⟨z6, z7, z8, q6, q7, q8, e⟩ := loopP h hn T w qs (by omega) cs.length 0 (R, (firsts (T :: met) Q).map Prod.fst) x6 x7 x8 (by omega) lw (by simp only; omega) (by simp only; omega) h6 h7 h8
    have eo : (List.range' 0 cs.length).map (fun k => (img M k T, w ++ [k])) = outs M cs.length T w := by
      unfold outs
      rw [List.range_eq_range']
    rw [eo, List.drop_zero] at e
    have ol : (outs M cs.length T w).length = cs.length := by unfold outs; simp [-Option.bind_some, -Option.bind_none]
    have pl := pushes_len (outs M cs.length T w) (R, (firsts (T :: met) Q).map Prod.fst)
    simp only at pl
    obtain ⟨ρ, e3⟩ := ih _ _ (.fz (setD T)) z6 z7 z8 fu rel1 (fun U hU => by
      rcases List.mem_append.mp hU with z | z
      · exact hm U z
      · rw [List.mem_singleton.mp z]; exact h1) (fun x hx => by
      rcases List.mem_append.mp hx with z | z
      · obtain ⟨a, b⟩ := hq x (by simp [-Option.bind_some, -Option.bind_none, z])
        exact ⟨a, by omega⟩
      · unfold outs at z
        obtain ⟨k, hk, rfl⟩ := List.mem_map.mp z
        exact ⟨img_set h (List.mem_range.mp hk) qs, by simp only [List.length_append, List.length_singleton]; omega⟩) (by omega) (by omega) (by omega) (.inr (.inl ⟨_, rfl⟩)) q6 q7 q8
    refine ⟨ρ, ?_⟩
    have en : eEn (eV 1) (stP M cs R ((firsts (T :: met) Q).map Prod.fst) (.fz (setD T)) x6 x7 x8) = .ok (numD 0 (cs.map chr)) (stP M cs R ((firsts (T :: met) Q).map Prod.fst) (.fz (setD T)) x6 x7 x8) := by
      have z : enD (.str (S cs)) = some (numD 0 (cs.map chr)) := rfl
      simp [-Option.bind_some, -Option.bind_none, stP, z]
    unfold whileS
    rw [a1]
    simp only [Res.bind_ok, if_true]
    unfold B_least_reset_2
    simp only [seqS_ap, a2, Res.bind_ok, ifS_ap, test, h1, decide_false, Bool.false_eq_true, if_false, nxS_ap, forS_ap, en, e]
    exact e3
theorem rangeD (n : Nat) : trg1 (.int (n : Int)) = if rgC 0 (n : Int) = true then some (setD (List.range n)) else none := by
  show (if rgC 0 (n : Int) = true then some (PyData.tuple (rgD 0 (n : Int))) else none) = _
  rw [rgD_n]
  rfl
theorem rgC_ok {n : Nat} (h : n ≤ 1000) : rgC 0 (n : Int) = true := by
  unfold rgC
  have e : (2 ^ 62 : Int) = 4611686018427387904 := by decide
  have e2 : (2 ^ 24 : Nat) = 16777216 := by decide
  rw [e, e2]
  exact decide_eq_true ⟨by omega, by omega, by omega, by omega, by omega⟩
theorem least_run {M : Mach} {cs : List Nat} (h : Ok M cs.length) (hn : M.length ≤ 16) (hc : cs.length ≤ 4) {hh : Nat} {r : List Nat} (F : Find M cs.length hh [] [(List.range M.length, [])] r) (hb : hh < 90000) :
    F_least_reset [.fz (mD M), .fz (.str (S cs))] = .ok (.str (S (wd cs r))) [.un, .un] := by
  have lm : lenD (mD M) = some (.int (M.length : Int)) := by
    show some (PyData.int ((M.map rowD).length : Int)) = _
    rw [List.length_map]
  have g16 : ¬ (16 : Int) < (M.length : Int) := by omega
  obtain ⟨ρ, e⟩ := prog_find h (by omega) hc F [(List.range M.length, [])] [List.range M.length] .un .un .un .un 100000 ⟨rfl, fun x hx => by
      have : x = (List.range M.length, []) := by simpa [-Option.bind_some, -Option.bind_none, firsts] using hx
      subst this
      exact if_pos rfl, fun T => by
      show (if List.range M.length = T then some [] else none).isSome = true ↔ _
      by_cases q : List.range M.length = T
      · rw [if_pos q]; simp [-Option.bind_some, -Option.bind_none, q]
      · rw [if_neg q]; simp [-Option.bind_some, -Option.bind_none]; exact fun z => q z.symm⟩ (fun _ h => by simp [-Option.bind_some, -Option.bind_none] at h) (fun x hx => by
      have : x = (List.range M.length, []) := by simpa [-Option.bind_some, -Option.bind_none] using hx
      subst this
      exact ⟨range_set h.1, by simp only [List.length_nil]; omega⟩) (by omega) (by simp [-Option.bind_some, -Option.bind_none]; omega) (by simp [-Option.bind_some, -Option.bind_none]; omega) (.inl rfl) (.inl rfl) (.inl rfl) (.inl rfl)
  have a1 : ifS (eT (e2 (cmpI gtI) (.g (e1 lenD (.b 0))) (.g (eC (.int 16))))) (erS "TooWide") nxS [.fz (mD M), .fz (.str (S cs)), .un, .un, .un, .un, .un, .un, .un, .un] = .ok .nx [.fz (mD M), .fz (.str (S cs)), .un, .un, .un, .un, .un, .un, .un, .un] := by
    simp [-Option.bind_some, -Option.bind_none, lm, g16]
  have tr := rangeD M.length
  rw [if_pos (rgC_ok (by omega))] at tr
  have a2 : setS 2 (e1 trg1 (.g (e1 lenD (.b 0)))) [.fz (mD M), .fz (.str (S cs)), .un, .un, .un, .un, .un, .un, .un, .un] = .ok .nx [.fz (mD M), .fz (.str (S cs)), .fz (setD (List.range M.length)), .un, .un, .un, .un, .un, .un, .un] := by
    rw [setS_ap, e1_ap, opd_g, e1_ap, opd_b]
    have p : pk [.fz (mD M), .fz (.str (S cs)), .un, .un, .un, .un, .un, .un, .un, .un] 0 = some (mD M) := Eq.trans rfl rfl
    simp only [p, ofO_some, Res.bind_ok, fin_v, fin_d, obind, lm, tr]
    exact Eq.trans rfl rfl
  have mk1 : mkDt (setD (List.range M.length)) (.str (Str.ofString "")) = some (.dt [(kS (List.range M.length), .str (S []))]) := by
    show (toKs ((List.range M.length).map I)).map (fun ks => Ob.dt [(ks, PyData.str (Str.ofString ""))]) = _
    rw [toKs_I]
    rfl
  have a3 : setO 3 (eDict1 (eV 2) (eC (.str (Str.ofString "")))) [.fz (mD M), .fz (.str (S cs)), .fz (setD (List.range M.length)), .un, .un, .un, .un, .un, .un, .un] = .ok .nx [.fz (mD M), .fz (.str (S cs)), .fz (setD (List.range M.length)), .ow false (.dt [(kS (List.range M.length), .str (S []))]), .un, .un, .un, .un, .un, .un] := by
    simp [-Option.bind_some, -Option.bind_none, eDict1, mk1]
  have a4 : setO 4 (eLst [(eV 2)]) [.fz (mD M), .fz (.str (S cs)), .fz (setD (List.range M.length)), .ow false (.dt [(kS (List.range M.length), .str (S []))]), .un, .un, .un, .un, .un, .un] = .ok .nx (stP M cs [(List.range M.length, [])] [List.range M.length] .un .un .un .un) := by
    simp [-Option.bind_some, -Option.bind_none, stP, entD, wd]
  have fin : ∀ ρ : Rho, outOf [.fz (mD M), .fz (.str (S cs))] ρ = [.un, .un] := fun ρ => by
    match ρ with
    | [] => rfl
    | [a] => rfl
    | a :: b :: ρ => rfl
  refine bodyF_rt (n := 10) (g := g_least_reset) (ρ0 := [.fz (mD M), .fz (.str (S cs)), .un, .un, .un, .un, .un, .un, .un, .un]) (r := ρ) rfl ?_ (fin ρ)
  unfold g_least_reset
  simp only [seqS_ap, a1, a2, a3, a4, e, Res.bind_ok]
end K66
end
section
set_option autoImplicit false
set_option maxRecDepth 100000
set_option Elab.async false
set_option linter.all false
namespace K66
open PySem DL L2 SX
/-! ### the law's search -/
def entM (T : List Nat) : List Key × D := (kS T, .bool true)
def qD (cs : List Nat) (x : List Nat × List Nat) : D := .tuple [.list (x.1.map I), .str (S (wd cs x.2))]
def stW (M : Mach) (cs : List Nat) (x2 : Sl) (met : List (List Nat)) (B : Que) (x5 x6 x7 : Sl) : Rho := [.fz (mD M), .fz (.str (S cs)), x2, .ow false (.dt (met.map entM)), .ow false (.ls (B.map (qD cs))), x5, x6, x7, .un]
theorem lk_entM : ∀ (met : List (List Nat)) (U : List Nat), lk (met.map entM) (kS U) = if U ∈ met then some (.bool true) else none
  | [], _ => rfl
  | T :: met, U => by
    show (if kS T = kS U then some (PyData.bool true) else lk (met.map entM) (kS U)) = _
    by_cases h : T = U
    · rw [if_pos (by rw [h]), if_pos (by rw [h]; simp [-Option.bind_some, -Option.bind_none])]
    · rw [if_neg fun z => h (kS_inj z), lk_entM met U]
      by_cases q : U ∈ met
      · rw [if_pos q, if_pos (by simp [-Option.bind_some, -Option.bind_none, q])]
      · rw [if_neg q, if_neg (by simp [-Option.bind_some, -Option.bind_none, q]; exact fun z => h z.symm)]
theorem dgetM (met : List (List Nat)) (T : List Nat) : dGet (.dt (met.map entM)) (setD T) = some (if T ∈ met then some (.bool true) else none) := by
  show (toKs (T.map I)).map (fun ks => lk (met.map entM) ks) = _
  rw [toKs_I]
  show some (lk _ _) = _
  rw [lk_entM]
theorem dputM (met : List (List Nat)) (T : List Nat) (h : T ∉ met) (hl : met.length < 16777216) : dPut (.dt (met.map entM)) (setD T) (.bool true) = some (.dt ((met ++ [T]).map entM)) := by
  show ((toKs (T.map I)).bind fun ks => if (met.map entM).length < 16777216 then some (Ob.dt (pt' (met.map entM) ks (.bool true))) else none) = _
  rw [toKs_I]
  show (if (met.map entM).length < 16777216 then some (Ob.dt (pt' (met.map entM) (kS T) (.bool true))) else none) = _
  rw [List.length_map, if_pos hl]
  unfold pt'
  rw [lk_entM, if_neg h]
  show some (Ob.dt (if (none : Option D).isSome = true then _ else _)) = _
  rw [if_neg (by simp [-Option.bind_some, -Option.bind_none]), List.map_append]
  rfl
theorem outW {M : Mach} {cs : List Nat} (h : Ok M cs.length) (hn : M.length ≤ 20) (hcs : cs.length ≤ 4) (x2 : Sl) (met : List (List Nat)) (B : Que) (T w : List Nat) (hT : IsSet M.length T) (k : Nat) (hk : k < cs.length) (hB : B.length < 16000000) (hw : w.length < 16000000) :
    B__law_least_reset_1 (stW M cs x2 met B (.fz (.list (T.map I))) (.fz (.str (S (wd cs w)))) (.fz (I k))) = .ok .nx (stW M cs x2 met (B ++ [(img M k T, w ++ [k])]) (.fz (.list (T.map I))) (.fz (.str (S (wd cs w)))) (.fz (I k))) := by
  have sm := set_small hT
  generalize hρ : stW M cs x2 met B (.fz (.list (T.map I))) (.fz (.str (S (wd cs w)))) (.fz (I k)) = ρ
  have a1 : eIt (eV 5) ρ = .ok (T.map I) ρ := by subst hρ; simp [-Option.bind_some, -Option.bind_none, stW]
  have a2 : wipeR ρ [8] = ρ := by subst hρ; exact Eq.trans rfl rfl
  have a3 : lcLoop (tgN 8) yesT (e2 ixD (.g (e2 ixD (.g (e2 ixD (.b 0) (.b 8))) (.g (eC (.int 1))))) (.b 7)) [8] (T.map I) 0 ρ = .ok (T.map fun p => I (nxt M p k)) ρ := by
    refine lc_map I (fun p => I (nxt M p k)) T 0 (by omega) fun p hp => ?_
    subst hρ
    exact ⟨[.fz (mD M), .fz (.str (S cs)), x2, .ow false (.dt (met.map entM)), .ow false (.ls (B.map (qD cs))), .fz (.list (T.map I)), .fz (.str (S (wd cs w))), .fz (I k), .fz (I p)], _, Eq.trans rfl rfl, look h (hT.2.2 p hp) hk rfl rfl rfl, Eq.trans rfl rfl⟩
  have a4 : sortsetO (.list (T.map fun p => I (nxt M p k))) = some (.ls ((img M k T).map I)) := by
    have z := sortset_I (T.map fun p => nxt M p k) (by rw [List.length_map]; omega)
    rw [List.map_map] at z
    exact z
  have a5 : eFz (e1 sortsetO (.g (eFz (lcE (eIt (eV 5)) (tgN 8) yesT (e2 ixD (.g (e2 ixD (.g (e2 ixD (.b 0) (.b 8))) (.g (eC (.int 1))))) (.b 7)) [8])))) ρ = .ok (.list ((img M k T).map I)) ρ := by
    rw [eFz_ap, e1_ap, opd_g, eFz_ap, lcE_ap, a1]
    simp only [Res.bind_ok, a2, a3, fin_d, obind, a4, ofO_some]
  have ad : addD (.str (S (wd cs w))) (chr (cAt cs k)) = some (.str (S (wd cs (w ++ [k])))) := by
    have := add_str (wd cs w) [cAt cs k] (by unfold wd; simp [-Option.bind_some, -Option.bind_none]; omega)
    unfold chr
    rw [this]
    unfold wd
    rw [List.map_append]
    rfl
  have ix : ixD (.str (S cs)) (I k) = some (chr (cAt cs k)) := by
    refine ix_str cs k _ (by omega) ?_
    unfold cAt
    simp [-Option.bind_some, -Option.bind_none, List.getD_eq_getElem?_getD, hk]
  have a6 : e2 addD (.b 6) (.g (e2 ixD (.b 1) (.b 7))) ρ = .ok (.str (S (wd cs (w ++ [k])))) ρ := by
    subst hρ
    simp [-Option.bind_some, -Option.bind_none, stW, ix, ad]
  have a7 : eTup [(eFz (e1 sortsetO (.g (eFz (lcE (eIt (eV 5)) (tgN 8) yesT (e2 ixD (.g (e2 ixD (.g (e2 ixD (.b 0) (.b 8))) (.g (eC (.int 1))))) (.b 7)) [8]))))), (e2 addD (.b 6) (.g (e2 ixD (.b 1) (.b 7))))] ρ = .ok (qD cs (img M k T, w ++ [k])) ρ := by
    rw [eTup_ap, eL_cons, a5]
    simp only [Res.bind_ok, eL_cons, a6, eL_nil]
    exact Eq.trans rfl rfl
  have hB' : B.length < 16777216 := by omega
  unfold B__law_least_reset_1 mutS
  have p4 : ρ[4]? = some (.ow false (.ls (B.map (qD cs)))) := by subst hρ; exact Eq.trans rfl rfl
  simp only [p4, a7, Res.bind_ok, app_ap, List.length_map, hB', if_true]
  subst hρ
  simp [-Option.bind_some, -Option.bind_none, stW]
theorem outsW {M : Mach} {cs : List Nat} (h : Ok M cs.length) (hn : M.length ≤ 20) (hcs : cs.length ≤ 4) (x2 : Sl) (met : List (List Nat)) (T w : List Nat) (hT : IsSet M.length T) (hw : w.length < 16000000) : ∀ (m i : Nat) (B : Que) (x7 : Sl), i + m = cs.length → B.length + m < 16000000 → Loose x7 →
    ∃ x7', Loose x7' ∧ loopS (tgN 7) B__law_least_reset_1 ((List.range' i m).map I) (stW M cs x2 met B (.fz (.list (T.map I))) (.fz (.str (S (wd cs w)))) x7) = .ok .nx (stW M cs x2 met (B ++ (List.range' i m).map fun k => (img M k T, w ++ [k])) (.fz (.list (T.map I))) (.fz (.str (S (wd cs w)))) x7')
  | 0, i, B, x7, _, _, h7 => ⟨x7, h7, by rw [List.range'_zero, List.map_nil, List.map_nil, List.append_nil]; exact Eq.trans rfl rfl⟩
  | m + 1, i, B, x7, hi, hB, h7 => by
    have e := outW h hn hcs x2 met B T w hT i (by omega) (by omega) hw
    obtain ⟨y7, l7, e2⟩ := outsW h hn hcs x2 met T w hT hw m (i + 1) (B ++ [(img M i T, w ++ [i])]) (.fz (I i)) (by omega) (by rw [List.length_append, List.length_singleton]; omega) (.inr (.inl ⟨_, rfl⟩))
    refine ⟨y7, l7, ?_⟩
    have t : (tgN 7).f (I i) (stW M cs x2 met B (.fz (.list (T.map I))) (.fz (.str (S (wd cs w)))) x7) = some (stW M cs x2 met B (.fz (.list (T.map I))) (.fz (.str (S (wd cs w)))) (.fz (I i))) := by
      show sto _ 7 _ = _
      rw [sto_loose (x := x7) (Eq.trans rfl rfl) h7]
      exact Eq.trans rfl rfl
    rw [List.range'_succ, List.map_cons]
    unfold loopS
    rw [t]
    simp only [e, Res.bind_ok]
    rw [e2, List.map_cons, List.append_assoc]
    rfl
/-- what waits behind the inner loop -/
def contW (fu : Nat) (x : Res Fl) : Res Fl := (x.bind fun f r => match f with | .nx => setS 2 (eV 4) r | f => .ok f r).bind fun f r2 => match f with
  | .nx => whileS C__law_least_reset_3 B__law_least_reset_3 fu r2
  | .ct => whileS C__law_least_reset_3 B__law_least_reset_3 fu r2
  | .bk => .ok .nx r2
  | .rt v => .ok (.rt v) r2
theorem ne_nil2 (ds : List D) (h : ∀ d ∈ ds, okN 60 d) : neD (.list ds) (.list []) = some (.bool (!ds.isEmpty)) := by
  rw [neD_ok ((ok_list h).mono (by omega)) ((ok_list (n := 0) fun d hd => by simp [-Option.bind_some, -Option.bind_none] at hd).mono (by omega))]
  cases ds <;> exact Eq.trans rfl rfl
theorem ok_qD {cs : List Nat} (hc : ∀ c ∈ cs, c < 123) (x : List Nat × List Nat) : okN 2 (qD cs x) := by
  refine ok_tup fun d hd => ?_
  simp only [List.mem_cons, List.not_mem_nil, or_false] at hd
  rcases hd with e | e
  · rw [e]
    refine ok_list fun d hd => ?_
    obtain ⟨p, _, rfl⟩ := List.mem_map.mp hd
    exact ok_I p
  · rw [e]
    refine (ok_str fun c hc' => ?_).mono (by omega)
    have hc' : c ∈ wd cs x.2 := by simpa [-Option.bind_some, -Option.bind_none, S] using hc'
    obtain ⟨k, _, rfl⟩ := List.mem_map.mp hc'
    unfold cAt
    rw [List.getD_eq_getElem?_getD]
    cases q : cs[k]? with
    | none => simp [-Option.bind_some, -Option.bind_none]
    | some v =>
      have := hc v (List.mem_of_getElem? q)
      simp [-Option.bind_some, -Option.bind_none]
      omega
theorem levelW {M : Mach} {cs : List Nat} (hc : ∀ c ∈ cs, c < 123) (fu : Nat) (x2 : Sl) (met : List (List Nat)) (F B : Que) (x5 x6 x7 : Sl) (h2 : x2 = .ow false (.ls (F.map (qD cs))) ∨ x2 = .fz (.list (F.map (qD cs)))) (hF : F ≠ []) (x4 : Sl) (h4 : Loose x4) :
    whileS C__law_least_reset_3 B__law_least_reset_3 (fu + 1) [.fz (mD M), .fz (.str (S cs)), x2, .ow false (.dt (met.map entM)), x4, x5, x6, x7, .un] = contW fu (loopS (tgT [(tgN 5), (tgN 6)]) B__law_least_reset_2 (F.map (qD cs)) (stW M cs (.fz (.list (F.map (qD cs)))) met [] x5 x6 x7)) := by
  have nn := ne_nil2 (F.map (qD cs)) fun d hd => by obtain ⟨x, _, rfl⟩ := List.mem_map.mp hd; exact (ok_qD hc x).mono (by omega)
  have ne : (!(F.map (qD cs)).isEmpty) = true := by cases F with | nil => exact absurd rfl hF | cons _ _ => rfl
  rw [ne] at nn
  have t : C__law_least_reset_3 [.fz (mD M), .fz (.str (S cs)), x2, .ow false (.dt (met.map entM)), x4, x5, x6, x7, .un] = .ok true [.fz (mD M), .fz (.str (S cs)), x2, .ow false (.dt (met.map entM)), x4, x5, x6, x7, .un] := by
    have c5 : ∀ ρ : Rho, eFz (eLst []) ρ = .ok (.list []) ρ := fun ρ => by simp [-Option.bind_some, -Option.bind_none]
    have p : pk [.fz (mD M), .fz (.str (S cs)), x2, .ow false (.dt (met.map entM)), x4, x5, x6, x7, .un] 2 = some (.list (F.map (qD cs))) := by
      rcases h2 with rfl | rfl <;> exact Eq.trans rfl rfl
    unfold C__law_least_reset_3
    rw [eT_ap, e2_ap, opd_b, p]
    simp only [ofO_some, Res.bind_ok, opd_g, c5, fin_v, fin_d, p, obind, nn]
  have a1 : setO 4 (eLst []) [.fz (mD M), .fz (.str (S cs)), x2, .ow false (.dt (met.map entM)), x4, x5, x6, x7, .un] = .ok .nx (stW M cs x2 met [] x5 x6 x7) := by
    rw [setO_ap, eLst_ap, eL_nil]
    simp only [Res.bind_ok, List.length_nil, Nat.zero_le, if_true]
    rw [sto_loose (x := x4) (Eq.trans rfl rfl) h4]
    exact Eq.trans rfl rfl
  have a2 : eIt (eV 2) (stW M cs x2 met [] x5 x6 x7) = .ok (F.map (qD cs)) (stW M cs (.fz (.list (F.map (qD cs)))) met [] x5 x6 x7) := by
    rcases h2 with rfl | rfl <;> simp [-Option.bind_some, -Option.bind_none, stW]
  have bd : B__law_least_reset_3 [.fz (mD M), .fz (.str (S cs)), x2, .ow false (.dt (met.map entM)), x4, x5, x6, x7, .un] = (loopS (tgT [(tgN 5), (tgN 6)]) B__law_least_reset_2 (F.map (qD cs)) (stW M cs (.fz (.list (F.map (qD cs)))) met [] x5 x6 x7)).bind fun f r => match f with | .nx => setS 2 (eV 4) r | f => .ok f r := by
    conv => lhs; unfold B__law_least_reset_3
    simp only [seqS_ap, a1, Res.bind_ok, forS_ap, a2] <;> congr 1
  unfold whileS
  rw [t]
  simp only [Res.bind_ok, if_true, bd]
  exact Eq.trans rfl rfl
theorem law_find {M : Mach} {cs : List Nat} (h : Ok M cs.length) (hn : M.length ≤ 20) (hcs : cs.length ≤ 4) (hc : ∀ c ∈ cs, c < 123) {hh : Nat} {met : List (List Nat)} {Q : Que} {r : List Nat} (F : Find M cs.length hh met Q r) : ∀ (A B : Que) (x2 x5 x6 x7 : Sl) (fu : Nat), Q = A ++ B → A ≠ [] → (∀ x ∈ Q, IsSet M.length x.1 ∧ x.2.length + hh < 100000) → hh ≤ fu → met.length + hh < 1000000 → B.length + 4 * hh < 1000000 → Loose x2 → Loose x5 → Loose x6 → Loose x7 →
    ∃ ρ, contW fu (loopS (tgT [(tgN 5), (tgN 6)]) B__law_least_reset_2 (A.map (qD cs)) (stW M cs x2 met B x5 x6 x7)) = .ok (.rt (.str (S (wd cs r)))) ρ := by
  -- the pair is taken apart
  have tg : ∀ (x2 : Sl) (met : List (List Nat)) (B : Que) (x5 x6 x7 : Sl) (T w : List Nat), Loose x5 → Loose x6 → (tgT [(tgN 5), (tgN 6)]).f (qD cs (T, w)) (stW M cs x2 met B x5 x6 x7) = some (stW M cs x2 met B (.fz (.list (T.map I))) (.fz (.str (S (wd cs w)))) x7) := by
    intro x2 met B x5 x6 x7 T w h5 h6
    show (sto _ 5 _).bind (fun r1 => (sto r1 6 _).bind fun r2 => some r2) = _
    rw [sto_loose (x := x5) (Eq.trans rfl rfl) h5]
    show (sto _ 6 _).bind (fun r2 => some r2) = _
    rw [sto_loose (x := x6) (Eq.trans rfl rfl) h6]
    exact Eq.trans rfl rfl
  have test : ∀ (x2 : Sl) (met : List (List Nat)) (B : Que) (x6 x7 : Sl) (T : List Nat), eT (e2 eqD (.g (e1 lenD (.b 5))) (.g (eC (.int 1)))) (stW M cs x2 met B (.fz (.list (T.map I))) x6 x7) = .ok (decide (T.length = 1)) (stW M cs x2 met B (.fz (.list (T.map I))) x6 x7) := by
    intro x2 met B x6 x7 T
    simp [-Option.bind_some, -Option.bind_none, stW]
    omega
  have isin : ∀ (x2 : Sl) (met : List (List Nat)) (B : Que) (x6 x7 : Sl) (T : List Nat), eT (dinE true 3 (e1 tupD (.b 5))) (stW M cs x2 met B (.fz (.list (T.map I))) x6 x7) = .ok (!decide (T ∈ met)) (stW M cs x2 met B (.fz (.list (T.map I))) x6 x7) := by
    intro x2 met B x6 x7 T
    have g := dgetM met T
    have tp : tupD (.list (T.map I)) = some (setD T) := rfl
    by_cases q : T ∈ met
    · rw [if_pos q] at g
      simp [-Option.bind_some, -Option.bind_none, dinE, stW, DL.obS, g, tp, q, -tupD]
    · rw [if_neg q] at g
      simp [-Option.bind_some, -Option.bind_none, dinE, stW, DL.obS, g, tp, q, -tupD]
  -- behind a step
  have next : ∀ {hh : Nat} {met : List (List Nat)} {A B : Que} {r : List Nat} {fu : Nat} {x2 x5 x6 x7 : Sl}, Find M cs.length hh met (A ++ B) r → hh + 1 ≤ fu → Loose x2 → Loose x5 → Loose x6 → Loose x7 → B.length + 4 * hh < 1000000 →
      (∀ (A' B' : Que) (x2 x5 x6 x7 : Sl) (fu : Nat), A ++ B = A' ++ B' → A' ≠ [] → hh ≤ fu → B'.length + 4 * hh < 1000000 → Loose x2 → Loose x5 → Loose x6 → Loose x7 → ∃ ρ, contW fu (loopS (tgT [(tgN 5), (tgN 6)]) B__law_least_reset_2 (A'.map (qD cs)) (stW M cs x2 met B' x5 x6 x7)) = .ok (.rt (.str (S (wd cs r)))) ρ) →
      ∃ ρ, contW fu (loopS (tgT [(tgN 5), (tgN 6)]) B__law_least_reset_2 (A.map (qD cs)) (stW M cs x2 met B x5 x6 x7)) = .ok (.rt (.str (S (wd cs r)))) ρ := by
    intro hh met A B r fu x2 x5 x6 x7 F hf h2 h5 h6 h7 hB ih
    by_cases hA : A = []
    · subst hA
      have hB0 : B ≠ [] := fun z => by subst z; exact find_ne F
      obtain ⟨fu, rfl⟩ : ∃ k, fu = k + 1 := ⟨fu - 1, by omega⟩
      obtain ⟨ρ, e⟩ := ih B [] (.fz (.list (B.map (qD cs)))) x5 x6 x7 fu (by simp [-Option.bind_some, -Option.bind_none]) hB0 (by omega) (by simp only [List.length_nil]; omega) (.inr (.inl ⟨_, rfl⟩)) h5 h6 h7
      refine ⟨ρ, ?_⟩
      have lv := levelW (M := M) hc fu (.fz (.list (B.map (qD cs)))) met B [] x5 x6 x7 (.inr rfl) hB0 (.fz (.list (B.map (qD cs)))) (.inr (.inl ⟨_, rfl⟩))
      rw [← lv] at e
      have st : setS 2 (eV 4) (stW M cs x2 met B x5 x6 x7) = .ok .nx [.fz (mD M), .fz (.str (S cs)), .fz (.list (B.map (qD cs))), .ow false (.dt (met.map entM)), .fz (.list (B.map (qD cs))), x5, x6, x7, .un] := by
        have ev : eV 4 (stW M cs x2 met B x5 x6 x7) = .ok (.list (B.map (qD cs))) [.fz (mD M), .fz (.str (S cs)), x2, .ow false (.dt (met.map entM)), .fz (.list (B.map (qD cs))), x5, x6, x7, .un] := by simp [-Option.bind_some, -Option.bind_none, stW]
        rw [setS_ap, ev]
        simp only [Res.bind_ok]
        rw [sto_loose (x := x2) (Eq.trans rfl rfl) h2]
        exact Eq.trans rfl rfl
      have l0 : loopS (tgT [(tgN 5), (tgN 6)]) B__law_least_reset_2 (([] : Que).map (qD cs)) (stW M cs x2 met B x5 x6 x7) = .ok .nx (stW M cs x2 met B x5 x6 x7) := Eq.trans rfl rfl
      rw [l0]
      unfold contW
      simp only [Res.bind_ok, st]
      exact e
    · exact ih A B x2 x5 x6 x7 fu rfl hA (by omega) hB h2 h5 h6 h7
  induction F with
  | @hit hh met Q T w h1 =>
    intro A B x2 x5 x6 x7 fu hQ hA hq hf hm hB h2 h5 h6 h7
    cases A with
    | nil => exact absurd rfl hA
    | cons a A =>
      rw [List.cons_append] at hQ
      obtain ⟨rfl, rfl⟩ := List.cons.inj hQ
      refine ⟨stW M cs x2 met B (.fz (.list (T.map I))) (.fz (.str (S (wd cs w)))) x7, ?_⟩
      have rv : rtS (eV 6) (stW M cs x2 met B (.fz (.list (T.map I))) (.fz (.str (S (wd cs w)))) x7) = .ok (.rt (.str (S (wd cs w)))) (stW M cs x2 met B (.fz (.list (T.map I))) (.fz (.str (S (wd cs w)))) x7) := by simp [-Option.bind_some, -Option.bind_none, stW]
      rw [List.map_cons]
      unfold loopS
      rw [tg x2 met B x5 x6 x7 T w h5 h6]
      unfold B__law_least_reset_2
      simp only [seqS_ap, ifS_ap, test, h1, decide_true, Res.bind_ok, if_true, rv]
      exact Eq.trans rfl rfl
  | @skip hh met Q T w r h1 h2' F' ih =>
    intro A B x2 x5 x6 x7 fu hQ hA hq hf hm hB h2 h5 h6 h7
    cases A with
    | nil => exact absurd rfl hA
    | cons a A =>
      rw [List.cons_append] at hQ
      obtain ⟨rfl, rfl⟩ := List.cons.inj hQ
      obtain ⟨ρ, e⟩ := next (x2 := x2) (x5 := .fz (.list (T.map I))) (x6 := .fz (.str (S (wd cs w)))) (x7 := x7) (fu := fu) F' hf h2 (.inr (.inl ⟨_, rfl⟩)) (.inr (.inl ⟨_, rfl⟩)) h7 (by omega) fun A' B' y2 y5 y6 y7 fu' hQ' hA' hf' hB' l2 l5 l6 l7 => ih A' B' y2 y5 y6 y7 fu' hQ' hA' (fun x hx => by
        obtain ⟨a, b⟩ := hq x (by simp [-Option.bind_some, -Option.bind_none, hx])
        exact ⟨a, by omega⟩) hf' (by omega) hB' l2 l5 l6 l7
      refine ⟨ρ, ?_⟩
      rw [← e]
      congr 1
      rw [List.map_cons]
      conv => lhs; unfold loopS
      rw [tg x2 met B x5 x6 x7 T w h5 h6]
      have b : B__law_least_reset_2 (stW M cs x2 met B (.fz (.list (T.map I))) (.fz (.str (S (wd cs w)))) x7) = .ok .nx (stW M cs x2 met B (.fz (.list (T.map I))) (.fz (.str (S (wd cs w)))) x7) := by
        unfold B__law_least_reset_2
        simp only [seqS_ap, ifS_ap, test, h1, decide_false, Res.bind_ok, Bool.false_eq_true, if_false, nxS_ap, isin, h2', decide_true, Bool.not_true]
      simp only [b, Res.bind_ok]
  | @go hh met Q T w r h1 h2' F' ih =>
    intro A B x2 x5 x6 x7 fu hQ hA hq hf hm hB h2 h5 h6 h7
    cases A with
    | nil => exact absurd rfl hA
    | cons a A =>
      rw [List.cons_append] at hQ
      obtain ⟨rfl, rfl⟩ := List.cons.inj hQ
      obtain ⟨qs, qw⟩ := hq (T, w) (by simp [-Option.bind_some, -Option.bind_none])
      simp only at qs qw
      obtain ⟨y7, l7, eo⟩ := outsW h hn hcs x2 (met ++ [T]) T w qs (by omega) cs.length 0 B x7 (by omega) (by omega) h7
      have eo2 : (List.range' 0 cs.length).map (fun k => (img M k T, w ++ [k])) = outs M cs.length T w := by
        unfold outs
        rw [List.range_eq_range']
      rw [eo2] at eo
      have ol : (outs M cs.length T w).length = cs.length := by unfold outs; simp [-Option.bind_some, -Option.bind_none]
      rw [List.append_assoc] at F'
      obtain ⟨ρ, e⟩ := next (x2 := x2) (x5 := .fz (.list (T.map I))) (x6 := .fz (.str (S (wd cs w)))) (x7 := y7) (fu := fu) F' hf h2 (.inr (.inl ⟨_, rfl⟩)) (.inr (.inl ⟨_, rfl⟩)) l7 (by rw [List.length_append, ol]; omega) fun A' B' y2 y5 y6 y7 fu' hQ' hA' hf' hB' l2 l5 l6 l7 => ih A' B' y2 y5 y6 y7 fu' (by rw [← hQ', List.append_assoc]) hA' (fun x hx => by
        rcases List.mem_append.mp hx with z | z
        · obtain ⟨a, b⟩ := hq x (by simp only [List.mem_cons]; exact .inr z)
          exact ⟨a, by omega⟩
        · unfold outs at z
          obtain ⟨k, hk, rfl⟩ := List.mem_map.mp z
          exact ⟨img_set h (List.mem_range.mp hk) qs, by simp only [List.length_append, List.length_singleton]; omega⟩) hf' (by rw [List.length_append, List.length_singleton]; omega) hB' l2 l5 l6 l7
      refine ⟨ρ, ?_⟩
      rw [← e]
      congr 1
      rw [List.map_cons]
      conv => lhs; unfold loopS
      rw [tg x2 met B x5 x6 x7 T w h5 h6]
      have dp := dputM met T h2' (by omega)
      have tp : tupD (.list (T.map I)) = some (setD T) := rfl
      have s1 : dputS 3 (e1 tupD (.b 5)) (eC (.bool true)) (stW M cs x2 met B (.fz (.list (T.map I))) (.fz (.str (S (wd cs w)))) x7) = .ok .nx (stW M cs x2 (met ++ [T]) B (.fz (.list (T.map I))) (.fz (.str (S (wd cs w)))) x7) := by
        simp [-Option.bind_some, -Option.bind_none, dputS, stW, DL.obS, tp, dp, -tupD]
      have rg := rg1_I cs.length (by omega)
      have ls := len_str cs (by omega)
      have s2 : e1 rg1D (.g (e1 lenD (.b 1))) (stW M cs x2 (met ++ [T]) B (.fz (.list (T.map I))) (.fz (.str (S (wd cs w)))) x7) = .ok ((List.range' 0 cs.length).map I) (stW M cs x2 (met ++ [T]) B (.fz (.list (T.map I))) (.fz (.str (S (wd cs w)))) x7) := by
        simp [-Option.bind_some, -Option.bind_none, stW, ls, rg, ← List.range_eq_range']
      have b : B__law_least_reset_2 (stW M cs x2 met B (.fz (.list (T.map I))) (.fz (.str (S (wd cs w)))) x7) = .ok .nx (stW M cs x2 (met ++ [T]) (B ++ outs M cs.length T w) (.fz (.list (T.map I))) (.fz (.str (S (wd cs w)))) y7) := by
        unfold B__law_least_reset_2
        simp only [seqS_ap, ifS_ap, test, h1, decide_false, Res.bind_ok, Bool.false_eq_true, if_false, nxS_ap, isin, h2', Bool.not_false, if_true, s1, forS_ap, s2, eo]
      simp only [b, Res.bind_ok]
theorem law_least_run {M : Mach} {cs : List Nat} (h : Ok M cs.length) (hn : M.length ≤ 16) (hcs : cs.length ≤ 4) (hc : ∀ c ∈ cs, c < 123) {hh : Nat} {r : List Nat} (F : Find M cs.length hh [] [(List.range M.length, [])] r) (hb : hh < 90000) :
    F__law_least_reset [.fz (mD M), .fz (.str (S cs))] = .ok (.str (S (wd cs r))) [.un, .un] := by
  have lm : lenD (mD M) = some (.int (M.length : Int)) := by
    show some (PyData.int ((M.map rowD).length : Int)) = _
    rw [List.length_map]
  obtain ⟨ρ, e⟩ := law_find h (by omega) hcs hc F [(List.range M.length, [])] [] (.fz (.list ([(List.range M.length, [])].map (qD cs)))) .un .un .un 99999 rfl (by simp [-Option.bind_some, -Option.bind_none]) (fun x hx => by
    have : x = (List.range M.length, []) := by simpa [-Option.bind_some, -Option.bind_none] using hx
    subst this
    exact ⟨range_set h.1, by simp only [List.length_nil]; omega⟩) (by omega) (by simp only [List.length_nil]; omega) (by simp only [List.length_nil]; omega) (.inr (.inl ⟨_, rfl⟩)) (.inl rfl) (.inl rfl) (.inl rfl)
  have lv := levelW (M := M) hc 99999 (.ow false (.ls ([(List.range M.length, [])].map (qD cs)))) [] [(List.range M.length, [])] [] .un .un .un (.inl rfl) (by simp [-Option.bind_some, -Option.bind_none]) .un (.inl rfl)
  rw [← lv] at e
  have lr : lrg1 (.int (M.length : Int)) = some (.ls ((List.range M.length).map I)) := by
    show (if rgC 0 (M.length : Int) = true then some (Ob.ls (rgD 0 (M.length : Int))) else none) = _
    rw [if_pos (rgC_ok (by omega)), rgD_n]
  have a1 : setO 2 (eLst [(eTup [(eFz (e1 lrg1 (.g (e1 lenD (.b 0))))), (eC (.str (Str.ofString "")))])]) [.fz (mD M), .fz (.str (S cs)), .un, .un, .un, .un, .un, .un, .un] = .ok .nx [.fz (mD M), .fz (.str (S cs)), .ow false (.ls ([(List.range M.length, [])].map (qD cs))), .un, .un, .un, .un, .un, .un] := by
    simp [-Option.bind_some, -Option.bind_none, lm, lr, -lrg1]
    exact Eq.trans rfl rfl
  have a2 : setO 3 newT [.fz (mD M), .fz (.str (S cs)), .ow false (.ls ([(List.range M.length, [])].map (qD cs))), .un, .un, .un, .un, .un, .un] = .ok .nx [.fz (mD M), .fz (.str (S cs)), .ow false (.ls ([(List.range M.length, [])].map (qD cs))), .ow false (.dt (([] : List (List Nat)).map entM)), .un, .un, .un, .un, .un] := by
    simp [-Option.bind_some, -Option.bind_none, newT]
  have fin : ∀ ρ : Rho, outOf [.fz (mD M), .fz (.str (S cs))] ρ = [.un, .un] := fun ρ => by
    match ρ with
    | [] => rfl
    | [a] => rfl
    | a :: b :: ρ => rfl
  refine bodyF_rt (n := 9) (g := g__law_least_reset) (ρ0 := [.fz (mD M), .fz (.str (S cs)), .un, .un, .un, .un, .un, .un, .un]) (r := ρ) rfl ?_ (fin ρ)
  unfold g__law_least_reset
  simp only [seqS_ap, a1, a2, e, Res.bind_ok]
end K66
end
section
set_option autoImplicit false
set_option maxRecDepth 100000
set_option Elab.async false
set_option linter.all false
namespace K66
open PySem DL L2 SX
/-! ### papers that are judged -/
def isL (n : Nat) (d : D) : Bool := match d with
  | .int i => decide (0 ≤ i) && decide (i < (n : Int))
  | _ => false
theorem line_comp (M : Mach) (d : D) (hd : okN 60 d) : F_is_line [.fz (mD M), .fz d] = .ok (.bool (isL M.length d)) [.un, .un] ∧ F__law_is_line [.fz (mD M), .fz d] = .ok (.bool (isL M.length d)) [.un, .un] := by
  have lm : lenD (mD M) = some (.int (M.length : Int)) := by
    show some (PyData.int ((M.map rowD).length : Int)) = _
    rw [List.length_map]
  have key : (rtS (eAndV (e1 (isiD "int") (.b 1)) (eAndV (eNotV (e1 (isiD "bool") (.b 1))) (eCh (cmpI leI) (cmpI ltI) (.g (eC (.int 0))) (.b 1) (.g (e1 lenD (.b 0))))))) [.fz (mD M), .fz d] = .ok (.rt (.bool (isL M.length d))) [.fz (mD M), .fz d] := by
    cases d with
    | int i =>
      have i1 : isiD "int" (.int i) = some (.bool true) := rfl
      have i2 : isiD "bool" (.int i) = some (.bool false) := rfl
      by_cases h0 : 0 ≤ i
      · simp [-Option.bind_some, -Option.bind_none, i1, i2, eCh, lm, isL, h0]
      · simp [-Option.bind_some, -Option.bind_none, i1, i2, eCh, lm, isL, h0]
    | bool b =>
      have i1 : isiD "int" (.bool b) = some (.bool true) := rfl
      have i2 : isiD "bool" (.bool b) = some (.bool true) := rfl
      simp [-Option.bind_some, -Option.bind_none, i1, i2, isL]
    | none =>
      have i1 : isiD "int" .none = some (.bool false) := rfl
      simp [-Option.bind_some, -Option.bind_none, i1, isL]
    | str z =>
      have i1 : isiD "int" (.str z) = some (.bool false) := rfl
      simp [-Option.bind_some, -Option.bind_none, i1, isL]
    | list z =>
      have i1 : isiD "int" (.list z) = some (.bool false) := rfl
      simp [-Option.bind_some, -Option.bind_none, i1, isL]
    | tuple z =>
      have i1 : isiD "int" (.tuple z) = some (.bool false) := rfl
      simp [-Option.bind_some, -Option.bind_none, i1, isL]
    | dict z => exact absurd hd.1 (by intro z; cases z)
  exact ⟨bodyF_rt (n := 2) (g := g_is_line) (ρ0 := [.fz (mD M), .fz d]) rfl key rfl, bodyF_rt (n := 2) (g := g__law_is_line) (ρ0 := [.fz (mD M), .fz d]) rfl key rfl⟩
def ltD (a b : D) : Bool := match a, b with
  | .int i, .int j => decide (i < j)
  | _, _ => false
def okP (n : Nat) (d : D) : Bool := match d with
  | .tuple [p, q] => isL n p && isL n q && ltD p q
  | _ => false
theorem isL_I {n : Nat} {d : D} (h : isL n d = true) : ∃ p : Nat, d = I p ∧ p < n := by
  unfold isL at h
  split at h
  · rename_i i
    simp only [Bool.and_eq_true, decide_eq_true_eq] at h
    obtain ⟨p, rfl⟩ := Int.eq_ofNat_of_zero_le h.1
    exact ⟨p, rfl, by omega⟩
  · cases h
theorem okP_pD {n : Nat} {d : D} (h : okP n d = true) : ∃ x : Nat × Nat, d = pD x ∧ x.1 < x.2 ∧ x.2 < n := by
  unfold okP at h
  split at h
  · rename_i p q
    simp only [Bool.and_eq_true] at h
    obtain ⟨⟨h1, h2⟩, h3⟩ := h
    obtain ⟨a, rfl, ha⟩ := isL_I h1
    obtain ⟨b, rfl, hb⟩ := isL_I h2
    have h3 : decide ((a : Int) < (b : Int)) = true := h3
    have := of_decide_eq_true h3
    exact ⟨(a, b), rfl, by omega, hb⟩
  · cases h
theorem loop_all {t : Tg} {body : Ev Fl} {st : Sl → Rho} (f : D → Bool) : ∀ (ds : List D) (x : Sl), Loose x → (∀ x, Loose x → ∀ d ∈ ds, t.f d (st x) = some (st (.fz d)) ∧ body (st (.fz d)) = if f d = true then .ok .nx (st (.fz d)) else .ok (.rt (.bool false)) (st (.fz d))) →
    ∃ x', Loose x' ∧ loopS t body ds (st x) = if ds.all f = true then .ok .nx (st x') else .ok (.rt (.bool false)) (st x')
  | [], x, hx, _ => ⟨x, hx, Eq.trans rfl rfl⟩
  | d :: ds, x, hx, h => by
    obtain ⟨h1, h2⟩ := h x hx d (by simp [-Option.bind_some, -Option.bind_none])
    have lf : Loose (.fz d) := .inr (.inl ⟨_, rfl⟩)
    obtain ⟨x', l', e⟩ := loop_all (t := t) (body := body) (st := st) f ds (.fz d) lf fun y hy z hz => h y hy z (by simp [-Option.bind_some, -Option.bind_none, hz])
    by_cases q : f d = true
    · refine ⟨x', l', ?_⟩
      rw [if_pos q] at h2
      unfold loopS
      rw [h1]
      simp only [h2, Res.bind_ok]
      rw [e]
      simp [-Option.bind_some, -Option.bind_none, q]
    · refine ⟨.fz d, lf, ?_⟩
      rw [if_neg q] at h2
      unfold loopS
      rw [h1]
      simp only [h2, Res.bind_ok]
      simp [-Option.bind_some, -Option.bind_none, q]
theorem isi_tup (d : D) (hd : okN 60 d) : isiD "tuple" d = some (.bool (match d with | .tuple _ => true | _ => false)) := by
  cases d with
  | dict z => exact absurd hd.1 (by intro z; cases z)
  | _ => rfl
theorem isi_str (d : D) (hd : okN 60 d) : isiD "str" d = some (.bool (match d with | .str _ => true | _ => false)) := by
  cases d with
  | dict z => exact absurd hd.1 (by intro z; cases z)
  | _ => rfl
/-- what a paper of pairs says -/
def f2 (M : Mach) (c : Nat) (ps : List D) (d : D) : Bool := match d with
  | .tuple [.int a, .int b] => (List.range c).all fun k => inAny (pD (beh M (a.toNat, b.toNat) k)) ps
  | _ => false
theorem f2_pD (M : Mach) (c : Nat) (ps : List D) (x : Nat × Nat) : f2 M c ps (pD x) = (List.range c).all fun k => inAny (pD (beh M x k)) ps := by
  show ((List.range c).all fun k => inAny (pD (beh M ((x.1 : Int).toNat, (x.2 : Int).toNat) k)) ps) = _
  simp [-Option.bind_some, -Option.bind_none]
/-! the program's judge: the first loop -/
def stJ (M : Mach) (cs : List Nat) (d : D) (x3 x4 x5 : Sl) : Rho := [.fz (mD M), .fz (.str (S cs)), .fz d, x3, x4, x5, .un, .un]
theorem tup2 (d : D) (h : okP 0 d = true ∨ True) : True := trivial
theorem j1 (M : Mach) (cs : List Nat) (d0 : D) (d : D) (hd : okN 50 d) : B_judge_reset_2 (stJ M cs d0 .un .un (.fz d)) = if okP M.length d = true then .ok .nx (stJ M cs d0 .un .un (.fz d)) else .ok (.rt (.bool false)) (stJ M cs d0 .un .un (.fz d)) := by
  have it := isi_tup d (hd.mono (by omega))
  unfold B_judge_reset_2
  match d, hd, it with
  | .tuple ds, hd, it =>
    have it : isiD "tuple" (.tuple ds) = some (.bool true) := it
    by_cases hl : ds.length = 2
    · match ds, hl, hd, it with
      | [p, q], _, hd, it =>
        have hp := tup_ok (n := 49) hd p (by simp [-Option.bind_some, -Option.bind_none])
        have hq := tup_ok (n := 49) hd q (by simp [-Option.bind_some, -Option.bind_none])
        have lp := (line_comp M p (hp.mono (by omega))).1
        have lq := (line_comp M q (hq.mono (by omega))).1
        have a1 : ifS (eOr (eNot (e1 truD (.g (e1 (isiD "tuple") (.b 5))))) (eT (e2 neD (.g (e1 lenD (.b 5))) (.g (eC (.int 2)))))) (rtS (eC (.bool false))) nxS (stJ M cs d0 .un .un (.fz (.tuple [p, q]))) = .ok .nx (stJ M cs d0 .un .un (.fz (.tuple [p, q]))) := by
          simp [-Option.bind_some, -Option.bind_none, stJ, it, truD]
        have a2 : lcLoop (tgN 6) yesT (callE (F_is_line) [.g (eV 0), .g (eV 6)]) [6] [p, q] 0 (stJ M cs d0 .un .un (.fz (.tuple [p, q]))) = .ok [.bool (isL M.length p), .bool (isL M.length q)] (stJ M cs d0 .un .un (.fz (.tuple [p, q]))) := by
          have := lc_map (t := tgN 6) (te := callE (F_is_line) [.g (eV 0), .g (eV 6)]) (vs := [6]) (ρ := stJ M cs d0 .un .un (.fz (.tuple [p, q]))) (fun x : D => x) (fun x => .bool (isL M.length x)) [p, q] 0 (by simp [-Option.bind_some, -Option.bind_none]) fun x hx => ?_
          · simpa [-Option.bind_some, -Option.bind_none] using this
          · have hx' := tup_ok (n := 49) hd x hx
            have lx := (line_comp M x (hx'.mono (by omega))).1
            refine ⟨[.fz (mD M), .fz (.str (S cs)), .fz d0, .un, .un, .fz (.tuple [p, q]), .fz x, .un], [.fz (mD M), .fz (.str (S cs)), .fz d0, .un, .un, .fz (.tuple [p, q]), .fz x, .un], Eq.trans rfl rfl, ?_, Eq.trans rfl rfl⟩
            simp [-Option.bind_some, -Option.bind_none, callR, slots, mk, lx, put]
        have a3 : eFz (lcE (eIt (eV 5)) (tgN 6) yesT (callE (F_is_line) [.g (eV 0), .g (eV 6)]) [6]) (stJ M cs d0 .un .un (.fz (.tuple [p, q]))) = .ok (.list [.bool (isL M.length p), .bool (isL M.length q)]) (stJ M cs d0 .un .un (.fz (.tuple [p, q]))) := by
          have c1 : eIt (eV 5) (stJ M cs d0 .un .un (.fz (.tuple [p, q]))) = .ok [p, q] (stJ M cs d0 .un .un (.fz (.tuple [p, q]))) := by simp [-Option.bind_some, -Option.bind_none, stJ]
          have c2 : wipeR (stJ M cs d0 .un .un (.fz (.tuple [p, q]))) [6] = stJ M cs d0 .un .un (.fz (.tuple [p, q])) := Eq.trans rfl rfl
          rw [eFz_ap, lcE_ap, c1]
          simp only [Res.bind_ok, c2, a2]
        have a4 : inD (.bool false) (.list [.bool (isL M.length p), .bool (isL M.length q)]) = some (.bool (!(isL M.length p && isL M.length q))) := by
          have := in_B [isL M.length p, isL M.length q] false
          refine this.trans ?_
          cases isL M.length p <;> cases isL M.length q <;> rfl
        have a5 : eT (e2 inD (.g (eC (.bool false))) (.g (eFz (lcE (eIt (eV 5)) (tgN 6) yesT (callE (F_is_line) [.g (eV 0), .g (eV 6)]) [6])))) (stJ M cs d0 .un .un (.fz (.tuple [p, q]))) = .ok (!(isL M.length p && isL M.length q)) (stJ M cs d0 .un .un (.fz (.tuple [p, q]))) := by
          rw [eT_ap, e2_ap, opd_g, eC_ap]
          simp only [Res.bind_ok, opd_g, a3, fin_d, obind, a4, ofO_some]
        simp only [seqS_ap, a1, Res.bind_ok, ifS_ap, eOr_ap, a5]
        by_cases c : (isL M.length p && isL M.length q) = true
        · have cpq : isL M.length p = true ∧ isL M.length q = true := by simpa [-Option.bind_some, -Option.bind_none] using c
          obtain ⟨a, rfl, ha⟩ := isL_I cpq.1
          obtain ⟨b, rfl, hb⟩ := isL_I cpq.2
          have e : okP M.length (.tuple [I a, I b]) = decide ((a : Int) < (b : Int)) := by
            show (isL M.length (I a) && isL M.length (I b) && decide ((a : Int) < (b : Int))) = _
            rw [c, Bool.true_and]
          rw [c, e]
          by_cases lt : (a : Int) < (b : Int)
          · have ge : ¬ ((b : Int) ≤ (a : Int)) := by omega
            simp [-Option.bind_some, -Option.bind_none, stJ, I, lt, ge]
          · have ge : ((b : Int) ≤ (a : Int)) := by omega
            simp [-Option.bind_some, -Option.bind_none, stJ, I, lt, ge]
        · have c : (isL M.length p && isL M.length q) = false := by simpa [-Option.bind_some, -Option.bind_none] using c
          have e : okP M.length (.tuple [p, q]) = false := by
            show (isL M.length p && isL M.length q && ltD p q) = false
            rw [c, Bool.false_and]
          rw [c, e]
          simp [-Option.bind_some, -Option.bind_none]
    · have e : okP M.length (.tuple ds) = false := by
        match ds, hl with
        | [], _ => rfl
        | [_], _ => rfl
        | [_, _], h => exact absurd rfl h
        | _ :: _ :: _ :: _, _ => rfl
      have hl' : ¬ ((ds.length : Int) = 2) := by omega
      rw [e]
      simp [-Option.bind_some, -Option.bind_none, stJ, it, truD, hl']
  | .none, hd, it => exact (by have it : isiD "tuple" .none = some (.bool false) := it; simp [-Option.bind_some, -Option.bind_none, stJ, it, truD, okP])
  | .bool _, hd, it => exact (by rename_i b; have it : isiD "tuple" (.bool b) = some (.bool false) := it; simp [-Option.bind_some, -Option.bind_none, stJ, it, truD, okP])
  | .int _, hd, it => exact (by rename_i b; have it : isiD "tuple" (.int b) = some (.bool false) := it; simp [-Option.bind_some, -Option.bind_none, stJ, it, truD, okP])
  | .str _, hd, it => exact (by rename_i b; have it : isiD "tuple" (.str b) = some (.bool false) := it; simp [-Option.bind_some, -Option.bind_none, stJ, it, truD, okP])
  | .list _, hd, it => exact (by rename_i b; have it : isiD "tuple" (.list b) = some (.bool false) := it; simp [-Option.bind_some, -Option.bind_none, stJ, it, truD, okP])
  | .dict _, hd, it => exact absurd hd.1 (by intro z; cases z)
end K66
end
section
set_option autoImplicit false
set_option maxRecDepth 100000
set_option Elab.async false
set_option linter.all false
namespace K66
open PySem DL L2 SX
theorem any_false (bs : List Bool) : (bs.any fun z => z == false) = !bs.all fun z => z := by
  induction bs with
  | nil => rfl
  | cons b bs ih =>
    rw [List.any_cons, List.all_cons, ih]
    cases b <;> simp [-Option.bind_some, -Option.bind_none]
/-- the second loop's test -/
theorem j2 {M : Mach} {cs : List Nat} (h : Ok M cs.length) (hc : cs.length ≤ 4) (d0 : D) (ps : List D) (h0 : ixD d0 (.int 1) = some (.tuple ps)) (hps : ∀ p ∈ ps, okN 48 p) (x : Nat × Nat) (hx : x.1 < x.2) (hx2 : x.2 < M.length) :
    B_judge_reset_3 (stJ M cs d0 .un .un (.fz (pD x))) = if f2 M cs.length ps (pD x) = true then .ok .nx (stJ M cs d0 .un .un (.fz (pD x))) else .ok (.rt (.bool false)) (stJ M cs d0 .un .un (.fz (pD x))) := by
  have ls := len_str cs (by omega)
  have rg := rg1_I cs.length (by omega)
  have a1 : e1 rg1D (.g (e1 lenD (.b 1))) (stJ M cs d0 .un .un (.fz (pD x))) = .ok ((List.range cs.length).map I) (stJ M cs d0 .un .un (.fz (pD x))) := by
    simp [-Option.bind_some, -Option.bind_none, stJ, ls, rg]
  have a2 : wipeR (stJ M cs d0 .un .un (.fz (pD x))) [7] = stJ M cs d0 .un .un (.fz (pD x)) := Eq.trans rfl rfl
  have a3 : lcLoop (tgN 7) yesT (e2 inD (.g (callE (F_pair_behind) [.g (eV 0), .g (eV 7), .g (eV 5)])) (.g (e2 ixD (.b 2) (.g (eC (.int 1)))))) [7] ((List.range cs.length).map I) 0 (stJ M cs d0 .un .un (.fz (pD x))) = .ok ((List.range cs.length).map fun k => .bool (inAny (pD (beh M x k)) ps)) (stJ M cs d0 .un .un (.fz (pD x))) := by
    refine lc_map I (fun k => .bool (inAny (pD (beh M x k)) ps)) _ 0 (by simp [-Option.bind_some, -Option.bind_none]; omega) fun k hk => ?_
    have bc := (beh_comp h x (by omega) hx2 (List.mem_range.mp hk)).1
    have im := inT_ok (d := pD (beh M x k)) (ds := ps) ((ok_pD _).mono (by omega)) fun p hp => (hps p hp).mono (by omega)
    refine ⟨[.fz (mD M), .fz (.str (S cs)), .fz d0, .un, .un, .fz (pD x), .un, .fz (I k)], [.fz (mD M), .fz (.str (S cs)), .fz d0, .un, .un, .fz (pD x), .un, .fz (I k)], Eq.trans rfl rfl, ?_, Eq.trans rfl rfl⟩
    simp [-Option.bind_some, -Option.bind_none, callR, slots, mk, bc, put, h0, im]
  have a4 : inD (.bool false) (.list ((List.range cs.length).map fun k => .bool (inAny (pD (beh M x k)) ps))) = some (.bool (!f2 M cs.length ps (pD x))) := by
    have z := in_B ((List.range cs.length).map fun k => inAny (pD (beh M x k)) ps) false
    rw [List.map_map] at z
    refine z.trans ?_
    rw [any_false, f2_pD, List.all_map]
    rfl
  have a5 : eT (e2 inD (.g (eC (.bool false))) (.g (eFz (lcE (e1 rg1D (.g (e1 lenD (.b 1)))) (tgN 7) yesT (e2 inD (.g (callE (F_pair_behind) [.g (eV 0), .g (eV 7), .g (eV 5)])) (.g (e2 ixD (.b 2) (.g (eC (.int 1)))))) [7])))) (stJ M cs d0 .un .un (.fz (pD x))) = .ok (!f2 M cs.length ps (pD x)) (stJ M cs d0 .un .un (.fz (pD x))) := by
    have c1 : eFz (lcE (e1 rg1D (.g (e1 lenD (.b 1)))) (tgN 7) yesT (e2 inD (.g (callE (F_pair_behind) [.g (eV 0), .g (eV 7), .g (eV 5)])) (.g (e2 ixD (.b 2) (.g (eC (.int 1)))))) [7]) (stJ M cs d0 .un .un (.fz (pD x))) = .ok (.list ((List.range cs.length).map fun k => .bool (inAny (pD (beh M x k)) ps))) (stJ M cs d0 .un .un (.fz (pD x))) := by
      rw [eFz_ap, lcE_ap, a1]
      simp only [Res.bind_ok, a2, a3]
    rw [eT_ap, e2_ap, opd_g, eC_ap]
    simp only [Res.bind_ok, opd_g, c1, fin_d, obind, a4, ofO_some]
  unfold B_judge_reset_3
  rw [ifS_ap, a5]
  cases f2 M cs.length ps (pD x) <;> simp [-Option.bind_some, -Option.bind_none]
/-! the law's judge -/
def stB (M : Mach) (cs : List Nat) (d b : D) (x4 : Sl) : Rho := [.fz (mD M), .fz (.str (S cs)), .fz d, .fz b, x4, .un, .un, .un]
theorem id_filter {t : Tg} {tt : Ev Bool} {te : Ev D} {vs : List Nat} {ρ : Rho} (f : D → Bool) (l : List D) (n : Nat) (hn : n + l.length ≤ 16777216)
    (h : ∀ x ∈ l, ∃ r1 r2, t.f x ρ = some r1 ∧ tt r1 = .ok (f x) r2 ∧ wipeR r2 vs = ρ ∧ ∃ r3, te r2 = .ok x r3 ∧ wipeR r3 vs = ρ) : lcLoop t tt te vs l n ρ = .ok (l.filter f) ρ := by
  have z := lc_filter (fun x : D => x) f l n hn h
  simpa [-Option.bind_some, -Option.bind_none] using z
theorem l1 (M : Mach) (cs : List Nat) (d0 b : D) (d : D) (hd : okN 48 d) : B__law_accepts_1 (stB M cs d0 b (.fz d)) = if okP M.length d = true then .ok .nx (stB M cs d0 b (.fz d)) else .ok (.rt (.bool false)) (stB M cs d0 b (.fz d)) := by
  have it := isi_tup d (hd.mono (by omega))
  unfold B__law_accepts_1
  match d, hd, it with
  | .tuple ds, hd, it =>
    have it : isiD "tuple" (.tuple ds) = some (.bool true) := it
    by_cases hl : ds.length = 2
    · match ds, hl, hd, it with
      | [p, q], _, hd, it =>
        have a2 : lcLoop (tgN 6) (eNot (e1 truD (.g (callE (F__law_is_line) [.g (eV 0), .g (eV 6)])))) (eV 6) [6] [p, q] 0 (stB M cs d0 b (.fz (.tuple [p, q]))) = .ok ([p, q].filter fun x => !isL M.length x) (stB M cs d0 b (.fz (.tuple [p, q]))) := by
          refine id_filter (fun x => !isL M.length x) [p, q] 0 (by simp [-Option.bind_some, -Option.bind_none]) fun x hx => ?_
          have hx' := tup_ok (n := 47) hd x hx
          have lx := (line_comp M x (hx'.mono (by omega))).2
          refine ⟨[.fz (mD M), .fz (.str (S cs)), .fz d0, .fz b, .fz (.tuple [p, q]), .un, .fz x, .un], [.fz (mD M), .fz (.str (S cs)), .fz d0, .fz b, .fz (.tuple [p, q]), .un, .fz x, .un], Eq.trans rfl rfl, ?_, Eq.trans rfl rfl, [.fz (mD M), .fz (.str (S cs)), .fz d0, .fz b, .fz (.tuple [p, q]), .un, .fz x, .un], by simp [-Option.bind_some, -Option.bind_none], Eq.trans rfl rfl⟩
          simp [-Option.bind_some, -Option.bind_none, callR, slots, mk, lx, put, truD]
        have a3 : eFz (lcE (eIt (eV 4)) (tgN 6) (eNot (e1 truD (.g (callE (F__law_is_line) [.g (eV 0), .g (eV 6)])))) (eV 6) [6]) (stB M cs d0 b (.fz (.tuple [p, q]))) = .ok (.list ([p, q].filter fun x => !isL M.length x)) (stB M cs d0 b (.fz (.tuple [p, q]))) := by
          have c1 : eIt (eV 4) (stB M cs d0 b (.fz (.tuple [p, q]))) = .ok [p, q] (stB M cs d0 b (.fz (.tuple [p, q]))) := by simp [-Option.bind_some, -Option.bind_none, stB]
          have c2 : wipeR (stB M cs d0 b (.fz (.tuple [p, q]))) [6] = stB M cs d0 b (.fz (.tuple [p, q])) := Eq.trans rfl rfl
          rw [eFz_ap, lcE_ap, c1]
          simp only [Res.bind_ok, c2, a2]
        have a4 : neD (.list ([p, q].filter fun x => !isL M.length x)) (.list []) = some (.bool (!(isL M.length p && isL M.length q))) := by
          rw [ne_nil2 _ fun x hx => (tup_ok (n := 47) hd x ((List.mem_filter.mp hx).1)).mono (by omega)]
          cases e1 : isL M.length p <;> cases e2 : isL M.length q <;> simp [-Option.bind_some, -Option.bind_none, e1, e2]
        have c5 : ∀ ρ : Rho, eFz (eLst []) ρ = .ok (.list []) ρ := fun ρ => by simp [-Option.bind_some, -Option.bind_none]
        have a5 : eT (e2 neD (.g (eFz (lcE (eIt (eV 4)) (tgN 6) (eNot (e1 truD (.g (callE (F__law_is_line) [.g (eV 0), .g (eV 6)])))) (eV 6) [6]))) (.g (eFz (eLst [])))) (stB M cs d0 b (.fz (.tuple [p, q]))) = .ok (!(isL M.length p && isL M.length q)) (stB M cs d0 b (.fz (.tuple [p, q]))) := by
          rw [eT_ap, e2_ap, opd_g, a3]
          simp only [Res.bind_ok, opd_g, c5, fin_d, obind, a4, ofO_some]
        have b1 : eNot (e1 truD (.g (e1 (isiD "tuple") (.b 4)))) (stB M cs d0 b (.fz (.tuple [p, q]))) = .ok false (stB M cs d0 b (.fz (.tuple [p, q]))) := by
          simp [-Option.bind_some, -Option.bind_none, stB, it, truD]
        have b2 : eT (e2 neD (.g (e1 lenD (.b 4))) (.g (eC (.int 2)))) (stB M cs d0 b (.fz (.tuple [p, q]))) = .ok false (stB M cs d0 b (.fz (.tuple [p, q]))) := by
          simp [-Option.bind_some, -Option.bind_none, stB]
        simp only [seqS_ap, ifS_ap, eOr_ap, b1, b2, a5, Res.bind_ok, Bool.false_eq_true, if_false]
        by_cases c : (isL M.length p && isL M.length q) = true
        · have cpq : isL M.length p = true ∧ isL M.length q = true := by simpa [-Option.bind_some, -Option.bind_none] using c
          obtain ⟨a, rfl, ha⟩ := isL_I cpq.1
          obtain ⟨b', rfl, hb⟩ := isL_I cpq.2
          have e : okP M.length (.tuple [I a, I b']) = decide ((a : Int) < (b' : Int)) := by
            show (isL M.length (I a) && isL M.length (I b') && decide ((a : Int) < (b' : Int))) = _
            rw [c, Bool.true_and]
          rw [c, e]
          by_cases lt : (a : Int) < (b' : Int)
          · have ge : ¬ ((b' : Int) ≤ (a : Int)) := by omega
            simp [-Option.bind_some, -Option.bind_none, stB, I, lt, ge]
          · have ge : ((b' : Int) ≤ (a : Int)) := by omega
            simp [-Option.bind_some, -Option.bind_none, stB, I, lt, ge]
        · have c : (isL M.length p && isL M.length q) = false := by simpa [-Option.bind_some, -Option.bind_none] using c
          have e : okP M.length (.tuple [p, q]) = false := by
            show (isL M.length p && isL M.length q && ltD p q) = false
            rw [c, Bool.false_and]
          rw [c, e]
          simp [-Option.bind_some, -Option.bind_none]
    · have e : okP M.length (.tuple ds) = false := by
        match ds, hl with
        | [], _ => rfl
        | [_], _ => rfl
        | [_, _], h => exact absurd rfl h
        | _ :: _ :: _ :: _, _ => rfl
      have hl' : ¬ ((ds.length : Int) = 2) := by omega
      rw [e]
      simp [-Option.bind_some, -Option.bind_none, stB, it, truD, hl']
  | .none, hd, it => exact (by have it : isiD "tuple" .none = some (.bool false) := it; simp [-Option.bind_some, -Option.bind_none, stB, it, truD, okP])
  | .bool _, hd, it => exact (by rename_i b; have it : isiD "tuple" (.bool b) = some (.bool false) := it; simp [-Option.bind_some, -Option.bind_none, stB, it, truD, okP])
  | .int _, hd, it => exact (by rename_i b; have it : isiD "tuple" (.int b) = some (.bool false) := it; simp [-Option.bind_some, -Option.bind_none, stB, it, truD, okP])
  | .str _, hd, it => exact (by rename_i b; have it : isiD "tuple" (.str b) = some (.bool false) := it; simp [-Option.bind_some, -Option.bind_none, stB, it, truD, okP])
  | .list _, hd, it => exact (by rename_i b; have it : isiD "tuple" (.list b) = some (.bool false) := it; simp [-Option.bind_some, -Option.bind_none, stB, it, truD, okP])
  | .dict _, hd, it => exact absurd hd.1 (by intro z; cases z)
theorem l2 {M : Mach} {cs : List Nat} (h : Ok M cs.length) (hc : cs.length ≤ 4) (d0 : D) (ps : List D) (hps : ∀ p ∈ ps, okN 48 p) (x : Nat × Nat) (hx : x.1 < x.2) (hx2 : x.2 < M.length) :
    B__law_accepts_2 (stB M cs d0 (.tuple ps) (.fz (pD x))) = if f2 M cs.length ps (pD x) = true then .ok .nx (stB M cs d0 (.tuple ps) (.fz (pD x))) else .ok (.rt (.bool false)) (stB M cs d0 (.tuple ps) (.fz (pD x))) := by
  have ls := len_str cs (by omega)
  have rg := rg1_I cs.length (by omega)
  have a1 : e1 rg1D (.g (e1 lenD (.b 1))) (stB M cs d0 (.tuple ps) (.fz (pD x))) = .ok ((List.range cs.length).map I) (stB M cs d0 (.tuple ps) (.fz (pD x))) := by
    simp [-Option.bind_some, -Option.bind_none, stB, ls, rg]
  have a2 : wipeR (stB M cs d0 (.tuple ps) (.fz (pD x))) [7] = stB M cs d0 (.tuple ps) (.fz (pD x)) := Eq.trans rfl rfl
  have a3 : lcLoop (tgN 7) (eT (e2 notInD (.g (callE (F__law_behind) [.g (eV 0), .g (eV 7), .g (eV 4)])) (.b 3))) (eV 7) [7] ((List.range cs.length).map I) 0 (stB M cs d0 (.tuple ps) (.fz (pD x))) = .ok (((List.range cs.length).filter fun k => !inAny (pD (beh M x k)) ps).map I) (stB M cs d0 (.tuple ps) (.fz (pD x))) := by
    refine lc_filter I (fun k => !inAny (pD (beh M x k)) ps) _ 0 (by simp [-Option.bind_some, -Option.bind_none]; omega) fun k hk => ?_
    have bc := (beh_comp h x (by omega) hx2 (List.mem_range.mp hk)).2
    have im := ninT_ok (d := pD (beh M x k)) (ds := ps) ((ok_pD _).mono (by omega)) fun p hp => (hps p hp).mono (by omega)
    refine ⟨[.fz (mD M), .fz (.str (S cs)), .fz d0, .fz (.tuple ps), .fz (pD x), .un, .un, .fz (I k)], [.fz (mD M), .fz (.str (S cs)), .fz d0, .fz (.tuple ps), .fz (pD x), .un, .un, .fz (I k)], Eq.trans rfl rfl, ?_, Eq.trans rfl rfl, [.fz (mD M), .fz (.str (S cs)), .fz d0, .fz (.tuple ps), .fz (pD x), .un, .un, .fz (I k)], by simp [-Option.bind_some, -Option.bind_none], Eq.trans rfl rfl⟩
    simp [-Option.bind_some, -Option.bind_none, callR, slots, mk, bc, put, im]
  have a4 : neD (.list (((List.range cs.length).filter fun k => !inAny (pD (beh M x k)) ps).map I)) (.list []) = some (.bool (!f2 M cs.length ps (pD x))) := by
    rw [ne_nil2 _ fun d hd => by obtain ⟨k, _, rfl⟩ := List.mem_map.mp hd; exact (ok_I k).mono (by omega)]
    rw [List.isEmpty_map, f2_pD]
    have key : ∀ l : List Nat, (!(l.filter fun k => !inAny (pD (beh M x k)) ps).isEmpty) = !(l.all fun k => inAny (pD (beh M x k)) ps) := fun l => by
      induction l with
      | nil => rfl
      | cons a l ih =>
        rw [List.all_cons, List.filter_cons]
        cases inAny (pD (beh M x a)) ps with
        | true => simpa [-Option.bind_some, -Option.bind_none] using ih
        | false => rfl
    rw [key]
  have c5 : ∀ ρ : Rho, eFz (eLst []) ρ = .ok (.list []) ρ := fun ρ => by simp [-Option.bind_some, -Option.bind_none]
  have a5 : eT (e2 neD (.g (eFz (lcE (e1 rg1D (.g (e1 lenD (.b 1)))) (tgN 7) (eT (e2 notInD (.g (callE (F__law_behind) [.g (eV 0), .g (eV 7), .g (eV 4)])) (.b 3))) (eV 7) [7]))) (.g (eFz (eLst [])))) (stB M cs d0 (.tuple ps) (.fz (pD x))) = .ok (!f2 M cs.length ps (pD x)) (stB M cs d0 (.tuple ps) (.fz (pD x))) := by
    have c1 : eFz (lcE (e1 rg1D (.g (e1 lenD (.b 1)))) (tgN 7) (eT (e2 notInD (.g (callE (F__law_behind) [.g (eV 0), .g (eV 7), .g (eV 4)])) (.b 3))) (eV 7) [7]) (stB M cs d0 (.tuple ps) (.fz (pD x))) = .ok (.list (((List.range cs.length).filter fun k => !inAny (pD (beh M x k)) ps).map I)) (stB M cs d0 (.tuple ps) (.fz (pD x))) := by
      rw [eFz_ap, lcE_ap, a1]
      simp only [Res.bind_ok, a2, a3]
    rw [eT_ap, e2_ap, opd_g, c1]
    simp only [Res.bind_ok, opd_g, c5, fin_d, obind, a4, ofO_some]
  unfold B__law_accepts_2
  rw [ifS_ap, a5]
  cases f2 M cs.length ps (pD x) <;> simp [-Option.bind_some, -Option.bind_none]
end K66
end
section
set_option autoImplicit false
set_option maxRecDepth 100000
set_option Elab.async false
set_option linter.all false
namespace K66
open PySem DL L2 SX
abbrev YES : Str := Str.ofString "yes"
abbrev NO : Str := Str.ofString "no"
def imgz (M : Mach) (cs zs : List Nat) : List Nat := zs.foldl (fun T c => img M (cs.idxOf c) T) (List.range M.length)
def jy (M : Mach) (cs : List Nat) (b : D) : Bool := match b with
  | .str z => (z.cps.toList.all fun c => decide (c ∈ cs)) && decide ((imgz M cs z.cps.toList).length = 1)
  | _ => false
def jn (M : Mach) (cs : List Nat) (b : D) : Bool := match b with
  | .tuple ps => !ps.isEmpty && (ps.all (okP M.length) && ps.all (f2 M cs.length ps))
  | _ => false
def J (M : Mach) (cs : List Nat) (d : D) : Bool := match d with
  | .tuple [a, b] => if PyData.eqv (.str YES) a = true then jy M cs b else if PyData.eqv (.str NO) a = true then jn M cs b else false
  | _ => false
theorem eqv_swap (z : Str) (a : D) : PyData.eqv a (.str z) = PyData.eqv (.str z) a := by
  cases a with
  | str y =>
    show (y == z) = (z == y)
    by_cases h : y = z
    · simp [-Option.bind_some, -Option.bind_none, h]
    · have h2 : ¬ z = y := fun e => h e.symm
      rw [Bool.eq_iff_iff]
      simp [-Option.bind_some, -Option.bind_none, h, h2]
  | _ => rfl
theorem idx_at {cs : List Nat} {c : Nat} (h : c ∈ cs) : cs[cs.idxOf c]? = some c ∧ cs.idxOf c < cs.length := by
  have l := List.idxOf_lt_length_iff.mpr h
  refine ⟨?_, l⟩
  rw [List.getElem?_eq_getElem l, List.getElem_idxOf]
theorem sidx {cs : List Nat} (hd : cs.Nodup) {c : Nat} (h : c ∈ cs) {ρ : Rho} {a b : Nat} (ha : ρ[a]? = some (.fz (.str (S cs)))) (hb : pk ρ b = some (chr c)) : eM1 sindexD (eV a) (.b b) ρ = .ok (I (cs.idxOf c)) ρ := by
  have e := idx_one cs c (cs.idxOf c) (idx_at h).1 hd
  have ev : eV a ρ = .ok (.str (S cs)) ρ := by rw [eV_ap, ha]
  rw [eM1_ap, ev]
  simp only [Res.bind_ok, opd_b, hb, ofO_some, fin_v, obind, e]
/-! the program's row -/
def stY (M : Mach) (cs : List Nat) (d : D) (x3 x4 : Sl) : Rho := [.fz (mD M), .fz (.str (S cs)), .fz d, x3, x4, .un, .un, .un]
theorem stepY {M : Mach} {cs : List Nat} (h : Ok M cs.length) (hn : M.length ≤ 20) (hd : cs.Nodup) (d : D) (T : List Nat) (hT : IsSet M.length T) (c : Nat) (hc : c ∈ cs) :
    B_judge_reset_1 (stY M cs d (.ow false (.ls (T.map I))) (.fz (chr c))) = .ok .nx (stY M cs d (.ow false (.ls ((img M (cs.idxOf c) T).map I))) (.fz (chr c))) := by
  have sm := set_small hT
  have a1 : eIt (eV 3) (stY M cs d (.ow false (.ls (T.map I))) (.fz (chr c))) = .ok (T.map I) (stY M cs d (.fz (.list (T.map I))) (.fz (chr c))) := by simp [-Option.bind_some, -Option.bind_none, stY]
  have a2 : wipeR (stY M cs d (.fz (.list (T.map I))) (.fz (chr c))) [6] = stY M cs d (.fz (.list (T.map I))) (.fz (chr c)) := Eq.trans rfl rfl
  have a3 : lcLoop (tgN 6) yesT (e2 ixD (.g (e2 ixD (.g (e2 ixD (.b 0) (.b 6))) (.g (eC (.int 1))))) (.g (eM1 sindexD (eV 1) (.b 4)))) [6] (T.map I) 0 (stY M cs d (.fz (.list (T.map I))) (.fz (chr c))) = .ok (T.map fun p => I (nxt M p (cs.idxOf c))) (stY M cs d (.fz (.list (T.map I))) (.fz (chr c))) := by
    refine lc_map I (fun p => I (nxt M p (cs.idxOf c))) T 0 (by omega) fun p hp => ?_
    exact ⟨[.fz (mD M), .fz (.str (S cs)), .fz d, .fz (.list (T.map I)), .fz (chr c), .un, .fz (I p), .un], _, Eq.trans rfl rfl, look_g h (hT.2.2 p hp) (idx_at hc).2 rfl rfl (sidx hd hc rfl rfl), Eq.trans rfl rfl⟩
  have a4 : sortsetO (.list (T.map fun p => I (nxt M p (cs.idxOf c)))) = some (.ls ((img M (cs.idxOf c) T).map I)) := by
    have z := sortset_I (T.map fun p => nxt M p (cs.idxOf c)) (by rw [List.length_map]; omega)
    rw [List.map_map] at z
    exact z
  have a5 : eFz (lcE (eIt (eV 3)) (tgN 6) yesT (e2 ixD (.g (e2 ixD (.g (e2 ixD (.b 0) (.b 6))) (.g (eC (.int 1))))) (.g (eM1 sindexD (eV 1) (.b 4)))) [6]) (stY M cs d (.ow false (.ls (T.map I))) (.fz (chr c))) = .ok (.list (T.map fun p => I (nxt M p (cs.idxOf c)))) (stY M cs d (.fz (.list (T.map I))) (.fz (chr c))) := by
    rw [eFz_ap, lcE_ap, a1]
    simp only [Res.bind_ok, a2, a3]
  unfold B_judge_reset_1
  rw [setO_ap, e1_ap, opd_g, a5]
  simp only [Res.bind_ok, fin_d, obind, a4, ofO_some]
  exact Eq.trans rfl rfl
theorem loopY {M : Mach} {cs : List Nat} (h : Ok M cs.length) (hn : M.length ≤ 20) (hd : cs.Nodup) (d : D) : ∀ (zs : List Nat) (T : List Nat) (x4 : Sl), IsSet M.length T → (∀ c ∈ zs, c ∈ cs) → Loose x4 →
    ∃ x4', Loose x4' ∧ loopS (tgN 4) B_judge_reset_1 (zs.map chr) (stY M cs d (.ow false (.ls (T.map I))) x4) = .ok .nx (stY M cs d (.ow false (.ls ((zs.foldl (fun T c => img M (cs.idxOf c) T) T).map I))) x4')
  | [], T, x4, _, _, h4 => ⟨x4, h4, Eq.trans rfl rfl⟩
  | c :: zs, T, x4, hT, hz, h4 => by
    have hc := hz c (by simp [-Option.bind_some, -Option.bind_none])
    obtain ⟨y4, l4, e⟩ := loopY h hn hd d zs (img M (cs.idxOf c) T) (.fz (chr c)) (img_set h (idx_at hc).2 hT) (fun x hx => hz x (by simp [-Option.bind_some, -Option.bind_none, hx])) (.inr (.inl ⟨_, rfl⟩))
    refine ⟨y4, l4, ?_⟩
    have t : (tgN 4).f (chr c) (stY M cs d (.ow false (.ls (T.map I))) x4) = some (stY M cs d (.ow false (.ls (T.map I))) (.fz (chr c))) := by
      show sto _ 4 _ = _
      rw [sto_loose (x := x4) (Eq.trans rfl rfl) h4]
      exact Eq.trans rfl rfl
    rw [List.map_cons]
    unfold loopS
    rw [t]
    simp only [stepY h hn hd d T hT c hc, Res.bind_ok]
    rw [e]
    rfl
/-! the law's row -/
def goz (M : Mach) (cs zs : List Nat) (p : Nat) : Nat := zs.foldl (fun p c => nxt M p (cs.idxOf c)) p
theorem lineL {M : Mach} {cs : List Nat} (h : Ok M cs.length) (hd : cs.Nodup) (zs : List Nat) (hz : ∀ c ∈ zs, c ∈ cs) (p : Nat) (hp : p < M.length) :
    F__law_line [.fz (mD M), .fz (.str (S cs)), .fz (I p), .fz (.str (S zs))] = .ok (I (goz M cs zs p)) [.un, .un, .un, .un] := by
  have key : ∀ (l : List Nat) (q : Nat) (x4 : Sl), q < M.length → (∀ c ∈ l, c ∈ cs) → Loose x4 → ∃ x4', loopS (tgN 4) B__law_line_1 (l.map chr) [.fz (mD M), .fz (.str (S cs)), .fz (I q), .fz (.str (S zs)), x4] = .ok .nx [.fz (mD M), .fz (.str (S cs)), .fz (I (goz M cs l q)), .fz (.str (S zs)), x4'] := by
    intro l
    induction l with
    | nil => intro q x4 _ _ _; exact ⟨x4, Eq.trans rfl rfl⟩
    | cons c l ih =>
      intro q x4 hq hl h4
      have hc := hl c (by simp [-Option.bind_some, -Option.bind_none])
      obtain ⟨y4, e⟩ := ih (nxt M q (cs.idxOf c)) (.fz (chr c)) (nxt_lt h hq (idx_at hc).2) (fun x hx => hl x (by simp [-Option.bind_some, -Option.bind_none, hx])) (.inr (.inl ⟨_, rfl⟩))
      refine ⟨y4, ?_⟩
      have t : (tgN 4).f (chr c) [.fz (mD M), .fz (.str (S cs)), .fz (I q), .fz (.str (S zs)), x4] = some [.fz (mD M), .fz (.str (S cs)), .fz (I q), .fz (.str (S zs)), .fz (chr c)] := by
        show sto _ 4 _ = _
        rw [sto_loose (x := x4) (Eq.trans rfl rfl) h4]
        exact Eq.trans rfl rfl
      have b : B__law_line_1 [.fz (mD M), .fz (.str (S cs)), .fz (I q), .fz (.str (S zs)), .fz (chr c)] = .ok .nx [.fz (mD M), .fz (.str (S cs)), .fz (I (nxt M q (cs.idxOf c))), .fz (.str (S zs)), .fz (chr c)] := by
        unfold B__law_line_1
        rw [setS_ap, look_g h hq (idx_at hc).2 rfl rfl (sidx hd hc rfl rfl)]
        exact Eq.trans rfl rfl
      rw [List.map_cons]
      unfold loopS
      rw [t]
      simp only [b, Res.bind_ok]
      rw [e]
      rfl
  obtain ⟨x4, e⟩ := key zs p .un hp hz (.inl rfl)
  have it := it_str zs
  refine bodyF_rt (n := 5) (g := g__law_line) (ρ0 := [.fz (mD M), .fz (.str (S cs)), .fz (I p), .fz (.str (S zs)), .un]) (r := [.fz (mD M), .fz (.str (S cs)), .fz (I (goz M cs zs p)), .fz (.str (S zs)), x4]) rfl ?_ rfl
  unfold g__law_line
  have a : eIt (eV 3) [.fz (mD M), .fz (.str (S cs)), .fz (I p), .fz (.str (S zs)), .un] = .ok (zs.map chr) [.fz (mD M), .fz (.str (S cs)), .fz (I p), .fz (.str (S zs)), .un] := by simp [-Option.bind_some, -Option.bind_none, it]
  simp only [seqS_ap, forS_ap, a, Res.bind_ok, e]
  simp [-Option.bind_some, -Option.bind_none]
theorem goz_img (M : Mach) (cs : List Nat) : ∀ (zs T : List Nat), T.Pairwise (· < ·) → nset (T.map (goz M cs zs)) = zs.foldl (fun T c => img M (cs.idxOf c) T) T
  | [], T, hT => by
    have : T.map (goz M cs []) = T := by
      have : goz M cs [] = id := funext fun _ => rfl
      rw [this, List.map_id]
    rw [this]
    exact nlt_ext (nset_lt _) hT fun k => mem_nset
  | c :: zs, T, hT => by
    rw [List.foldl_cons, ← goz_img M cs zs (img M (cs.idxOf c) T) (nset_lt _)]
    refine nlt_ext (nset_lt _) (nset_lt _) fun k => ?_
    rw [mem_nset, mem_nset]
    simp only [List.mem_map]
    constructor
    · rintro ⟨p, hp, rfl⟩
      exact ⟨nxt M p (cs.idxOf c), mem_nset.mpr (List.mem_map.mpr ⟨p, hp, rfl⟩), rfl⟩
    · rintro ⟨q, hq, rfl⟩
      obtain ⟨p, hp, rfl⟩ := List.mem_map.mp (mem_nset.mp hq)
      exact ⟨p, hp, rfl⟩
theorem lenset_I (l : List Nat) (h : l.length ≤ 1000) : lensetD (.list (l.map I)) = some (.int ((nset l).length : Int)) := by
  show ((intsOf (l.map I)).bind fun ns => if ns.length ≤ 1000 then some (PyData.int ((usort ns).length : Int)) else none) = _
  rw [intsOf_I]
  show (if (l.map fun k : Nat => (k : Int)).length ≤ 1000 then _ else _) = _
  rw [if_pos (by rw [List.length_map]; exact h)]
  unfold nset
  rw [List.length_map]
end K66
end
section
set_option autoImplicit false
set_option maxRecDepth 100000
set_option Elab.async false
set_option linter.all false
namespace K66
open PySem DL L2 SX
theorem ok_YES : okN 0 (.str YES) := ok_str (by decide +kernel)
theorem ok_NO : okN 0 (.str NO) := ok_str (by decide +kernel)
theorem in_yn (a : D) : inAny a [.str YES, .str NO] = (PyData.eqv (.str YES) a || PyData.eqv (.str NO) a) := by
  show (PyData.eqv (.str YES) a || (PyData.eqv (.str NO) a || false)) = _
  rw [Bool.or_false]
theorem nin_ynT {a : D} (h : okN 60 a) : notInD a (.tuple [.str YES, .str NO]) = some (.bool (!(PyData.eqv (.str YES) a || PyData.eqv (.str NO) a))) := by
  rw [ninT_ok (h.mono (by omega)) fun x hx => ?_, in_yn]
  simp only [List.mem_cons, List.not_mem_nil, or_false] at hx
  rcases hx with e | e <;> rw [e]
  · exact ok_YES.mono (by omega)
  · exact ok_NO.mono (by omega)
theorem nin_ynL {a : D} (h : okN 60 a) : notInD a (.list [.str YES, .str NO]) = some (.bool (!(PyData.eqv (.str YES) a || PyData.eqv (.str NO) a))) := by
  rw [ninL_ok (h.mono (by omega)) fun x hx => ?_, in_yn]
  simp only [List.mem_cons, List.not_mem_nil, or_false] at hx
  rcases hx with e | e <;> rw [e]
  · exact ok_YES.mono (by omega)
  · exact ok_NO.mono (by omega)
theorem is_yes {a : D} (h : okN 60 a) : eqD a (.str YES) = some (.bool (PyData.eqv (.str YES) a)) := by
  rw [eqD_ok (h.mono (by omega)) (ok_YES.mono (by omega)), eqv_swap]
theorem all_chars (M : Mach) (cs zs : List Nat) (d0 : D) (x3 : Sl) (hl : zs.length ≤ 1000000) : lcLoop (tgN 4) yesT (e2 inD (.b 4) (.b 1)) [4] (zs.map chr) 0 (stY M cs d0 x3 .un) = .ok (zs.map fun c => .bool (decide (c ∈ cs))) (stY M cs d0 x3 .un) := by
  refine lc_map chr (fun c => .bool (decide (c ∈ cs))) zs 0 (by omega) fun c _ => ?_
  have z := inS_one cs c
  refine ⟨stY M cs d0 x3 (.fz (chr c)), stY M cs d0 x3 (.fz (chr c)), Eq.trans rfl rfl, ?_, Eq.trans rfl rfl⟩
  simp [-Option.bind_some, -Option.bind_none, stY, z]
theorem judge_run {M : Mach} {cs : List Nat} (h : Ok M cs.length) (hn : M.length ≤ 20) (hc : cs.length ≤ 4) (hd : cs.Nodup) (d : D) (ok : okN 50 d) (hz : ∀ a z, d = .tuple [a, .str z] → z.cps.toList.length ≤ 1000000) :
    F_judge_reset [.fz (mD M), .fz (.str (S cs)), .fz d] = .ok (.bool (J M cs d)) [.un, .un, .un] := by
  have fin : ∀ ρ : Rho, outOf [.fz (mD M), .fz (.str (S cs)), .fz d] ρ = [.un, .un, .un] := fun ρ => by
    match ρ with
    | [] => rfl
    | [a] => rfl
    | [a, b] => rfl
    | a :: b :: c :: ρ => rfl
  suffices H : ∃ ρ, g_judge_reset [.fz (mD M), .fz (.str (S cs)), .fz d, .un, .un, .un, .un, .un] = .ok (.rt (.bool (J M cs d))) ρ by
    obtain ⟨ρ, e⟩ := H
    exact bodyF_rt (n := 8) (g := g_judge_reset) rfl e (fin ρ)
  have it := isi_tup d (ok.mono (by omega))
  unfold g_judge_reset
  match d, ok, it, hz with
  | .tuple ds, ok, it, hz =>
    have it : isiD "tuple" (.tuple ds) = some (.bool true) := it
    by_cases hl : ds.length = 2
    · match ds, hl, ok, it, hz with
      | [a, b], _, ok, it, hz =>
        have oka := tup_ok (n := 49) ok a (by simp [-Option.bind_some, -Option.bind_none])
        have okb := tup_ok (n := 49) ok b (by simp [-Option.bind_some, -Option.bind_none])
        have n1 := nin_ynT (oka.mono (by omega))
        have y1 := is_yes (oka.mono (by omega))
        have x0 : ixD (.tuple [a, b]) (.int 0) = some a := rfl
        have x1 : ixD (.tuple [a, b]) (.int 1) = some b := rfl
        generalize hρ : ([.fz (mD M), .fz (.str (S cs)), .fz (.tuple [a, b]), .un, .un, .un, .un, .un] : Rho) = ρ
        have head : (eOr (eNot (e1 truD (.g (e1 (isiD "tuple") (.b 2))))) (eOr (eT (e2 neD (.g (e1 lenD (.b 2))) (.g (eC (.int 2))))) (eT (e2 notInD (.g (e2 ixD (.b 2) (.g (eC (.int 0))))) (.g (eTup [(eC (.str (Str.ofString "yes"))), (eC (.str (Str.ofString "no")))])))))) ρ = .ok (!(PyData.eqv (.str YES) a || PyData.eqv (.str NO) a)) ρ := by
          subst hρ
          simp [-Option.bind_some, -Option.bind_none, it, truD, n1, x0]
        have ty : eT (e2 eqD (.g (e2 ixD (.b 2) (.g (eC (.int 0))))) (.g (eC (.str (Str.ofString "yes"))))) ρ = .ok (PyData.eqv (.str YES) a) ρ := by
          subst hρ
          simp [-Option.bind_some, -Option.bind_none, x0, y1]
        simp only [seqS_ap, ifS_ap, head, Res.bind_ok, ty]
        by_cases qy : PyData.eqv (.str YES) a = true
        · -- a row is told
          have eJ : J M cs (.tuple [a, b]) = jy M cs b := if_pos qy
          rw [eJ, qy]
          simp only [Bool.true_or, Bool.not_true, Bool.false_eq_true, if_false, nxS_ap, Res.bind_ok, ty, qy, if_true]
          match b, okb, hz with
          | .str z, okb, hz =>
            have hzl := hz a z rfl
            have ez : z = S z.cps.toList := rfl
            generalize hzs : z.cps.toList = zs at hzl ez
            have i1 : isiD "str" (.str z) = some (.bool true) := rfl
            have its := it_str zs
            rw [← ez] at its
            have ci : eIt (e2 ixD (.b 2) (.g (eC (.int 1)))) ρ = .ok (zs.map chr) ρ := by
              subst hρ
              simp [-Option.bind_some, -Option.bind_none, x1, its]
            have ac := all_chars M cs zs (.tuple [a, .str z]) .un hzl
            have rows : eFz (lcE (eIt (e2 ixD (.b 2) (.g (eC (.int 1))))) (tgN 4) yesT (e2 inD (.b 4) (.b 1)) [4]) ρ = .ok (.list (zs.map fun c => .bool (decide (c ∈ cs)))) ρ := by
              have w : wipeR ρ [4] = ρ := by subst hρ; exact Eq.trans rfl rfl
              rw [eFz_ap, lcE_ap, ci]
              have ac' : lcLoop (tgN 4) yesT (e2 inD (.b 4) (.b 1)) [4] (zs.map chr) 0 ρ = .ok (zs.map fun c => .bool (decide (c ∈ cs))) ρ := by subst hρ; exact ac
              simp only [Res.bind_ok, w, ac']
            have inb : inD (.bool false) (.list (zs.map fun c => .bool (decide (c ∈ cs)))) = some (.bool (!zs.all fun c => decide (c ∈ cs))) := by
              have z := in_B (zs.map fun c => decide (c ∈ cs)) false
              rw [List.map_map] at z
              refine z.trans ?_
              rw [any_false, List.all_map]
              rfl
            have t2 : eOr (eNot (e1 truD (.g (e1 (isiD "str") (.g (e2 ixD (.b 2) (.g (eC (.int 1))))))))) (eT (e2 inD (.g (eC (.bool false))) (.g (eFz (lcE (eIt (e2 ixD (.b 2) (.g (eC (.int 1))))) (tgN 4) yesT (e2 inD (.b 4) (.b 1)) [4]))))) ρ = .ok (!zs.all fun c => decide (c ∈ cs)) ρ := by
              have u1 : eNot (e1 truD (.g (e1 (isiD "str") (.g (e2 ixD (.b 2) (.g (eC (.int 1)))))))) ρ = .ok false ρ := by
                subst hρ
                simp [-Option.bind_some, -Option.bind_none, x1, i1, truD]
              rw [eOr_ap, u1]
              simp only [Res.bind_ok, Bool.false_eq_true, if_false]
              rw [eT_ap, e2_ap, opd_g, eC_ap]
              simp only [Res.bind_ok, opd_g, rows, fin_d, obind, inb, ofO_some]
            have ej : jy M cs (.str z) = ((zs.all fun c => decide (c ∈ cs)) && decide ((imgz M cs zs).length = 1)) := by
              show ((z.cps.toList.all fun c => decide (c ∈ cs)) && decide ((imgz M cs z.cps.toList).length = 1)) = _
              rw [hzs]
            rw [ej]
            simp only [seqS_ap, ifS_ap, t2, Res.bind_ok]
            cases qa : zs.all fun c => decide (c ∈ cs) with
            | false => exact ⟨ρ, by simp [-Option.bind_some, -Option.bind_none]⟩
            | true =>
              have hall : ∀ c ∈ zs, c ∈ cs := fun c hc' => by
                have := List.all_eq_true.mp qa c hc'
                exact of_decide_eq_true this
              have lm : lenD (mD M) = some (.int (M.length : Int)) := by
                show some (PyData.int ((M.map rowD).length : Int)) = _
                rw [List.length_map]
              have lr : lrg1 (.int (M.length : Int)) = some (.ls ((List.range M.length).map I)) := by
                show (if rgC 0 (M.length : Int) = true then some (Ob.ls (rgD 0 (M.length : Int))) else none) = _
                rw [if_pos (rgC_ok (by omega)), rgD_n]
              have s3 : setO 3 (e1 lrg1 (.g (e1 lenD (.b 0)))) ρ = .ok .nx (stY M cs (.tuple [a, .str z]) (.ow false (.ls ((List.range M.length).map I))) .un) := by
                subst hρ
                simp [-Option.bind_some, -Option.bind_none, lm, lr, -lrg1, stY]
              obtain ⟨y4, l4, el⟩ := loopY h hn hd (.tuple [a, .str z]) zs (List.range M.length) .un (range_set h.1) hall (.inl rfl)
              have c2 : eIt (e2 ixD (.b 2) (.g (eC (.int 1)))) (stY M cs (.tuple [a, .str z]) (.ow false (.ls ((List.range M.length).map I))) .un) = .ok (zs.map chr) (stY M cs (.tuple [a, .str z]) (.ow false (.ls ((List.range M.length).map I))) .un) := by
                simp [-Option.bind_some, -Option.bind_none, stY, x1, its]
              simp only [Bool.not_true, Bool.false_eq_true, if_false, nxS_ap, Res.bind_ok, s3, forS_ap, c2, el, Bool.true_and]
              refine ⟨stY M cs (.tuple [a, .str z]) (.ow false (.ls ((imgz M cs zs).map I))) y4, ?_⟩
              show (rtS _ (stY M cs (.tuple [a, .str z]) (.ow false (.ls ((imgz M cs zs).map I))) y4)).bind _ = _
              by_cases q1 : (imgz M cs zs).length = 1
              · simp [-Option.bind_some, -Option.bind_none, stY, q1]
              · have q2 : ¬ ((imgz M cs zs).length : Int) = 1 := by omega
                simp [-Option.bind_some, -Option.bind_none, stY, q1, q2]
          | .none, okb, hz => exact ⟨ρ, by subst hρ; have i1 : isiD "str" .none = some (.bool false) := rfl; simp [-Option.bind_some, -Option.bind_none, x1, i1, truD, jy]⟩
          | .bool v, okb, hz => exact ⟨ρ, by subst hρ; have i1 : isiD "str" (.bool v) = some (.bool false) := rfl; simp [-Option.bind_some, -Option.bind_none, x1, i1, truD, jy]⟩
          | .int v, okb, hz => exact ⟨ρ, by subst hρ; have i1 : isiD "str" (.int v) = some (.bool false) := rfl; simp [-Option.bind_some, -Option.bind_none, x1, i1, truD, jy]⟩
          | .list v, okb, hz => exact ⟨ρ, by subst hρ; have i1 : isiD "str" (.list v) = some (.bool false) := rfl; simp [-Option.bind_some, -Option.bind_none, x1, i1, truD, jy]⟩
          | .tuple v, okb, hz => exact ⟨ρ, by subst hρ; have i1 : isiD "str" (.tuple v) = some (.bool false) := rfl; simp [-Option.bind_some, -Option.bind_none, x1, i1, truD, jy]⟩
          | .dict v, okb, hz => exact absurd okb.1 (by intro z; cases z)
        · have qy : PyData.eqv (.str YES) a = false := by simpa [-Option.bind_some, -Option.bind_none] using qy
          rw [qy]
          by_cases qn : PyData.eqv (.str NO) a = true
          · have eJ : J M cs (.tuple [a, b]) = jn M cs b := by
              show (if PyData.eqv (.str YES) a = true then _ else if PyData.eqv (.str NO) a = true then _ else _) = _
              rw [if_neg (by rw [qy]; exact Bool.false_ne_true), if_pos qn]
            rw [eJ, qn]
            simp only [Bool.false_or, Bool.not_true, Bool.false_eq_true, if_false, nxS_ap, Res.bind_ok, ty, qy]
            match b, okb, hz with
            | .tuple ps, okb, hz =>
              have i1 : isiD "tuple" (.tuple ps) = some (.bool true) := rfl
              have okp := tup_ok (n := 48) okb
              have t2 : eOr (eNot (e1 truD (.g (e1 (isiD "tuple") (.g (e2 ixD (.b 2) (.g (eC (.int 1))))))))) (eT (e2 eqD (.g (e1 lenD (.g (e2 ixD (.b 2) (.g (eC (.int 1))))))) (.g (eC (.int 0))))) ρ = .ok ps.isEmpty ρ := by
                subst hρ
                cases ps with
                | nil => simp [-Option.bind_some, -Option.bind_none, x1, i1, truD]
                | cons p ps =>
                  have e0 : ¬ ((ps.length : Int) + 1 = 0) := by omega
                  simp [-Option.bind_some, -Option.bind_none, x1, i1, truD, e0]
              simp only [t2, Res.bind_ok]
              cases qe : ps.isEmpty with
              | true => exact ⟨ρ, by simp [-Option.bind_some, -Option.bind_none, jn, qe]⟩
              | false =>
                have ci : ∀ x5, eIt (e2 ixD (.b 2) (.g (eC (.int 1)))) (stJ M cs (.tuple [a, .tuple ps]) .un .un x5) = .ok ps (stJ M cs (.tuple [a, .tuple ps]) .un .un x5) := fun x5 => by simp [-Option.bind_some, -Option.bind_none, stJ, x1]
                have tg : ∀ (x : Sl) (d : D), Loose x → (tgN 5).f d (stJ M cs (.tuple [a, .tuple ps]) .un .un x) = some (stJ M cs (.tuple [a, .tuple ps]) .un .un (.fz d)) := fun x d hx => by
                  show sto _ 5 _ = _
                  rw [sto_loose (x := x) (Eq.trans rfl rfl) hx]
                  exact Eq.trans rfl rfl
                obtain ⟨z5, l5, el⟩ := loop_all (t := tgN 5) (body := B_judge_reset_2) (st := fun x => stJ M cs (.tuple [a, .tuple ps]) .un .un x) (okP M.length) ps .un (.inl rfl) fun x hx d hd' => ⟨tg x d hx, j1 M cs (.tuple [a, .tuple ps]) d ((okp d hd').mono (by omega))⟩
                have hρ2 : ρ = stJ M cs (.tuple [a, .tuple ps]) .un .un .un := hρ.symm
                rw [hρ2]
                simp only [Bool.false_eq_true, if_false, nxS_ap, Res.bind_ok, seqS_ap, forS_ap, ci, el]
                by_cases q1 : ps.all (okP M.length) = true
                · obtain ⟨y5, m5, el2⟩ := loop_all (t := tgN 5) (body := B_judge_reset_3) (st := fun x => stJ M cs (.tuple [a, .tuple ps]) .un .un x) (f2 M cs.length ps) ps z5 l5 fun x hx d hd' => ⟨tg x d hx, by
                    obtain ⟨y, rfl, y1, y2⟩ := okP_pD (List.all_eq_true.mp q1 d hd')
                    exact j2 h hc (.tuple [a, .tuple ps]) ps x1 (fun p hp => (okp p hp).mono (by omega)) y y1 y2⟩
                  rw [if_pos q1]
                  simp only [Res.bind_ok, ci, el2]
                  by_cases q2 : ps.all (f2 M cs.length ps) = true
                  · rw [if_pos q2]
                    exact ⟨stJ M cs (.tuple [a, .tuple ps]) .un .un y5, by simp [-Option.bind_some, -Option.bind_none, jn, qe, q1, q2]⟩
                  · rw [if_neg q2]
                    exact ⟨stJ M cs (.tuple [a, .tuple ps]) .un .un y5, by simp [-Option.bind_some, -Option.bind_none, jn, q2]⟩
                · rw [if_neg q1]
                  exact ⟨stJ M cs (.tuple [a, .tuple ps]) .un .un z5, by simp [-Option.bind_some, -Option.bind_none, jn, q1]⟩
            | .none, okb, hz => exact ⟨ρ, by subst hρ; have i1 : isiD "tuple" .none = some (.bool false) := rfl; simp [-Option.bind_some, -Option.bind_none, x1, i1, truD, jn]⟩
            | .bool v, okb, hz => exact ⟨ρ, by subst hρ; have i1 : isiD "tuple" (.bool v) = some (.bool false) := rfl; simp [-Option.bind_some, -Option.bind_none, x1, i1, truD, jn]⟩
            | .int v, okb, hz => exact ⟨ρ, by subst hρ; have i1 : isiD "tuple" (.int v) = some (.bool false) := rfl; simp [-Option.bind_some, -Option.bind_none, x1, i1, truD, jn]⟩
            | .list v, okb, hz => exact ⟨ρ, by subst hρ; have i1 : isiD "tuple" (.list v) = some (.bool false) := rfl; simp [-Option.bind_some, -Option.bind_none, x1, i1, truD, jn]⟩
            | .str v, okb, hz => exact ⟨ρ, by subst hρ; have i1 : isiD "tuple" (.str v) = some (.bool false) := rfl; simp [-Option.bind_some, -Option.bind_none, x1, i1, truD, jn]⟩
            | .dict v, okb, hz => exact absurd okb.1 (by intro z; cases z)
          · have qn : PyData.eqv (.str NO) a = false := by simpa [-Option.bind_some, -Option.bind_none] using qn
            have eJ : J M cs (.tuple [a, b]) = false := by
              show (if PyData.eqv (.str YES) a = true then _ else if PyData.eqv (.str NO) a = true then _ else _) = _
              rw [if_neg (by rw [qy]; exact Bool.false_ne_true), if_neg (by rw [qn]; exact Bool.false_ne_true)]
            rw [eJ, qn]
            exact ⟨ρ, by simp [-Option.bind_some, -Option.bind_none]⟩
    · have e : J M cs (.tuple ds) = false := by
        match ds, hl with
        | [], _ => rfl
        | [_], _ => rfl
        | [_, _], h => exact absurd rfl h
        | _ :: _ :: _ :: _, _ => rfl
      have hl' : ¬ ((ds.length : Int) = 2) := by omega
      rw [e]
      exact ⟨[.fz (mD M), .fz (.str (S cs)), .fz (.tuple ds), .un, .un, .un, .un, .un], by simp [-Option.bind_some, -Option.bind_none, it, truD, hl']⟩
  | .none, ok, it, hz => exact ⟨[.fz (mD M), .fz (.str (S cs)), .fz .none, .un, .un, .un, .un, .un], by have it : isiD "tuple" .none = some (.bool false) := it; simp [-Option.bind_some, -Option.bind_none, it, truD, J]⟩
  | .bool v, ok, it, hz => exact ⟨[.fz (mD M), .fz (.str (S cs)), .fz (.bool v), .un, .un, .un, .un, .un], by have it : isiD "tuple" (.bool v) = some (.bool false) := it; simp [-Option.bind_some, -Option.bind_none, it, truD, J]⟩
  | .int v, ok, it, hz => exact ⟨[.fz (mD M), .fz (.str (S cs)), .fz (.int v), .un, .un, .un, .un, .un], by have it : isiD "tuple" (.int v) = some (.bool false) := it; simp [-Option.bind_some, -Option.bind_none, it, truD, J]⟩
  | .str v, ok, it, hz => exact ⟨[.fz (mD M), .fz (.str (S cs)), .fz (.str v), .un, .un, .un, .un, .un], by have it : isiD "tuple" (.str v) = some (.bool false) := it; simp [-Option.bind_some, -Option.bind_none, it, truD, J]⟩
  | .list v, ok, it, hz => exact ⟨[.fz (mD M), .fz (.str (S cs)), .fz (.list v), .un, .un, .un, .un, .un], by have it : isiD "tuple" (.list v) = some (.bool false) := it; simp [-Option.bind_some, -Option.bind_none, it, truD, J]⟩
  | .dict v, ok, it, hz => exact absurd ok.1 (by intro z; cases z)
end K66
end
section
set_option autoImplicit false
set_option maxRecDepth 100000
set_option Elab.async false
set_option linter.all false
namespace K66
open PySem DL L2 SX
theorem accepts_run {M : Mach} {cs : List Nat} (h : Ok M cs.length) (hn : M.length ≤ 20) (hc : cs.length ≤ 4) (hd : cs.Nodup) (d : D) (ok : okN 50 d) (hz : ∀ a z, d = .tuple [a, .str z] → z.cps.toList.length ≤ 1000000) :
    F__law_accepts [.fz (mD M), .fz (.str (S cs)), .fz d] = .ok (.bool (J M cs d)) [.un, .un, .un] := by
  have fin : ∀ ρ : Rho, outOf [.fz (mD M), .fz (.str (S cs)), .fz d] ρ = [.un, .un, .un] := fun ρ => by
    match ρ with
    | [] => rfl
    | [a] => rfl
    | [a, b] => rfl
    | a :: b :: c :: ρ => rfl
  suffices H : ∃ ρ, g__law_accepts [.fz (mD M), .fz (.str (S cs)), .fz d, .un, .un, .un, .un, .un] = .ok (.rt (.bool (J M cs d))) ρ by
    obtain ⟨ρ, e⟩ := H
    exact bodyF_rt (n := 8) (g := g__law_accepts) rfl e (fin ρ)
  have it := isi_tup d (ok.mono (by omega))
  have c5 : ∀ ρ : Rho, eFz (eLst []) ρ = .ok (.list []) ρ := fun ρ => by simp [-Option.bind_some, -Option.bind_none]
  unfold g__law_accepts
  match d, ok, it, hz with
  | .tuple ds, ok, it, hz =>
    have it : isiD "tuple" (.tuple ds) = some (.bool true) := it
    by_cases hl : ds.length = 2
    · match ds, hl, ok, it, hz with
      | [a, b], _, ok, it, hz =>
        have oka := tup_ok (n := 49) ok a (by simp [-Option.bind_some, -Option.bind_none])
        have okb := tup_ok (n := 49) ok b (by simp [-Option.bind_some, -Option.bind_none])
        have n1 := nin_ynL (oka.mono (by omega))
        have y1 := is_yes (oka.mono (by omega))
        have x0 : ixD (.tuple [a, b]) (.int 0) = some a := rfl
        have x1 : ixD (.tuple [a, b]) (.int 1) = some b := rfl
        have head : (eOr (eNot (e1 truD (.g (e1 (isiD "tuple") (.b 2))))) (eOr (eT (e2 neD (.g (e1 lenD (.b 2))) (.g (eC (.int 2))))) (eT (e2 notInD (.g (e2 ixD (.b 2) (.g (eC (.int 0))))) (.g (eFz (eLst [(eC (.str (Str.ofString "yes"))), (eC (.str (Str.ofString "no")))]))))))) [.fz (mD M), .fz (.str (S cs)), .fz (.tuple [a, b]), .un, .un, .un, .un, .un] = .ok (!(PyData.eqv (.str YES) a || PyData.eqv (.str NO) a)) [.fz (mD M), .fz (.str (S cs)), .fz (.tuple [a, b]), .un, .un, .un, .un, .un] := by
          simp [-Option.bind_some, -Option.bind_none, it, truD, n1, x0]
        have s3 : setS 3 (e2 ixD (.b 2) (.g (eC (.int 1)))) [.fz (mD M), .fz (.str (S cs)), .fz (.tuple [a, b]), .un, .un, .un, .un, .un] = .ok .nx (stB M cs (.tuple [a, b]) b .un) := by
          simp [-Option.bind_some, -Option.bind_none, x1, stB]
        have ty : eT (e2 eqD (.g (e2 ixD (.b 2) (.g (eC (.int 0))))) (.g (eC (.str (Str.ofString "yes"))))) (stB M cs (.tuple [a, b]) b .un) = .ok (PyData.eqv (.str YES) a) (stB M cs (.tuple [a, b]) b .un) := by
          simp [-Option.bind_some, -Option.bind_none, x0, y1, stB]
        simp only [seqS_ap, ifS_ap, head, Res.bind_ok]
        by_cases qy : PyData.eqv (.str YES) a = true
        · have eJ : J M cs (.tuple [a, b]) = jy M cs b := if_pos qy
          rw [eJ, qy]
          simp only [Bool.true_or, Bool.not_true, Bool.false_eq_true, if_false, nxS_ap, Res.bind_ok, s3, ty, qy, if_true]
          match b, okb, hz with
          | .str z, okb, hz =>
            have hzl := hz a z rfl
            have ez : z = S z.cps.toList := rfl
            generalize hzs : z.cps.toList = zs at hzl ez
            have i1 : isiD "str" (.str z) = some (.bool true) := rfl
            have its := it_str zs
            rw [← ez] at its
            have ci : eIt (eV 3) (stB M cs (.tuple [a, .str z]) (.str z) .un) = .ok (zs.map chr) (stB M cs (.tuple [a, .str z]) (.str z) .un) := by
              simp [-Option.bind_some, -Option.bind_none, its, stB]
            have fl : lcLoop (tgN 5) (eT (e2 notInD (.b 5) (.b 1))) (eV 5) [5] (zs.map chr) 0 (stB M cs (.tuple [a, .str z]) (.str z) .un) = .ok ((zs.filter fun c => !decide (c ∈ cs)).map chr) (stB M cs (.tuple [a, .str z]) (.str z) .un) := by
              refine lc_filter chr (fun c => !decide (c ∈ cs)) zs 0 (by omega) fun c _ => ?_
              have z' := ninS_one cs c
              refine ⟨[.fz (mD M), .fz (.str (S cs)), .fz (.tuple [a, .str z]), .fz (.str z), .un, .fz (chr c), .un, .un], [.fz (mD M), .fz (.str (S cs)), .fz (.tuple [a, .str z]), .fz (.str z), .un, .fz (chr c), .un, .un], Eq.trans rfl rfl, ?_, Eq.trans rfl rfl, [.fz (mD M), .fz (.str (S cs)), .fz (.tuple [a, .str z]), .fz (.str z), .un, .fz (chr c), .un, .un], by simp [-Option.bind_some, -Option.bind_none], Eq.trans rfl rfl⟩
              simp [-Option.bind_some, -Option.bind_none, z']
            have okz : ∀ c ∈ zs, c < 1114112 := fun c hc' => by
              have o := okb.1
              have o : (z.cps.all fun x => decide (x < 0x110000)) = true := o
              rw [Array.all_eq_true_iff_forall_mem] at o
              have := o c (by rw [← hzs] at hc'; simpa [-Option.bind_some, -Option.bind_none] using hc')
              simpa [-Option.bind_some, -Option.bind_none] using this
            have rows : eFz (lcE (eIt (eV 3)) (tgN 5) (eT (e2 notInD (.b 5) (.b 1))) (eV 5) [5]) (stB M cs (.tuple [a, .str z]) (.str z) .un) = .ok (.list ((zs.filter fun c => !decide (c ∈ cs)).map chr)) (stB M cs (.tuple [a, .str z]) (.str z) .un) := by
              have w : wipeR (stB M cs (.tuple [a, .str z]) (.str z) .un) [5] = stB M cs (.tuple [a, .str z]) (.str z) .un := Eq.trans rfl rfl
              rw [eFz_ap, lcE_ap, ci]
              simp only [Res.bind_ok, w, fl]
            have inb : neD (.list ((zs.filter fun c => !decide (c ∈ cs)).map chr)) (.list []) = some (.bool (!zs.all fun c => decide (c ∈ cs))) := by
              rw [ne_nil2 _ fun x hx => by
                obtain ⟨c, hc', rfl⟩ := List.mem_map.mp hx
                exact (ok_chr (okz c (List.mem_filter.mp hc').1)).mono (by omega)]
              rw [List.isEmpty_map]
              have key : ∀ l : List Nat, (!(l.filter fun c => !decide (c ∈ cs)).isEmpty) = !(l.all fun c => decide (c ∈ cs)) := fun l => by
                induction l with
                | nil => rfl
                | cons c l ih =>
                  rw [List.all_cons, List.filter_cons]
                  cases decide (c ∈ cs) with
                  | true => simpa [-Option.bind_some, -Option.bind_none] using ih
                  | false => rfl
              rw [key]
            have t2 : eOr (eNot (e1 truD (.g (e1 (isiD "str") (.b 3))))) (eT (e2 neD (.g (eFz (lcE (eIt (eV 3)) (tgN 5) (eT (e2 notInD (.b 5) (.b 1))) (eV 5) [5]))) (.g (eFz (eLst []))))) (stB M cs (.tuple [a, .str z]) (.str z) .un) = .ok (!zs.all fun c => decide (c ∈ cs)) (stB M cs (.tuple [a, .str z]) (.str z) .un) := by
              have u1 : eNot (e1 truD (.g (e1 (isiD "str") (.b 3)))) (stB M cs (.tuple [a, .str z]) (.str z) .un) = .ok false (stB M cs (.tuple [a, .str z]) (.str z) .un) := by
                simp [-Option.bind_some, -Option.bind_none, i1, truD, stB]
              rw [eOr_ap, u1]
              simp only [Res.bind_ok, Bool.false_eq_true, if_false]
              rw [eT_ap, e2_ap, opd_g, rows]
              simp only [Res.bind_ok, opd_g, c5, fin_d, obind, inb, ofO_some]
            have ej : jy M cs (.str z) = ((zs.all fun c => decide (c ∈ cs)) && decide ((imgz M cs zs).length = 1)) := by
              show ((z.cps.toList.all fun c => decide (c ∈ cs)) && decide ((imgz M cs z.cps.toList).length = 1)) = _
              rw [hzs]
            rw [ej]
            simp only [t2, Res.bind_ok]
            cases qa : zs.all fun c => decide (c ∈ cs) with
            | false => exact ⟨stB M cs (.tuple [a, .str z]) (.str z) .un, by simp [-Option.bind_some, -Option.bind_none]⟩
            | true =>
              have hall : ∀ c ∈ zs, c ∈ cs := fun c hc' => by
                have := List.all_eq_true.mp qa c hc'
                exact of_decide_eq_true this
              have lm : lenD (mD M) = some (.int (M.length : Int)) := by
                show some (PyData.int ((M.map rowD).length : Int)) = _
                rw [List.length_map]
              have rg := rg1_n M.length (by omega)
              have g1 : e1 rg1D (.g (e1 lenD (.b 0))) (stB M cs (.tuple [a, .str z]) (.str z) .un) = .ok ((List.range M.length).map I) (stB M cs (.tuple [a, .str z]) (.str z) .un) := by
                simp [-Option.bind_some, -Option.bind_none, stB, lm, rg]
              have w : wipeR (stB M cs (.tuple [a, .str z]) (.str z) .un) [6] = stB M cs (.tuple [a, .str z]) (.str z) .un := Eq.trans rfl rfl
              have lp : lcLoop (tgN 6) yesT (callE (F__law_line) [.g (eV 0), .g (eV 1), .g (eV 6), .g (eV 3)]) [6] ((List.range M.length).map I) 0 (stB M cs (.tuple [a, .str z]) (.str z) .un) = .ok ((List.range M.length).map fun p => I (goz M cs zs p)) (stB M cs (.tuple [a, .str z]) (.str z) .un) := by
                refine lc_map I (fun p => I (goz M cs zs p)) _ 0 (by simp [-Option.bind_some, -Option.bind_none]; omega) fun p hp => ?_
                have ll := lineL h hd zs hall p (List.mem_range.mp hp)
                rw [← ez] at ll
                refine ⟨[.fz (mD M), .fz (.str (S cs)), .fz (.tuple [a, .str z]), .fz (.str z), .un, .un, .fz (I p), .un], [.fz (mD M), .fz (.str (S cs)), .fz (.tuple [a, .str z]), .fz (.str z), .un, .un, .fz (I p), .un], Eq.trans rfl rfl, ?_, Eq.trans rfl rfl⟩
                simp [-Option.bind_some, -Option.bind_none, callR, slots, mk, ll, put]
              have ls : lensetD (.list ((List.range M.length).map fun p => I (goz M cs zs p))) = some (.int ((imgz M cs zs).length : Int)) := by
                have z' := lenset_I ((List.range M.length).map (goz M cs zs)) (by rw [List.length_map, List.length_range]; omega)
                rw [List.map_map, goz_img M cs zs _ (range_set h.1).1] at z'
                exact z'
              have lc : eFz (lcE (e1 rg1D (.g (e1 lenD (.b 0)))) (tgN 6) yesT (callE (F__law_line) [.g (eV 0), .g (eV 1), .g (eV 6), .g (eV 3)]) [6]) (stB M cs (.tuple [a, .str z]) (.str z) .un) = .ok (.list ((List.range M.length).map fun p => I (goz M cs zs p))) (stB M cs (.tuple [a, .str z]) (.str z) .un) := by
                rw [eFz_ap, lcE_ap, g1]
                simp only [Res.bind_ok, w, lp]
              simp only [Bool.not_true, Bool.false_eq_true, if_false, nxS_ap, Res.bind_ok, Bool.true_and]
              refine ⟨stB M cs (.tuple [a, .str z]) (.str z) .un, ?_⟩
              rw [rtS_ap, e2_ap, opd_g, e1_ap, opd_g, lc]
              simp only [Res.bind_ok, fin_d, obind, ls, ofO_some, opd_g, eC_ap, eq_int]
              by_cases q1 : (imgz M cs zs).length = 1
              · simp [-Option.bind_some, -Option.bind_none, q1]
              · have q2 : ¬ ((imgz M cs zs).length : Int) = 1 := by omega
                simp [-Option.bind_some, -Option.bind_none, q1, q2]
          | .none, okb, hz => exact ⟨stB M cs (.tuple [a, .none]) .none .un, by have i1 : isiD "str" .none = some (.bool false) := rfl; simp [-Option.bind_some, -Option.bind_none, x1, i1, truD, jy, stB]⟩
          | .bool v, okb, hz => exact ⟨stB M cs (.tuple [a, .bool v]) (.bool v) .un, by have i1 : isiD "str" (.bool v) = some (.bool false) := rfl; simp [-Option.bind_some, -Option.bind_none, x1, i1, truD, jy, stB]⟩
          | .int v, okb, hz => exact ⟨stB M cs (.tuple [a, .int v]) (.int v) .un, by have i1 : isiD "str" (.int v) = some (.bool false) := rfl; simp [-Option.bind_some, -Option.bind_none, x1, i1, truD, jy, stB]⟩
          | .list v, okb, hz => exact ⟨stB M cs (.tuple [a, .list v]) (.list v) .un, by have i1 : isiD "str" (.list v) = some (.bool false) := rfl; simp [-Option.bind_some, -Option.bind_none, x1, i1, truD, jy, stB]⟩
          | .tuple v, okb, hz => exact ⟨stB M cs (.tuple [a, .tuple v]) (.tuple v) .un, by have i1 : isiD "str" (.tuple v) = some (.bool false) := rfl; simp [-Option.bind_some, -Option.bind_none, x1, i1, truD, jy, stB]⟩
          | .dict v, okb, hz => exact absurd okb.1 (by intro z; cases z)
        · have qy : PyData.eqv (.str YES) a = false := by simpa [-Option.bind_some, -Option.bind_none] using qy
          rw [qy]
          by_cases qn : PyData.eqv (.str NO) a = true
          · have eJ : J M cs (.tuple [a, b]) = jn M cs b := by
              show (if PyData.eqv (.str YES) a = true then _ else if PyData.eqv (.str NO) a = true then _ else _) = _
              rw [if_neg (by rw [qy]; exact Bool.false_ne_true), if_pos qn]
            rw [eJ, qn]
            simp only [Bool.false_or, Bool.not_true, Bool.false_eq_true, if_false, nxS_ap, Res.bind_ok, s3, ty, qy]
            match b, okb, hz with
            | .tuple ps, okb, hz =>
              have i1 : isiD "tuple" (.tuple ps) = some (.bool true) := rfl
              have okp := tup_ok (n := 48) okb
              have em : eqD (.tuple ps) (.tuple []) = some (.bool ps.isEmpty) := by
                rw [eqD_ok (okb.mono (by omega)) ((ok_tup (n := 0) fun d hd => by simp [-Option.bind_some, -Option.bind_none] at hd).mono (by omega))]
                cases ps <;> exact Eq.trans rfl rfl
              have t2 : eOr (eNot (e1 truD (.g (e1 (isiD "tuple") (.b 3))))) (eT (e2 eqD (.b 3) (.g (eTup [])))) (stB M cs (.tuple [a, .tuple ps]) (.tuple ps) .un) = .ok ps.isEmpty (stB M cs (.tuple [a, .tuple ps]) (.tuple ps) .un) := by
                simp [-Option.bind_some, -Option.bind_none, i1, truD, em, stB]
              simp only [t2, Res.bind_ok]
              cases qe : ps.isEmpty with
              | true => exact ⟨stB M cs (.tuple [a, .tuple ps]) (.tuple ps) .un, by simp [-Option.bind_some, -Option.bind_none, jn, qe]⟩
              | false =>
                have ci : ∀ x4, eIt (eV 3) (stB M cs (.tuple [a, .tuple ps]) (.tuple ps) x4) = .ok ps (stB M cs (.tuple [a, .tuple ps]) (.tuple ps) x4) := fun x4 => by simp [-Option.bind_some, -Option.bind_none, stB]
                have tg : ∀ (x : Sl) (d : D), Loose x → (tgN 4).f d (stB M cs (.tuple [a, .tuple ps]) (.tuple ps) x) = some (stB M cs (.tuple [a, .tuple ps]) (.tuple ps) (.fz d)) := fun x d hx => by
                  show sto _ 4 _ = _
                  rw [sto_loose (x := x) (Eq.trans rfl rfl) hx]
                  exact Eq.trans rfl rfl
                obtain ⟨z5, l5, el⟩ := loop_all (t := tgN 4) (body := B__law_accepts_1) (st := fun x => stB M cs (.tuple [a, .tuple ps]) (.tuple ps) x) (okP M.length) ps .un (.inl rfl) fun x hx d hd' => ⟨tg x d hx, l1 M cs (.tuple [a, .tuple ps]) (.tuple ps) d ((okp d hd').mono (by omega))⟩
                simp only [Bool.false_eq_true, if_false, nxS_ap, Res.bind_ok, seqS_ap, forS_ap, ci, el]
                by_cases q1 : ps.all (okP M.length) = true
                · obtain ⟨y5, m5, el2⟩ := loop_all (t := tgN 4) (body := B__law_accepts_2) (st := fun x => stB M cs (.tuple [a, .tuple ps]) (.tuple ps) x) (f2 M cs.length ps) ps z5 l5 fun x hx d hd' => ⟨tg x d hx, by
                    obtain ⟨y, rfl, y1, y2⟩ := okP_pD (List.all_eq_true.mp q1 d hd')
                    exact l2 h hc (.tuple [a, .tuple ps]) ps (fun p hp => (okp p hp).mono (by omega)) y y1 y2⟩
                  rw [if_pos q1]
                  simp only [Res.bind_ok, ci, el2]
                  by_cases q2 : ps.all (f2 M cs.length ps) = true
                  · rw [if_pos q2]
                    exact ⟨stB M cs (.tuple [a, .tuple ps]) (.tuple ps) y5, by simp [-Option.bind_some, -Option.bind_none, jn, qe, q1, q2]⟩
                  · rw [if_neg q2]
                    exact ⟨stB M cs (.tuple [a, .tuple ps]) (.tuple ps) y5, by simp [-Option.bind_some, -Option.bind_none, jn, q2]⟩
                · rw [if_neg q1]
                  exact ⟨stB M cs (.tuple [a, .tuple ps]) (.tuple ps) z5, by simp [-Option.bind_some, -Option.bind_none, jn, q1]⟩
            | .none, okb, hz => exact ⟨stB M cs (.tuple [a, .none]) .none .un, by have i1 : isiD "tuple" .none = some (.bool false) := rfl; simp [-Option.bind_some, -Option.bind_none, i1, truD, jn, stB]⟩
            | .bool v, okb, hz => exact ⟨stB M cs (.tuple [a, .bool v]) (.bool v) .un, by have i1 : isiD "tuple" (.bool v) = some (.bool false) := rfl; simp [-Option.bind_some, -Option.bind_none, i1, truD, jn, stB]⟩
            | .int v, okb, hz => exact ⟨stB M cs (.tuple [a, .int v]) (.int v) .un, by have i1 : isiD "tuple" (.int v) = some (.bool false) := rfl; simp [-Option.bind_some, -Option.bind_none, i1, truD, jn, stB]⟩
            | .list v, okb, hz => exact ⟨stB M cs (.tuple [a, .list v]) (.list v) .un, by have i1 : isiD "tuple" (.list v) = some (.bool false) := rfl; simp [-Option.bind_some, -Option.bind_none, i1, truD, jn, stB]⟩
            | .str v, okb, hz => exact ⟨stB M cs (.tuple [a, .str v]) (.str v) .un, by have i1 : isiD "tuple" (.str v) = some (.bool false) := rfl; simp [-Option.bind_some, -Option.bind_none, i1, truD, jn, stB]⟩
            | .dict v, okb, hz => exact absurd okb.1 (by intro z; cases z)
          · have qn : PyData.eqv (.str NO) a = false := by simpa [-Option.bind_some, -Option.bind_none] using qn
            have eJ : J M cs (.tuple [a, b]) = false := by
              show (if PyData.eqv (.str YES) a = true then _ else if PyData.eqv (.str NO) a = true then _ else _) = _
              rw [if_neg (by rw [qy]; exact Bool.false_ne_true), if_neg (by rw [qn]; exact Bool.false_ne_true)]
            rw [eJ, qn]
            exact ⟨[.fz (mD M), .fz (.str (S cs)), .fz (.tuple [a, b]), .un, .un, .un, .un, .un], by simp [-Option.bind_some, -Option.bind_none]⟩
    · have e : J M cs (.tuple ds) = false := by
        match ds, hl with
        | [], _ => rfl
        | [_], _ => rfl
        | [_, _], h => exact absurd rfl h
        | _ :: _ :: _ :: _, _ => rfl
      have hl' : ¬ ((ds.length : Int) = 2) := by omega
      rw [e]
      exact ⟨[.fz (mD M), .fz (.str (S cs)), .fz (.tuple ds), .un, .un, .un, .un, .un], by simp [-Option.bind_some, -Option.bind_none, it, truD, hl']⟩
  | .none, ok, it, hz => exact ⟨[.fz (mD M), .fz (.str (S cs)), .fz .none, .un, .un, .un, .un, .un], by have it : isiD "tuple" .none = some (.bool false) := it; simp [-Option.bind_some, -Option.bind_none, it, truD, J]⟩
  | .bool v, ok, it, hz => exact ⟨[.fz (mD M), .fz (.str (S cs)), .fz (.bool v), .un, .un, .un, .un, .un], by have it : isiD "tuple" (.bool v) = some (.bool false) := it; simp [-Option.bind_some, -Option.bind_none, it, truD, J]⟩
  | .int v, ok, it, hz => exact ⟨[.fz (mD M), .fz (.str (S cs)), .fz (.int v), .un, .un, .un, .un, .un], by have it : isiD "tuple" (.int v) = some (.bool false) := it; simp [-Option.bind_some, -Option.bind_none, it, truD, J]⟩
  | .str v, ok, it, hz => exact ⟨[.fz (mD M), .fz (.str (S cs)), .fz (.str v), .un, .un, .un, .un, .un], by have it : isiD "tuple" (.str v) = some (.bool false) := it; simp [-Option.bind_some, -Option.bind_none, it, truD, J]⟩
  | .list v, ok, it, hz => exact ⟨[.fz (mD M), .fz (.str (S cs)), .fz (.list v), .un, .un, .un, .un, .un], by have it : isiD "tuple" (.list v) = some (.bool false) := it; simp [-Option.bind_some, -Option.bind_none, it, truD, J]⟩
  | .dict v, ok, it, hz => exact absurd ok.1 (by intro z; cases z)
end K66
end
section
set_option autoImplicit false
set_option maxRecDepth 100000
set_option Elab.async false
set_option linter.all false
namespace K66
open PySem DL L2 SX
/-! ### the same as itself -/
def Atom (d : D) : Prop := d = .none ∨ (∃ b, d = .bool b) ∨ (∃ i, d = .int i) ∨ ∃ z, d = .str z ∧ okN 0 (.str z)
def okS : Nat → D → Prop
  | 0, d => Atom d
  | n + 1, d => Atom d ∨ ∃ ds, (d = .list ds ∨ d = .tuple ds) ∧ ds.length ≤ 1000000 ∧ ∀ x ∈ ds, okS n x
theorem fin2 (a b : Sl) (ha : ∀ o, a ≠ .ow true o) (hb : ∀ o, b ≠ .ow true o) : ∀ ρ : Rho, outOf [a, b] ρ = [.un, .un] := fun ρ => by
  have ka : ∀ x, keepO a x = .un := fun x => by
    cases a with
    | un => rfl
    | fz d => rfl
    | ow t o =>
      cases t with
      | true => exact absurd rfl (ha o)
      | false => rfl
  have kb : ∀ x, keepO b x = .un := fun x => by
    cases b with
    | un => rfl
    | fz d => rfl
    | ow t o =>
      cases t with
      | true => exact absurd rfl (hb o)
      | false => rfl
  match ρ with
  | [] => rfl
  | [x] => show [keepO a x, .un] = _; rw [ka]
  | x :: y :: ρ => show [keepO a x, keepO b y] = _; rw [ka, kb]
theorem same_atom (d : D) (h : Atom d) (m : Nat) : F__law_same (m + 1) [.fz d, .fz d] = .ok (.bool true) [.un, .un] := by
  have ff := fin2 (.fz d) (.fz d) (fun _ z => by cases z) (fun _ z => by cases z)
  show bodyF 3 (g__law_same (F__law_same m)) _ = _
  have refl : ∀ d : D, okN 0 d → eqD d d = some (.bool true) := fun d hd => by rw [eqD_ok (hd.mono (by omega)) (hd.mono (by omega)), eqv_refl d hd.1]
  rcases h with rfl | ⟨b, rfl⟩ | ⟨i, rfl⟩ | ⟨z, rfl, hz⟩
  · refine bodyF_rt (ρ0 := [.fz .none, .fz .none, .un]) (r := [.fz .none, .fz .none, .un]) rfl ?_ (ff _)
    have e : isND .none .none = some (.bool true) := rfl
    unfold g__law_same
    simp [-Option.bind_some, -Option.bind_none, e]
  · refine bodyF_rt (ρ0 := [.fz (.bool b), .fz (.bool b), .un]) (r := [.fz (.bool b), .fz (.bool b), .un]) rfl ?_ (ff _)
    have e : isND (.bool b) .none = some (.bool false) := rfl
    have i1 : isiD "bool" (.bool b) = some (.bool true) := rfl
    have q := refl _ (ok_bool b)
    unfold g__law_same
    simp [-Option.bind_some, -Option.bind_none, e, i1, truD, q]
  · refine bodyF_rt (ρ0 := [.fz (.int i), .fz (.int i), .un]) (r := [.fz (.int i), .fz (.int i), .un]) rfl ?_ (ff _)
    have e : isND (.int i) .none = some (.bool false) := rfl
    have i1 : isiD "bool" (.int i) = some (.bool false) := rfl
    have i2 : isiD "int" (.int i) = some (.bool true) := rfl
    unfold g__law_same
    simp [-Option.bind_some, -Option.bind_none, e, i1, i2, truD]
  · refine bodyF_rt (ρ0 := [.fz (.str z), .fz (.str z), .un]) (r := [.fz (.str z), .fz (.str z), .un]) rfl ?_ (ff _)
    have e : isND (.str z) .none = some (.bool false) := rfl
    have i1 : isiD "bool" (.str z) = some (.bool false) := rfl
    have i2 : isiD "int" (.str z) = some (.bool false) := rfl
    have i3 : isiD "str" (.str z) = some (.bool true) := rfl
    have q := refl _ hz
    unfold g__law_same
    simp [-Option.bind_some, -Option.bind_none, e, i1, i2, i3, truD, q]
theorem same_refl : ∀ (n : Nat) (d : D) (m : Nat), okS n d → n < m → F__law_same m [.fz d, .fz d] = .ok (.bool true) [.un, .un]
  | 0, d, m, h, hm => by
    obtain ⟨m, rfl⟩ : ∃ k, m = k + 1 := ⟨m - 1, by omega⟩
    exact same_atom d h m
  | n + 1, d, m, h, hm => by
    obtain ⟨m, rfl⟩ : ∃ k, m = k + 1 := ⟨m - 1, by omega⟩
    rcases h with h | ⟨ds, hd, hl, hx⟩
    · exact same_atom d h m
    · have ff := fin2 (.fz d) (.fz d) (fun _ z => by cases z) (fun _ z => by cases z)
      show bodyF 3 (g__law_same (F__law_same m)) _ = _
      have e : isND d .none = some (.bool false) := by rcases hd with rfl | rfl <;> rfl
      have i1 : isiD "bool" d = some (.bool false) := by rcases hd with rfl | rfl <;> rfl
      have i2 : isiD "int" d = some (.bool false) := by rcases hd with rfl | rfl <;> rfl
      have i3 : isiD "str" d = some (.bool false) := by rcases hd with rfl | rfl <;> rfl
      have ln : lenD d = some (.int (ds.length : Int)) := by rcases hd with rfl | rfl <;> rfl
      have ixk : ∀ k : Nat, (hk : k < ds.length) → ixD d (.int (k : Int)) = some ds[k] := fun k hk => by
        rcases hd with rfl | rfl
        · show atI ds (k : Int) = _
          rw [atI_n, List.getElem?_eq_getElem hk]
        · show atI ds (k : Int) = _
          rw [atI_n, List.getElem?_eq_getElem hk]
      have rg := rg1_n ds.length (by omega)
      -- the loop
      have lp : ∀ (j i : Nat) (x : Sl), i + j = ds.length → Loose x → ∃ x', loopS (tgN 2) (B__law_same_1 (F__law_same m)) ((List.range' i j).map I) [.fz d, .fz d, x] = .ok .nx [.fz d, .fz d, x'] := by
        intro j
        induction j with
        | zero => intro i x _ _; exact ⟨x, Eq.trans rfl rfl⟩
        | succ j ih =>
          intro i x hi lx
          have hk : i < ds.length := by omega
          have sm := same_refl n ds[i] m (hx _ (List.getElem_mem hk)) (by omega)
          have ik := ixk i hk
          obtain ⟨x', e'⟩ := ih (i + 1) (.fz (I i)) (by omega) (.inr (.inl ⟨_, rfl⟩))
          refine ⟨x', ?_⟩
          have t : (tgN 2).f (I i) [.fz d, .fz d, x] = some [.fz d, .fz d, .fz (I i)] := by
            show sto _ 2 _ = _
            rw [sto_loose (x := x) (Eq.trans rfl rfl) lx]
            exact Eq.trans rfl rfl
          have b : B__law_same_1 (F__law_same m) [.fz d, .fz d, .fz (I i)] = .ok .nx [.fz d, .fz d, .fz (I i)] := by
            unfold B__law_same_1 I
            simp [-Option.bind_some, -Option.bind_none, ik, callR, slots, mk, sm, put, truD]
          rw [List.range'_succ, List.map_cons]
          unfold loopS
          rw [t]
          simp only [b, Res.bind_ok, e']
      obtain ⟨x', el⟩ := lp ds.length 0 .un (by omega) (.inl rfl)
      have fo : forS (e1 rg1D (.g (e1 lenD (.b 1)))) (tgN 2) (B__law_same_1 (F__law_same m)) [.fz d, .fz d, .un] = .ok .nx [.fz d, .fz d, x'] := by
        have g1 : e1 rg1D (.g (e1 lenD (.b 1))) [.fz d, .fz d, .un] = .ok ((List.range' 0 ds.length).map I) [.fz d, .fz d, .un] := by
          simp [-Option.bind_some, -Option.bind_none, ln, rg, ← List.range_eq_range']
        rw [forS_ap, g1, Res.bind_ok]
        exact el
      refine bodyF_rt (ρ0 := [.fz d, .fz d, .un]) (r := [.fz d, .fz d, x']) rfl ?_ (ff _)
      unfold g__law_same
      generalize hB : B__law_same_1 (F__law_same m) = B at fo
      have t1 : ifS (eAnd (e1 truD (.g (e1 (isiD "tuple") (.b 1)))) (eNot (e1 truD (.g (e1 (isiD "tuple") (.b 0)))))) (rtS (eC (.bool false))) nxS [.fz d, .fz d, .un] = .ok .nx [.fz d, .fz d, .un] := by
        rcases hd with rfl | rfl
        · have it : isiD "tuple" (.list ds) = some (.bool false) := rfl
          simp [-Option.bind_some, -Option.bind_none, it, truD]
        · have it : isiD "tuple" (.tuple ds) = some (.bool true) := rfl
          simp [-Option.bind_some, -Option.bind_none, it, truD]
      have t2 : ifS (eAnd (e1 truD (.g (e1 (isiD "list") (.b 1)))) (eNot (e1 truD (.g (e1 (isiD "list") (.b 0)))))) (rtS (eC (.bool false))) nxS [.fz d, .fz d, .un] = .ok .nx [.fz d, .fz d, .un] := by
        rcases hd with rfl | rfl
        · have it : isiD "list" (.list ds) = some (.bool true) := rfl
          simp [-Option.bind_some, -Option.bind_none, it, truD]
        · have it : isiD "list" (.tuple ds) = some (.bool false) := rfl
          simp [-Option.bind_some, -Option.bind_none, it, truD]
      have s1 : ifS (eT (e2 isND (.b 1) (.g (eC .none)))) (rtS (e2 isND (.b 0) (.g (eC .none)))) nxS [.fz d, .fz d, .un] = .ok .nx [.fz d, .fz d, .un] := by simp [-Option.bind_some, -Option.bind_none, e]
      have s2 : ifS (e1 truD (.g (e1 (isiD "bool") (.b 1)))) (rtS (eAndV (e1 (isiD "bool") (.b 0)) (e2 eqD (.b 0) (.b 1)))) nxS [.fz d, .fz d, .un] = .ok .nx [.fz d, .fz d, .un] := by simp [-Option.bind_some, -Option.bind_none, i1, truD]
      have s3 : ifS (e1 truD (.g (e1 (isiD "int") (.b 1)))) (rtS (eAndV (e1 (isiD "int") (.b 0)) (eAndV (eNotV (e1 (isiD "bool") (.b 0))) (e2 eqD (.b 0) (.b 1))))) nxS [.fz d, .fz d, .un] = .ok .nx [.fz d, .fz d, .un] := by simp [-Option.bind_some, -Option.bind_none, i2, truD]
      have s4 : ifS (e1 truD (.g (e1 (isiD "str") (.b 1)))) (rtS (eAndV (e1 (isiD "str") (.b 0)) (e2 eqD (.b 0) (.b 1)))) nxS [.fz d, .fz d, .un] = .ok .nx [.fz d, .fz d, .un] := by simp [-Option.bind_some, -Option.bind_none, i3, truD]
      have s5 : ifS (eT (e2 neD (.g (e1 lenD (.b 0))) (.g (e1 lenD (.b 1))))) (rtS (eC (.bool false))) nxS [.fz d, .fz d, .un] = .ok .nx [.fz d, .fz d, .un] := by simp [-Option.bind_some, -Option.bind_none, ln]
      simp only [seqS_ap, s1, s2, s3, s4, t1, t2, s5, fo, Res.bind_ok]
      simp [-Option.bind_some, -Option.bind_none]
/-! ### what is told is right -/
theorem left_mem {M : Mach} {m : List (Nat × Nat)} {x : Nat × Nat} : x ∈ left M m ↔ x ∈ prs M.length ∧ x ∉ m := by
  unfold left
  rw [List.mem_filter, decide_eq_true_eq, (List.mergeSort_perm _ _).mem_iff]
theorem isL_n {n p : Nat} (h : p < n) : isL n (I p) = true := by
  show (decide (0 ≤ (p : Int)) && decide ((p : Int) < (n : Int))) = true
  rw [decide_eq_true (by omega), decide_eq_true (by omega)]
  rfl
theorem okP_n {n : Nat} {x : Nat × Nat} (h1 : x.1 < x.2) (h2 : x.2 < n) : okP n (pD x) = true := by
  show (isL n (I x.1) && isL n (I x.2) && decide ((x.1 : Int) < (x.2 : Int))) = true
  rw [isL_n (by omega), isL_n h2, decide_eq_true (by omega)]
  rfl
theorem J_two (M : Mach) (cs : List Nat) (a b : D) : J M cs (.tuple [a, b]) = if PyData.eqv (.str YES) a = true then jy M cs b else if PyData.eqv (.str NO) a = true then jn M cs b else false := rfl
theorem no_right {M : Mach} {cs : List Nat} (h : Ok M cs.length) {m : List (Nat × Nat)} (cl : ∀ x ∈ prs M.length, x ∈ m ∨ trig M cs.length m x = false) (ne : left M m ≠ []) : J M cs (.tuple [.str NO, .tuple ((left M m).map pD)]) = true := by
  have q1 : PyData.eqv (.str YES) (.str NO) = false := by decide +kernel
  have q2 : PyData.eqv (.str NO) (.str NO) = true := by decide +kernel
  rw [J_two, q1, q2, if_neg Bool.false_ne_true, if_pos rfl]
  show (!((left M m).map pD).isEmpty && (((left M m).map pD).all (okP M.length) && ((left M m).map pD).all (f2 M cs.length ((left M m).map pD)))) = true
  simp only [Bool.and_eq_true]
  refine ⟨?_, ?_, ?_⟩
  · rw [List.isEmpty_map]
    cases q : left M m with
    | nil => exact absurd q ne
    | cons _ _ => rfl
  · rw [List.all_eq_true]
    intro d hd
    obtain ⟨x, hx, rfl⟩ := List.mem_map.mp hd
    obtain ⟨a, b⟩ := mem_prs.mp (left_mem.mp hx).1
    exact okP_n a b
  · rw [List.all_eq_true]
    intro d hd
    obtain ⟨x, hx, rfl⟩ := List.mem_map.mp hd
    obtain ⟨hp, hm⟩ := left_mem.mp hx
    rw [f2_pD, List.all_eq_true]
    intro k hk
    have hk := List.mem_range.mp hk
    rw [inAny_mem enc_pD _ _ inferInstance, decide_eq_true_eq]
    have tr := (cl x hp).resolve_left hm
    unfold trig at tr
    rw [List.any_eq_false] at tr
    have tk := tr k (List.mem_range.mpr hk)
    simp only [Bool.or_eq_true, decide_eq_true_eq, not_or] at tk
    exact left_mem.mpr ⟨(beh_prs h hp hk).resolve_left tk.1, tk.2⟩
theorem cAt_mem {cs : List Nat} {k : Nat} (h : k < cs.length) : cAt cs k ∈ cs := by
  unfold cAt
  simp [-Option.bind_some, -Option.bind_none, List.getD_eq_getElem?_getD, h]
theorem idx_cAt {cs : List Nat} (hd : cs.Nodup) {k : Nat} (h : k < cs.length) : cs.idxOf (cAt cs k) = k := by
  have m := cAt_mem h
  have l := (idx_at m).2
  refine nodup_idx hd l h ?_
  have e := (idx_at m).1
  rw [List.getElem?_eq_getElem l] at e
  have e := Option.some.inj e
  rw [e]
  unfold cAt
  simp [-Option.bind_some, -Option.bind_none, List.getD_eq_getElem?_getD, h]
theorem imgz_wd {M : Mach} {cs : List Nat} (hd : cs.Nodup) (r : List Nat) (h : ∀ k ∈ r, k < cs.length) : imgz M cs (wd cs r) = imgs M r := by
  unfold imgz imgs wd
  rw [List.foldl_map]
  have : ∀ (l : List Nat) (T : List Nat), (∀ k ∈ l, k < cs.length) → l.foldl (fun T k => img M (cs.idxOf (cAt cs k)) T) T = l.foldl (fun T k => img M k T) T := fun l => by
    induction l with
    | nil => intro T _; rfl
    | cons k l ih =>
      intro T hl
      rw [List.foldl_cons, List.foldl_cons, idx_cAt hd (hl k (by simp [-Option.bind_some, -Option.bind_none]))]
      exact ih _ fun j hj => hl j (by simp [-Option.bind_some, -Option.bind_none, hj])
  exact this r _ h
theorem yes_right {M : Mach} {cs : List Nat} (hd : cs.Nodup) (r : List Nat) (h1 : (imgs M r).length = 1) (h2 : ∀ k ∈ r, k < cs.length) : J M cs (.tuple [.str YES, .str (S (wd cs r))]) = true := by
  have q1 : PyData.eqv (.str YES) (.str YES) = true := by decide +kernel
  rw [J_two, q1, if_pos rfl]
  show (((S (wd cs r)).cps.toList.all fun c => decide (c ∈ cs)) && decide ((imgz M cs (S (wd cs r)).cps.toList).length = 1)) = true
  have e : (S (wd cs r)).cps.toList = wd cs r := rfl
  rw [e, imgz_wd hd r h2, decide_eq_true h1, Bool.and_true, List.all_eq_true]
  intro c hc
  obtain ⟨k, hk, rfl⟩ := List.mem_map.mp hc
  exact decide_eq_true (cAt_mem (h2 k hk))
end K66
end
section
set_option autoImplicit false
set_option maxRecDepth 100000
set_option Elab.async false
set_option linter.all false
namespace K66
open PySem DL L2 SX
/-! ### reset -/
theorem reset_a {M : Mach} {cs : List Nat} {L : List D} (hf : F_never_meeting [.fz (mD M), .fz (.str (S cs))] = .ok (.tuple L) [.un, .un]) : setS 2 (callE F_never_meeting [.g (eV 0), .g (eV 1)]) [.fz (mD M), .fz (.str (S cs)), .un] = .ok .nx [.fz (mD M), .fz (.str (S cs)), .fz (.tuple L)] := by
  rw [setS_ap, call2 (a := mD M) (b := .str (S cs)) (by simp [-Option.bind_some, -Option.bind_none]) (by simp [-Option.bind_some, -Option.bind_none]) hf]
  simp [-Option.bind_some, -Option.bind_none]
theorem reset_no {M : Mach} {cs : List Nat} {L : List D} (ne : L ≠ []) (hf : F_never_meeting [.fz (mD M), .fz (.str (S cs))] = .ok (.tuple L) [.un, .un]) : F_reset [.fz (mD M), .fz (.str (S cs))] = .ok (.tuple [.str NO, .tuple L]) [.un, .un] := by
  have tr : truD (.tuple L) = some true := by
    show some (!L.isEmpty) = _
    cases L with
    | nil => exact absurd rfl ne
    | cons _ _ => rfl
  refine bodyF_rt (n := 3) (g := g_reset) (ρ0 := [.fz (mD M), .fz (.str (S cs)), .un]) (r := [.fz (mD M), .fz (.str (S cs)), .fz (.tuple L)]) rfl ?_ rfl
  have b : ifS (e1 truD (.b 2)) (rtS (eTup [(eC (.str (Str.ofString "no"))), (eV 2)])) nxS [.fz (mD M), .fz (.str (S cs)), .fz (.tuple L)] = .ok (.rt (.tuple [.str NO, .tuple L])) [.fz (mD M), .fz (.str (S cs)), .fz (.tuple L)] := by simp [-Option.bind_some, -Option.bind_none, tr]
  unfold g_reset
  simp only [seqS_ap, reset_a hf, Res.bind_ok, b]
theorem reset_b {M : Mach} {cs : List Nat} : ifS (e1 truD (.b 2)) (rtS (eTup [(eC (.str (Str.ofString "no"))), (eV 2)])) nxS [.fz (mD M), .fz (.str (S cs)), .fz (.tuple [])] = .ok .nx [.fz (mD M), .fz (.str (S cs)), .fz (.tuple [])] := by
  have tr : truD (.tuple []) = some false := rfl
  simp [-Option.bind_some, -Option.bind_none, tr]
theorem reset_yes {M : Mach} {cs : List Nat} {d : D} (hf : F_never_meeting [.fz (mD M), .fz (.str (S cs))] = .ok (.tuple []) [.un, .un]) (hl : F_least_reset [.fz (mD M), .fz (.str (S cs))] = .ok d [.un, .un]) : F_reset [.fz (mD M), .fz (.str (S cs))] = .ok (.tuple [.str YES, d]) [.un, .un] := by
  refine bodyF_rt (n := 3) (g := g_reset) (ρ0 := [.fz (mD M), .fz (.str (S cs)), .un]) (r := [.fz (mD M), .fz (.str (S cs)), .fz (.tuple [])]) rfl ?_ rfl
  unfold g_reset
  simp only [seqS_ap, reset_a hf, Res.bind_ok, reset_b]
  rw [rtS_ap, eTup_ap, eL_cons, eC_ap, Res.bind_ok, eL_cons, call2 (a := mD M) (b := .str (S cs)) (by simp [-Option.bind_some, -Option.bind_none]) (by simp [-Option.bind_some, -Option.bind_none]) hl]
  simp [-Option.bind_some, -Option.bind_none]
theorem reset_wide {M : Mach} {cs : List Nat} (hf : F_never_meeting [.fz (mD M), .fz (.str (S cs))] = .ok (.tuple []) [.un, .un]) (hl : F_least_reset [.fz (mD M), .fz (.str (S cs))] = .er "TooWide" [.un, .un]) : F_reset [.fz (mD M), .fz (.str (S cs))] = .er "TooWide" [.un, .un] := by
  refine bodyF_er (n := 3) (g := g_reset) (ρ0 := [.fz (mD M), .fz (.str (S cs)), .un]) (r := [.fz (mD M), .fz (.str (S cs)), .fz (.tuple [])]) rfl ?_ rfl
  unfold g_reset
  simp only [seqS_ap, reset_a hf, Res.bind_ok, reset_b]
  rw [rtS_ap, eTup_ap, eL_cons, eC_ap, Res.bind_ok, eL_cons, call2e (a := mD M) (b := .str (S cs)) (by simp [-Option.bind_some, -Option.bind_none]) (by simp [-Option.bind_some, -Option.bind_none]) hl]
  simp [-Option.bind_some, -Option.bind_none]
theorem least_wide {M : Mach} {cs : List Nat} (hn : 16 < M.length) : F_least_reset [.fz (mD M), .fz (.str (S cs))] = .er "TooWide" [.un, .un] := by
  have lm : lenD (mD M) = some (.int (M.length : Int)) := by
    show some (PyData.int ((M.map rowD).length : Int)) = _
    rw [List.length_map]
  have g : (16 : Int) < (M.length : Int) := by omega
  refine bodyF_er (n := 10) (g := g_least_reset) (ρ0 := [.fz (mD M), .fz (.str (S cs)), .un, .un, .un, .un, .un, .un, .un, .un]) (r := [.fz (mD M), .fz (.str (S cs)), .un, .un, .un, .un, .un, .un, .un, .un]) rfl ?_ rfl
  unfold g_least_reset
  simp [-Option.bind_some, -Option.bind_none, lm, g, erS]
/-! ### a row that is drawn -/
theorem picks_row (ns : List Int) (cs : List Nat) (h1 : 1 ≤ cs.length) (h2 : cs.length ≤ 4) (l : D) : ∀ (m i : Nat) (s : S4) (n : Nat), n + m ≤ 1000 →
    ∃ (w : List Nat) (s' : S4), w.length = m ∧ (∀ c ∈ w, c ∈ cs) ∧ lcLoop (tgN 3) yesT (e2 ixD (.b 1) (.g (callE (F__law_next) [.s 0, .g (e1 lenD (.b 1))]))) [3] ((List.range' i m).map I) n [.ow true (obS ns s), .fz (.str (S cs)), .fz l, .un] = .ok (w.map chr) [.ow true (obS ns s'), .fz (.str (S cs)), .fz l, .un]
  | 0, i, s, n, _ => ⟨[], s, rfl, fun _ h => by simp [-Option.bind_some, -Option.bind_none] at h, Eq.trans rfl rfl⟩
  | m + 1, i, s, n, hn => by
    obtain ⟨v, s1, v1, v2, e⟩ := next_run ns s (cs.length : Int) (by omega) (by omega)
    obtain ⟨p, rfl⟩ := Int.eq_ofNat_of_zero_le v1
    have hp : p < cs.length := by omega
    obtain ⟨w, s2, w1, w2, e2'⟩ := picks_row ns cs h1 h2 l m (i + 1) s1 (n + 1) (by omega)
    refine ⟨cAt cs p :: w, s2, by simp [-Option.bind_some, -Option.bind_none, w1], fun c hc => ?_, ?_⟩
    · rcases List.mem_cons.mp hc with z | z
      · rw [z]; exact cAt_mem hp
      · exact w2 c z
    · have ls := len_str cs (by omega)
      have ix : ixD (.str (S cs)) (.int (p : Int)) = some (chr (cAt cs p)) := by
        refine ix_str cs p _ (by omega) ?_
        unfold cAt
        simp [-Option.bind_some, -Option.bind_none, List.getD_eq_getElem?_getD, hp]
      have t : (tgN 3).f (I i) [.ow true (obS ns s), .fz (.str (S cs)), .fz l, .un] = some [.ow true (obS ns s), .fz (.str (S cs)), .fz l, .fz (I i)] := Eq.trans rfl rfl
      have te : e2 ixD (.b 1) (.g (callE (F__law_next) [.s 0, .g (e1 lenD (.b 1))])) [.ow true (obS ns s), .fz (.str (S cs)), .fz l, .fz (I i)] = .ok (chr (cAt cs p)) [.ow true (obS ns s1), .fz (.str (S cs)), .fz l, .fz (I i)] := by
        unfold I at ls
        simp [-Option.bind_some, -Option.bind_none, argE, callR, slots, mk, ls, e, put, back, ix]
      have wp : wipeR [.ow true (obS ns s1), .fz (.str (S cs)), .fz l, .fz (I i)] [3] = [.ow true (obS ns s1), .fz (.str (S cs)), .fz l, .un] := Eq.trans rfl rfl
      have hn' : n < 16777216 := by omega
      rw [List.range'_succ, List.map_cons]
      unfold lcLoop
      rw [t]
      simp only [yesT_ap, noEr_ok, Res.bind_ok, if_true, te, hn', wp, e2']
      exact Eq.trans rfl rfl
theorem row_run (ns : List Int) (s : S4) (cs : List Nat) (h1 : 1 ≤ cs.length) (h2 : cs.length ≤ 4) : ∃ (w : List Nat) (s' : S4), w.length ≤ 6 ∧ (∀ c ∈ w, c ∈ cs) ∧ F__law_row [.ow true (obS ns s), .fz (.str (S cs)), .fz (.int 6)] = .ok (.str (S w)) [.ow true (obS ns s'), .un, .un] := by
  obtain ⟨v, s1, v1, v2, e⟩ := next_run ns s 7 (by omega) (by omega)
  obtain ⟨p, rfl⟩ := Int.eq_ofNat_of_zero_le v1
  obtain ⟨w, s2, w1, w2, e2'⟩ := picks_row ns cs h1 h2 (.int 6) p 0 s1 0 (by omega)
  refine ⟨w, s2, by omega, w2, ?_⟩
  have rg := rg1_n p (by omega)
  have g1 : e1 rg1D (.g (callE (F__law_next) [.s 0, .g (e2 addD (.b 2) (.g (eC (.int 1))))])) [.ow true (obS ns s), .fz (.str (S cs)), .fz (.int 6), .un] = .ok ((List.range' 0 p).map I) [.ow true (obS ns s1), .fz (.str (S cs)), .fz (.int 6), .un] := by
    simp [-Option.bind_some, -Option.bind_none, argE, callR, slots, mk, e, put, back, rg, ← List.range_eq_range']
  have w0 : wipeR [.ow true (obS ns s1), .fz (.str (S cs)), .fz (.int 6), .un] [3] = [.ow true (obS ns s1), .fz (.str (S cs)), .fz (.int 6), .un] := Eq.trans rfl rfl
  have ju := join_chr w (by omega)
  have em : Str.ofString "" = S [] := rfl
  refine bodyF_rt (n := 4) (g := g__law_row) (ρ0 := [.ow true (obS ns s), .fz (.str (S cs)), .fz (.int 6), .un]) (r := [.ow true (obS ns s2), .fz (.str (S cs)), .fz (.int 6), .un]) rfl ?_ rfl
  unfold g__law_row
  rw [rtS_ap, eM1_ap, eC_ap]
  simp only [Res.bind_ok, em, opd_g, eFz_ap, lcE_ap, g1, w0, e2', fin_d, obind, ju, ofO_some]
end K66
end
section
set_option autoImplicit false
set_option maxRecDepth 100000
set_option Elab.async false
set_option linter.all false
namespace K66
open PySem DL L2 SX
/-! ### papers turned -/
def OkT (t : D) : Prop := okN 6 t ∧ ∀ z, t = .str z → z.cps.toList.length ≤ 100000
theorem okT_str {w : List Nat} (h1 : ∀ c ∈ w, c < 1114112) (h2 : w.length ≤ 100000) : OkT (.str (S w)) := ⟨(ok_str h1).mono (by omega), fun z e => by cases e; exact h2⟩
theorem okT_tup {qs : List D} (h : ∀ q ∈ qs, okN 5 q) : OkT (.tuple qs) := ⟨ok_tup h, fun z e => by cases e⟩
theorem cut_ok {w : List Nat} (h1 : ∀ c ∈ w, c < 1114112) (h2 : w.length ≤ 10000) (lo hi : Option Int) : ∃ v : List Nat, slD (.str (S w)) lo hi = some (.str (S v)) ∧ (∀ c ∈ v, c < 1114112) ∧ v.length ≤ 10000 := by
  refine ⟨(w.drop (HT.sIx (S w).length 0 lo)).take (HT.sIx (S w).length (S w).length hi - HT.sIx (S w).length 0 lo), ?_, fun c hc => h1 c (List.mem_of_mem_drop (List.mem_of_mem_take hc)), ?_⟩
  · show (if (S w).length ≤ 16777216 then some (PyData.str (cutS (S w) lo hi)) else none) = _
    rw [if_pos (by rw [S_len]; omega)]
    rfl
  · rw [List.length_take, List.length_drop]
    omega
theorem sl_tup (qs : List D) (lo hi : Option Int) : slD (.tuple qs) lo hi = some (.tuple (cutL qs lo hi)) := rfl
theorem cutL_mem {qs : List D} {lo hi : Option Int} {q : D} (h : q ∈ cutL qs lo hi) : q ∈ qs := by
  unfold cutL at h
  exact List.mem_of_mem_drop (List.mem_of_mem_take h)
theorem cutL_len (qs : List D) (lo hi : Option Int) : (cutL qs lo hi).length ≤ qs.length := by
  unfold cutL
  rw [List.length_take, List.length_drop]
  omega
theorem add_tup (a b : List D) (h : a.length + b.length ≤ 16777216) : addD (.tuple a) (.tuple b) = some (.tuple (a ++ b)) := if_pos h
theorem turn_str (ns : List Int) (s : S4) (cs : List Nat) (h1 : 1 ≤ cs.length) (h2 : cs.length ≤ 4) (hc : ∀ c ∈ cs, c < 123) (w : List Nat) (hw0 : ∀ c ∈ w, c < 123) (hl0 : w.length ≤ 9000) :
    ∃ (t : D) (s' : S4), OkT t ∧ F__law_turned [.ow true (obS ns s), .fz (.str (S cs)), .fz (.str (S w))] = .ok t [.ow true (obS ns s'), .un, .un] := by
  have hw : ∀ c ∈ w, c < 1114112 := fun c h => by have := hw0 c h; omega
  obtain ⟨v, s1, v1, v2, e1'⟩ := next_run ns s 6 (by omega) (by omega)
  obtain ⟨pk', rfl⟩ := Int.eq_ofNat_of_zero_le v1
  obtain ⟨u, s2, u1, u2, e2'⟩ := next_run ns s1 (cs.length : Int) (by omega) (by omega)
  obtain ⟨p, rfl⟩ := Int.eq_ofNat_of_zero_le u1
  have hp : p < cs.length := by omega
  have cm := hc _ (cAt_mem hp)
  have ls := len_str cs (by omega)
  have ix : ixD (.str (S cs)) (.int (p : Int)) = some (chr (cAt cs p)) := by
    refine ix_str cs p _ (by omega) ?_
    unfold cAt
    simp [-Option.bind_some, -Option.bind_none, List.getD_eq_getElem?_getD, hp]
  obtain ⟨va, a1, a2, a3⟩ := cut_ok hw (by omega) (some 1) none
  obtain ⟨vb, b1, b2, b3⟩ := cut_ok hw (by omega) none (some (-1))
  have ad1 : addD (.str (S w)) (chr (cAt cs p)) = some (.str (S (w ++ [cAt cs p]))) := add_str w [cAt cs p] (by simp [-Option.bind_some, -Option.bind_none]; omega)
  have ad2 : addD (chr (cAt cs p)) (.str (S w)) = some (.str (S ([cAt cs p] ++ w))) := add_str [cAt cs p] w (by simp [-Option.bind_some, -Option.bind_none]; omega)
  have q1 : Str.ofString "q" = S [113] := by decide +kernel
  have ad3 : addD (.str (S w)) (.str (S [113])) = some (.str (S (w ++ [113]))) := add_str w [113] (by simp [-Option.bind_some, -Option.bind_none]; omega)
  have i1 : isiD "str" (.str (S w)) = some (.bool true) := rfl
  obtain ⟨t, ht, et⟩ : ∃ t, OkT t ∧ ixD (.list [.str (S (w ++ [cAt cs p])), .str (S va), .str (S ([cAt cs p] ++ w)), .str (S vb), .str (S (w ++ [113])), .int 5]) (.int (pk' : Int)) = some t := by
    have : pk' < 6 := by omega
    have mem1 : ∀ c ∈ w ++ [cAt cs p], c < 1114112 := fun c h => by
      rcases List.mem_append.mp h with z | z
      · exact hw c z
      · rw [List.mem_singleton.mp z]; omega
    have mem2 : ∀ c ∈ [cAt cs p] ++ w, c < 1114112 := fun c h => by
      rcases List.mem_append.mp h with z | z
      · rw [List.mem_singleton.mp z]; omega
      · exact hw c z
    have mem3 : ∀ c ∈ w ++ [113], c < 1114112 := fun c h => by
      rcases List.mem_append.mp h with z | z
      · exact hw c z
      · rw [List.mem_singleton.mp z]; omega
    match pk', this with
    | 0, _ => exact ⟨_, okT_str mem1 (by simp [-Option.bind_some, -Option.bind_none]; omega), rfl⟩
    | 1, _ => exact ⟨_, okT_str a2 (by omega), rfl⟩
    | 2, _ => exact ⟨_, okT_str mem2 (by simp [-Option.bind_some, -Option.bind_none]; omega), rfl⟩
    | 3, _ => exact ⟨_, okT_str b2 (by omega), rfl⟩
    | 4, _ => exact ⟨_, okT_str mem3 (by simp [-Option.bind_some, -Option.bind_none]; omega), rfl⟩
    | 5, _ => exact ⟨_, ⟨(ok_int 5).mono (by omega), fun z e => by cases e⟩, rfl⟩
  refine ⟨t, s2, ht, ?_⟩
  have c1 : setS 3 (callE F__law_next [.s 0, .g (eC (.int 6))]) [.ow true (obS ns s), .fz (.str (S cs)), .fz (.str (S w)), .un, .un, .un] = .ok .nx [.ow true (obS ns s1), .fz (.str (S cs)), .fz (.str (S w)), .fz (.int (pk' : Int)), .un, .un] := by
    rw [setS_ap, callS1 (b := true) (o := obS ns s) (a := .int 6) (by simp [-Option.bind_some, -Option.bind_none]) (by simp [-Option.bind_some, -Option.bind_none]) e1']
    simp [-Option.bind_some, -Option.bind_none]
  have c2 : setS 4 (e2 ixD (.b 1) (.g (callE F__law_next [.s 0, .g (e1 lenD (.b 1))]))) [.ow true (obS ns s1), .fz (.str (S cs)), .fz (.str (S w)), .fz (.int (pk' : Int)), .un, .un] = .ok .nx [.ow true (obS ns s2), .fz (.str (S cs)), .fz (.str (S w)), .fz (.int (pk' : Int)), .fz (chr (cAt cs p)), .un] := by
    have cc : callE F__law_next [.s 0, .g (e1 lenD (.b 1))] [.ow true (obS ns s1), .fz (.str (S cs)), .fz (.str (S w)), .fz (.int (pk' : Int)), .un, .un] = .ok (.int (p : Int)) [.ow true (obS ns s2), .fz (.str (S cs)), .fz (.str (S w)), .fz (.int (pk' : Int)), .un, .un] := by
      refine callS1 (b := true) (o := obS ns s1) (a := .int (cs.length : Int)) (by simp [-Option.bind_some, -Option.bind_none]) ?_ e2'
      unfold I at ls
      simp [-Option.bind_some, -Option.bind_none, ls]
    simp [-Option.bind_some, -Option.bind_none, -callE_ap, cc, ix]
  have c3 : rtS (e2 ixD (.g (eFz (eLst [(e2 addD (.b 2) (.b 4)), (eSl slD (.b 2) (some (eC (.int 1))) none), (e2 addD (.b 4) (.b 2)), (eSl slD (.b 2) none (some (e1 negD (.g (eC (.int 1)))))), (e2 addD (.b 2) (.g (eC (.str (Str.ofString "q"))))), (eC (.int 5))]))) (.b 3)) [.ow true (obS ns s2), .fz (.str (S cs)), .fz (.str (S w)), .fz (.int (pk' : Int)), .fz (chr (cAt cs p)), .un] = .ok (.rt t) [.ow true (obS ns s2), .fz (.str (S cs)), .fz (.str (S w)), .fz (.int (pk' : Int)), .fz (chr (cAt cs p)), .un] := by
    rw [q1]
    have n1 : negD (.int 1) = some (.int (-1)) := rfl
    have et' := et
    simp [-Option.bind_some, -Option.bind_none, eSl, optE, ad1, ad2, ad3, a1, b1, n1] at et' ⊢
    simp [-Option.bind_some, -Option.bind_none, et']
  have c4 : e1 truD (.g (e1 (isiD "str") (.b 2))) [.ow true (obS ns s1), .fz (.str (S cs)), .fz (.str (S w)), .fz (.int (pk' : Int)), .un, .un] = .ok true [.ow true (obS ns s1), .fz (.str (S cs)), .fz (.str (S w)), .fz (.int (pk' : Int)), .un, .un] := by
    simp [-Option.bind_some, -Option.bind_none, i1, truD]
  refine bodyF_rt (n := 6) (g := g__law_turned) (ρ0 := [.ow true (obS ns s), .fz (.str (S cs)), .fz (.str (S w)), .un, .un, .un]) (r := [.ow true (obS ns s2), .fz (.str (S cs)), .fz (.str (S w)), .fz (.int (pk' : Int)), .fz (chr (cAt cs p)), .un]) rfl ?_ rfl
  unfold g__law_turned
  simp only [seqS_ap, c1, Res.bind_ok, ifS_ap, c4, if_true, c2, c3]
theorem ix_P (L : List (Nat × Nat)) (k : Nat) (h : k < L.length) : ixD (.tuple (L.map pD)) (.int (k : Int)) = some (pD L[k]) := by
  show atI _ (k : Int) = _
  rw [atI_n, List.getElem?_map, List.getElem?_eq_getElem h]
  exact Eq.trans rfl rfl
theorem turn_tup (ns : List Int) (s : S4) (cs : List Nat) (L : List (Nat × Nat)) (h0 : L ≠ []) (hl : L.length ≤ 100000) :
    ∃ (t : D) (s' : S4), OkT t ∧ F__law_turned [.ow true (obS ns s), .fz (.str (S cs)), .fz (.tuple (L.map pD))] = .ok t [.ow true (obS ns s'), .un, .un] := by
  have pos : 0 < L.length := List.length_pos_iff.mpr h0
  obtain ⟨v, s1, v1, v2, e1'⟩ := next_run ns s 6 (by omega) (by omega)
  obtain ⟨pk', rfl⟩ := Int.eq_ofNat_of_zero_le v1
  obtain ⟨u, s2, u1, u2, e2'⟩ := next_run ns s1 (L.length : Int) (by omega) (by omega)
  obtain ⟨k, rfl⟩ := Int.eq_ofNat_of_zero_le u1
  have hk : k < L.length := by omega
  have ln : lenD (.tuple (L.map pD)) = some (.int (L.length : Int)) := by
    show some (PyData.int ((L.map pD).length : Int)) = _
    rw [List.length_map]
  have i1 : isiD "str" (.tuple (L.map pD)) = some (.bool false) := rfl
  have okq : ∀ q ∈ L.map pD, okN 5 q := fun q hq => (ok_Ps L q hq).mono (by omega)
  have ixk := ix_P L k hk
  have pp : okN 1 (pD L[k]) := ok_pD _
  generalize hE : L.map pD = E at ln i1 okq ixk
  have hEl : E.length ≤ 100000 := by rw [← hE, List.length_map]; exact hl
  have cl1 := cutL_len E none (some (k : Int))
  have cl2 := cutL_len E (some ((k : Int) + 1)) none
  have c1 : setS 3 (callE F__law_next [.s 0, .g (eC (.int 6))]) [.ow true (obS ns s), .fz (.str (S cs)), .fz (.tuple E), .un, .un, .un] = .ok .nx [.ow true (obS ns s1), .fz (.str (S cs)), .fz (.tuple E), .fz (.int (pk' : Int)), .un, .un] := by
    rw [setS_ap, callS1 (b := true) (o := obS ns s) (a := .int 6) (by simp [-Option.bind_some, -Option.bind_none]) (by simp [-Option.bind_some, -Option.bind_none]) e1']
    simp [-Option.bind_some, -Option.bind_none]
  have c4 : e1 truD (.g (e1 (isiD "str") (.b 2))) [.ow true (obS ns s1), .fz (.str (S cs)), .fz (.tuple E), .fz (.int (pk' : Int)), .un, .un] = .ok false [.ow true (obS ns s1), .fz (.str (S cs)), .fz (.tuple E), .fz (.int (pk' : Int)), .un, .un] := by
    simp [-Option.bind_some, -Option.bind_none, i1, truD]
  have c2 : setS 5 (callE F__law_next [.s 0, .g (e1 lenD (.b 2))]) [.ow true (obS ns s1), .fz (.str (S cs)), .fz (.tuple E), .fz (.int (pk' : Int)), .un, .un] = .ok .nx [.ow true (obS ns s2), .fz (.str (S cs)), .fz (.tuple E), .fz (.int (pk' : Int)), .un, .fz (.int (k : Int))] := by
    rw [setS_ap, callS1 (b := true) (o := obS ns s1) (a := .int (L.length : Int)) (by simp [-Option.bind_some, -Option.bind_none]) (by simp [-Option.bind_some, -Option.bind_none, ln]) e2']
    simp [-Option.bind_some, -Option.bind_none]
  suffices H : ∃ t, OkT t ∧ (seqS (ifS (eT (e2 eqD (.b 3) (.g (eC (.int 0)))))
    (rtS (e2 addD (.b 2) (.g (eTup [(eTup [(eC (.int 0)), (eC (.int 1))])]))))
    nxS)
    (seqS (ifS (eT (e2 eqD (.b 3) (.g (eC (.int 1)))))
    (rtS (e2 addD (.g (eSl slD (.b 2) none (some (eV 5)))) (.g (eSl slD (.b 2) (some (e2 addD (.b 5) (.g (eC (.int 1))))) none))))
    nxS)
    (seqS (ifS (eT (e2 eqD (.b 3) (.g (eC (.int 2)))))
    (rtS (e1 revD (.b 2)))
    nxS)
    (rtS (e2 addD (.g (e2 addD (.g (eSl slD (.b 2) none (some (eV 5)))) (.g (eTup [(e2 ixD (.g (eFz (eLst [(e1 revD (.g (e2 ixD (.b 2) (.b 5)))), (eTup [(e2 ixD (.g (e2 ixD (.b 2) (.b 5))) (.g (eC (.int 0)))), (e2 ixD (.g (e2 ixD (.b 2) (.b 5))) (.g (eC (.int 0))))]), (eTup [(e2 ixD (.g (e2 ixD (.b 2) (.b 5))) (.g (eC (.int 0)))), (eC (.int 99))])]))) (.g (e2 subD (.b 3) (.g (eC (.int 3))))))])))) (.g (eSl slD (.b 2) (some (e2 addD (.b 5) (.g (eC (.int 1))))) none))))))) [.ow true (obS ns s2), .fz (.str (S cs)), .fz (.tuple E), .fz (.int (pk' : Int)), .un, .fz (.int (k : Int))] = .ok (.rt t) [.ow true (obS ns s2), .fz (.str (S cs)), .fz (.tuple E), .fz (.int (pk' : Int)), .un, .fz (.int (k : Int))] by
    obtain ⟨t, ht, et⟩ := H
    refine ⟨t, s2, ht, ?_⟩
    refine bodyF_rt (n := 6) (g := g__law_turned) (ρ0 := [.ow true (obS ns s), .fz (.str (S cs)), .fz (.tuple E), .un, .un, .un]) (r := [.ow true (obS ns s2), .fz (.str (S cs)), .fz (.tuple E), .fz (.int (pk' : Int)), .un, .fz (.int (k : Int))]) rfl ?_ rfl
    unfold g__law_turned
    rw [seqS_ap, c1, Res.bind_ok]
    rw [seqS_ap, ifS_ap, c4]
    simp only [Res.bind_ok, Bool.false_eq_true, if_false, nxS_ap]
    rw [seqS_ap, c2]
    exact et
  have mem1 : ∀ q ∈ cutL E none (some (k : Int)), okN 5 q := fun q hq => okq q (cutL_mem hq)
  have mem2 : ∀ q ∈ cutL E (some ((k : Int) + 1)) none, okN 5 q := fun q hq => okq q (cutL_mem hq)
  have pair01 : okN 5 (.tuple [.int 0, .int 1]) := (ok_tup (n := 0) fun d hd => by
    simp only [List.mem_cons, List.not_mem_nil, or_false] at hd
    rcases hd with e | e <;> (rw [e]; exact ok_int _)).mono (by omega)
  have mid : ∀ (x : D), okN 5 x → ∃ t, OkT t ∧ addD (.tuple (cutL E none (some (k : Int)))) (.tuple [x]) = some (.tuple (cutL E none (some (k : Int)) ++ [x])) ∧ addD (.tuple (cutL E none (some (k : Int)) ++ [x])) (.tuple (cutL E (some ((k : Int) + 1)) none)) = some t := fun x hx => by
    refine ⟨.tuple (cutL E none (some (k : Int)) ++ [x] ++ cutL E (some ((k : Int) + 1)) none), okT_tup fun q hq => ?_, add_tup _ _ (by simp [-Option.bind_some, -Option.bind_none]; omega), add_tup _ _ (by simp [-Option.bind_some, -Option.bind_none]; omega)⟩
    rcases List.mem_append.mp hq with z | z
    · rcases List.mem_append.mp z with z | z
      · exact mem1 q z
      · rw [List.mem_singleton.mp z]; exact hx
    · exact mem2 q z
  have this : pk' < 6 := by omega
  have rv : revD (pD L[k]) = some (.tuple [I L[k].2, I L[k].1]) := rfl
  have p0 := ix_p0 L[k]
  match pk', this with
  | 0, _ =>
    have a := add_tup E [.tuple [.int 0, .int 1]] (by simp [-Option.bind_some, -Option.bind_none]; omega)
    refine ⟨.tuple (E ++ [.tuple [.int 0, .int 1]]), okT_tup fun q hq => ?_, by simp [-Option.bind_some, -Option.bind_none, a]⟩
    rcases List.mem_append.mp hq with z | z
    · exact okq q z
    · rw [List.mem_singleton.mp z]; exact pair01
  | 1, _ =>
    have a := add_tup (cutL E none (some (k : Int))) (cutL E (some ((k : Int) + 1)) none) (by omega)
    refine ⟨.tuple (cutL E none (some (k : Int)) ++ cutL E (some ((k : Int) + 1)) none), okT_tup fun q hq => ?_, by simp [-Option.bind_some, -Option.bind_none, eSl, optE, sl_tup, a]⟩
    rcases List.mem_append.mp hq with z | z
    · exact mem1 q z
    · exact mem2 q z
  | 2, _ =>
    have a : revD (.tuple E) = some (.tuple E.reverse) := rfl
    exact ⟨.tuple E.reverse, okT_tup fun q hq => okq q (List.mem_reverse.mp hq), by simp [-Option.bind_some, -Option.bind_none, a]⟩
  | 3, _ =>
    obtain ⟨t, ht, m1, m2⟩ := mid (.tuple [I L[k].2, I L[k].1]) ((ok_tup (n := 0) fun d hd => by
      simp only [List.mem_cons, List.not_mem_nil, or_false] at hd
      rcases hd with e | e <;> (rw [e]; exact ok_I _)).mono (by omega))
    exact ⟨t, ht, by simp [-Option.bind_some, -Option.bind_none, eSl, optE, sl_tup, ixk, rv, p0, m1, m2]⟩
  | 4, _ =>
    obtain ⟨t, ht, m1, m2⟩ := mid (.tuple [I L[k].1, I L[k].1]) ((ok_tup (n := 0) fun d hd => by
      simp only [List.mem_cons, List.not_mem_nil, or_false] at hd
      rcases hd with e | e <;> (rw [e]; exact ok_I _)).mono (by omega))
    exact ⟨t, ht, by simp [-Option.bind_some, -Option.bind_none, eSl, optE, sl_tup, ixk, rv, p0, m1, m2]⟩
  | 5, _ =>
    obtain ⟨t, ht, m1, m2⟩ := mid (.tuple [I L[k].1, .int 99]) ((ok_tup (n := 0) fun d hd => by
      simp only [List.mem_cons, List.not_mem_nil, or_false] at hd
      rcases hd with e | e
      · rw [e]; exact ok_I _
      · rw [e]; exact ok_int _).mono (by omega))
    exact ⟨t, ht, by simp [-Option.bind_some, -Option.bind_none, eSl, optE, sl_tup, ixk, rv, p0, m1, m2]⟩
end K66
end
section
set_option autoImplicit false
set_option maxRecDepth 100000
set_option Elab.async false
set_option linter.all false
namespace K66
open PySem DL L2 SX
/-! ### one turn of the law -/
def stU (ns : List Int) (s : S4) (x2 : Sl) (cs : List Nat) (M : Mach) (d5 p d7 : D) (x8 x9 x10 : Sl) : Rho := [.un, .ow false (obS ns s), x2, .fz (.str (S cs)), .fz (mD M), .fz d5, .fz p, .fz d7, x8, x9, x10, .un, .un, .un, .un, .un]
def OkA (d : D) : Prop := okN 50 d ∧ ∀ a z, d = .tuple [a, .str z] → z.cps.toList.length ≤ 1000000
theorem mutS_at {f : List D → D → Option (List D)} {i : Nat} {g : Ev D} {ρ r : Rho} {b0 b : Bool} {xs0 xs ys : List D} {d : D} (h : ρ[i]? = some (.ow b0 (.ls xs0))) (hg : g ρ = .ok d r) (h2 : r[i]? = some (.ow b (.ls xs))) (hf : f xs d = some ys) : mutS f i g ρ = .ok .nx (r.set i (.ow b (.ls ys))) := by
  unfold mutS
  rw [h]
  simp only [hg, Res.bind_ok, h2, hf]
theorem check_run {M : Mach} {cs : List Nat} (h : Ok M cs.length) (hn : M.length ≤ 20) (hc : cs.length ≤ 4) (hd : cs.Nodup) (ns : List Int) (s : S4) (x2 : Sl) (d5 p d7 : D) (x8 x9 : Sl) (d : D) (ok : OkA d) :
    B_law_2 (stU ns s x2 cs M d5 p d7 x8 x9 (.fz d)) = .ok .nx (stU ns s x2 cs M d5 p d7 x8 x9 (.fz d)) := by
  have e1' : callE F_judge_reset [.g (eV 4), .g (eV 3), .g (eV 10)] (stU ns s x2 cs M d5 p d7 x8 x9 (.fz d)) = .ok (.bool (J M cs d)) (stU ns s x2 cs M d5 p d7 x8 x9 (.fz d)) := call3 (by simp [-Option.bind_some, -Option.bind_none, stU]) (by simp [-Option.bind_some, -Option.bind_none, stU]) (by simp [-Option.bind_some, -Option.bind_none, stU]) (judge_run h hn hc hd d ok.1 ok.2)
  have e2' : callE F__law_accepts [.g (eV 4), .g (eV 3), .g (eV 10)] (stU ns s x2 cs M d5 p d7 x8 x9 (.fz d)) = .ok (.bool (J M cs d)) (stU ns s x2 cs M d5 p d7 x8 x9 (.fz d)) := call3 (by simp [-Option.bind_some, -Option.bind_none, stU]) (by simp [-Option.bind_some, -Option.bind_none, stU]) (by simp [-Option.bind_some, -Option.bind_none, stU]) (accepts_run h hn hc hd d ok.1 ok.2)
  have e3 := call2 e1' e2' (same_atom (.bool (J M cs d)) (.inr (.inl ⟨_, rfl⟩)) 5)
  unfold B_law_2
  rw [ifS_ap, eNot_ap, e1_ap, opd_g, e3]
  simp [-Option.bind_some, -Option.bind_none, truD]
theorem checks_run {M : Mach} {cs : List Nat} (h : Ok M cs.length) (hn : M.length ≤ 20) (hc : cs.length ≤ 4) (hd : cs.Nodup) (ns : List Int) (s : S4) (x2 : Sl) (d5 p d7 : D) (x8 x9 : Sl) : ∀ (ds : List D) (x10 : Sl), (∀ d ∈ ds, OkA d) → Loose x10 →
    ∃ y, Loose y ∧ loopS (tgN 10) B_law_2 ds (stU ns s x2 cs M d5 p d7 x8 x9 x10) = .ok .nx (stU ns s x2 cs M d5 p d7 x8 x9 y)
  | [], x10, _, l => ⟨x10, l, Eq.trans rfl rfl⟩
  | d :: ds, x10, ok, l => by
    obtain ⟨y, ly, e⟩ := checks_run h hn hc hd ns s x2 d5 p d7 x8 x9 ds (.fz d) (fun x hx => ok x (by simp [-Option.bind_some, -Option.bind_none, hx])) (.inr (.inl ⟨_, rfl⟩))
    refine ⟨y, ly, ?_⟩
    have t : (tgN 10).f d (stU ns s x2 cs M d5 p d7 x8 x9 x10) = some (stU ns s x2 cs M d5 p d7 x8 x9 (.fz d)) := by
      show sto _ 10 _ = _
      rw [sto_loose (x := x10) (Eq.trans rfl rfl) l]
      exact Eq.trans rfl rfl
    unfold loopS
    rw [t]
    simp only [check_run h hn hc hd ns s x2 d5 p d7 x8 x9 d (ok d (by simp [-Option.bind_some, -Option.bind_none])), Res.bind_ok]
    rw [e]
def Turns (ns : List Int) (cs : List Nat) (t0 : D) : Prop := ∀ s : S4, ∃ (t : D) (s' : S4), OkT t ∧ F__law_turned [.ow true (obS ns s), .fz (.str (S cs)), .fz t0] = .ok t [.ow true (obS ns s'), .un, .un]
theorem okA_pair {a b : D} (ha : okN 40 a) (hb : okN 40 b) (hs : ∀ z, b = .str z → z.cps.toList.length ≤ 1000000) : OkA (.tuple [a, b]) := ⟨(ok_tup (n := 40) fun d hd => by
  simp only [List.mem_cons, List.not_mem_nil, or_false] at hd
  rcases hd with e | e <;> (rw [e]; assumption)).mono (by omega), fun a' z e => by cases e; exact hs _ rfl⟩
theorem turn_run (ns : List Int) (s : S4) (x2 : Sl) (cs : List Nat) (M : Mach) (d5 v t0 d7 : D) (x9 x10 : Sl) (hv : okN 0 v) (hT : Turns ns cs t0) (A : List D) (hA : A.length ≤ 1000) :
    ∃ (t : D) (s' : S4), OkA (.tuple [v, t]) ∧ B_law_1 (stU ns s x2 cs M d5 (.tuple [v, t0]) d7 (.ow false (.ls A)) x9 x10) = .ok .nx (stU ns s' x2 cs M d5 (.tuple [v, t0]) d7 (.ow false (.ls (A ++ [.tuple [v, t]]))) x9 x10) := by
  obtain ⟨t, s', ht, e⟩ := hT s
  refine ⟨t, s', okA_pair (hv.mono (by omega)) (ht.1.mono (by omega)) (fun z q => by have := ht.2 z q; omega), ?_⟩
  have c : callE F__law_turned [.s 1, .g (eV 3), .g (e2 ixD (.b 6) (.g (eC (.int 1))))] (stU ns s x2 cs M d5 (.tuple [v, t0]) d7 (.ow false (.ls A)) x9 x10) = .ok t (stU ns s' x2 cs M d5 (.tuple [v, t0]) d7 (.ow false (.ls A)) x9 x10) := by
    rw [callS2 (b := false) (o := obS ns s) (a := .str (S cs)) (e := t0) (by simp [-Option.bind_some, -Option.bind_none, stU]) (by simp [-Option.bind_some, -Option.bind_none, stU]) (by simp [-Option.bind_some, -Option.bind_none, stU]) e]
    simp [-Option.bind_some, -Option.bind_none, stU]
  have g0 : e2 ixD (.b 6) (.g (eC (.int 0))) (stU ns s x2 cs M d5 (.tuple [v, t0]) d7 (.ow false (.ls A)) x9 x10) = .ok v (stU ns s x2 cs M d5 (.tuple [v, t0]) d7 (.ow false (.ls A)) x9 x10) := by simp [-Option.bind_some, -Option.bind_none, stU]
  have g : eTup [(e2 ixD (.b 6) (.g (eC (.int 0)))), (callE (F__law_turned) [.s 1, .g (eV 3), .g (e2 ixD (.b 6) (.g (eC (.int 1))))])] (stU ns s x2 cs M d5 (.tuple [v, t0]) d7 (.ow false (.ls A)) x9 x10) = .ok (.tuple [v, t]) (stU ns s' x2 cs M d5 (.tuple [v, t0]) d7 (.ow false (.ls A)) x9 x10) := by
    rw [eTup_ap, eL_cons, g0, Res.bind_ok, eL_cons, c]
    simp [-Option.bind_some, -Option.bind_none]
  unfold B_law_1
  rw [mutS_at (b0 := false) (b := false) (xs0 := A) (xs := A) (ys := A ++ [.tuple [v, t]]) (by simp [-Option.bind_some, -Option.bind_none, stU]) g (by simp [-Option.bind_some, -Option.bind_none, stU]) (by rw [app_ap, if_pos (by omega)])]
  simp [-Option.bind_some, -Option.bind_none, stU]
theorem turns_run (ns : List Int) (x2 : Sl) (cs : List Nat) (M : Mach) (d5 v t0 d7 : D) (x10 : Sl) (hv : okN 0 v) (hT : Turns ns cs t0) : ∀ (ds : List D) (s : S4) (x9 : Sl) (A : List D), A.length + ds.length ≤ 1000 → Loose x9 →
    ∃ (B : List D) (s' : S4) (y : Sl), B.length = ds.length ∧ (∀ d ∈ B, OkA d) ∧ Loose y ∧ loopS (tgN 9) B_law_1 ds (stU ns s x2 cs M d5 (.tuple [v, t0]) d7 (.ow false (.ls A)) x9 x10) = .ok .nx (stU ns s' x2 cs M d5 (.tuple [v, t0]) d7 (.ow false (.ls (A ++ B))) y x10)
  | [], s, x9, A, _, l => ⟨[], s, x9, rfl, fun _ h => by simp [-Option.bind_some, -Option.bind_none] at h, l, by rw [List.append_nil]; exact Eq.trans rfl rfl⟩
  | d :: ds, s, x9, A, hA, l => by
    rw [List.length_cons] at hA
    obtain ⟨t, s1, ok, e1'⟩ := turn_run ns s x2 cs M d5 v t0 d7 (.fz d) x10 hv hT A (by omega)
    obtain ⟨B, s2, y, hB, okB, ly, e⟩ := turns_run ns x2 cs M d5 v t0 d7 x10 hv hT ds s1 (.fz d) (A ++ [.tuple [v, t]]) (by rw [List.length_append]; simp [-Option.bind_some, -Option.bind_none]; omega) (.inr (.inl ⟨_, rfl⟩))
    refine ⟨.tuple [v, t] :: B, s2, y, by simp [-Option.bind_some, -Option.bind_none, hB], fun x hx => ?_, ly, ?_⟩
    · rcases List.mem_cons.mp hx with z | z
      · rw [z]; exact ok
      · exact okB x z
    have t' : (tgN 9).f d (stU ns s x2 cs M d5 (.tuple [v, t0]) d7 (.ow false (.ls A)) x9 x10) = some (stU ns s x2 cs M d5 (.tuple [v, t0]) d7 (.ow false (.ls A)) (.fz d) x10) := by
      show sto _ 9 _ = _
      rw [sto_loose (x := x9) (Eq.trans rfl rfl) l]
      exact Eq.trans rfl rfl
    unfold loopS
    rw [t']
    simp only [e1', Res.bind_ok]
    rw [e, List.append_assoc]
    rfl
/-! what is due -/
theorem all_meet {M : Mach} {c : Nat} {m : List (Nat × Nat)} (g : Good M c m) (e : left M m = []) : ∀ x ∈ prs M.length, Meet M c x := fun x hx => by
  by_cases hm : x ∈ m
  · exact g.snd x hm
  · have : x ∈ left M m := left_mem.mpr ⟨hx, hm⟩
    rw [e] at this
    cases this
theorem start_inv (M : Mach) (c : Nat) (h : Ok M c) : Inv M c [] [(List.range M.length, [])] := ⟨.nil, fun _ h => by simp [-Option.bind_some, -Option.bind_none] at h, fun x hx => by
  rw [List.mem_singleton.mp hx]
  exact ⟨rfl, range_set h.1, fun _ h => by simp [-Option.bind_some, -Option.bind_none] at h, by simp [-Option.bind_some, -Option.bind_none]⟩, fun _ h => by simp [-Option.bind_some, -Option.bind_none] at h, .inr ⟨[], by simp [-Option.bind_some, -Option.bind_none]⟩⟩
theorem due_run {M : Mach} {cs : List Nat} (h : Ok M cs.length) (hn : M.length ≤ 10) (hc : cs.length ≤ 4) (hc1 : 1 ≤ cs.length) (hd : cs.Nodup) (hch : ∀ c ∈ cs, c < 123) (ns : List Int) :
    ∃ (L : List (Nat × Nat)) (v t0 : D), F__law_meeting [.fz (mD M), .fz (.str (S cs))] = .ok (.list (L.map pD)) [.un, .un] ∧ F_reset [.fz (mD M), .fz (.str (S cs))] = .ok (.tuple [v, t0]) [.un, .un] ∧ J M cs (.tuple [v, t0]) = true ∧ okS 3 (.tuple [v, t0]) ∧ okN 0 v ∧ OkT t0 ∧ Turns ns cs t0 ∧ L.length ≤ 1000 ∧
      ((L ≠ [] ∧ v = .str NO ∧ t0 = .tuple (L.map pD)) ∨ (L = [] ∧ v = .str YES ∧ F__law_least_reset [.fz (mD M), .fz (.str (S cs))] = .ok t0 [.un, .un])) := by
  obtain ⟨m1, g1, c1, en⟩ := never_run h hc (by omega)
  obtain ⟨m2, g2, c2, em⟩ := meeting_run h hc (by omega)
  have ls := left_same h g1 c1 g2 c2
  rw [← ls] at em
  have pl := prs_len M.length
  have sq := sq_le (n := M.length) (by omega)
  have ll : (left M m1).length ≤ 400 := by
    unfold left
    refine Nat.le_trans (List.length_filter_le _ _) ?_
    rw [List.length_mergeSort]
    omega
  by_cases e : left M m1 = []
  · rw [e] at en em
    obtain ⟨hh, r, h1, F, h2, h3, h4⟩ := find_run h hc (all_meet g1 e) _ [] _ (start_inv M cs.length h) (Nat.le_refl _)
    have p2 : 2 ^ M.length ≤ 2 ^ 10 := Nat.pow_le_pow_right (by omega) hn
    have p2 : 2 ^ M.length ≤ 1024 := p2
    have hb : hh < 90000 := by simp [-Option.bind_some, -Option.bind_none] at h1; omega
    have a1 := least_run h (by omega) hc F hb
    have a2 := law_least_run h (by omega) hc hch F hb
    have wl : (wd cs r).length = r.length := by unfold wd; rw [List.length_map]
    have wc : ∀ c ∈ wd cs r, c < 123 := fun c hx => by
      obtain ⟨k, hk, rfl⟩ := List.mem_map.mp hx
      exact hch _ (cAt_mem (h3 k hk))
    have ot : OkT (.str (S (wd cs r))) := okT_str (fun c hx => by have := wc c hx; omega) (by omega)
    have okd : okS 3 (.tuple [.str YES, .str (S (wd cs r))]) := .inr ⟨_, .inr rfl, by simp [-Option.bind_some, -Option.bind_none], fun x hx => by
      simp only [List.mem_cons, List.not_mem_nil, or_false] at hx
      rcases hx with e | e
      · rw [e]; exact .inl (.inr (.inr (.inr ⟨_, rfl, ok_YES⟩)))
      · rw [e]; exact .inl (.inr (.inr (.inr ⟨_, rfl, ok_str fun c hx => by have := wc c hx; omega⟩)))⟩
    exact ⟨[], .str YES, .str (S (wd cs r)), em, reset_yes en a1, yes_right hd r h2 h3, okd, ok_YES, ot, fun s => turn_str ns s cs hc1 hc hch (wd cs r) wc (by omega), by simp [-Option.bind_some, -Option.bind_none], .inr ⟨rfl, rfl, a2⟩⟩
  · have atI : ∀ k, Atom (I k) := fun k => .inr (.inr (.inl ⟨_, rfl⟩))
    have okp : ∀ x ∈ (left M m1).map pD, okS 1 x := fun x hx => by
      obtain ⟨y, _, rfl⟩ := List.mem_map.mp hx
      refine .inr ⟨_, .inr rfl, by simp [-Option.bind_some, -Option.bind_none], fun z hz => ?_⟩
      simp only [List.mem_cons, List.not_mem_nil, or_false] at hz
      rcases hz with e | e <;> (rw [e]; exact atI _)
    have okd : okS 3 (.tuple [.str NO, .tuple ((left M m1).map pD)]) := .inr ⟨_, .inr rfl, by simp [-Option.bind_some, -Option.bind_none], fun x hx => by
      simp only [List.mem_cons, List.not_mem_nil, or_false] at hx
      rcases hx with e | e
      · rw [e]; exact .inl (.inr (.inr (.inr ⟨_, rfl, ok_NO⟩)))
      · rw [e]; exact .inr ⟨_, .inr rfl, by rw [List.length_map]; omega, okp⟩⟩
    have en' := reset_no (fun q => e (List.map_eq_nil_iff.mp q)) en
    exact ⟨left M m1, .str NO, .tuple ((left M m1).map pD), em, en', no_right h c1 e, okd, ok_NO, okT_tup fun q hq => (ok_Ps _ q hq).mono (by omega), fun s => turn_tup ns s cs (left M m1) e (by omega), by omega, .inl ⟨e, rfl, rfl⟩⟩
end K66
end
section
set_option autoImplicit false
set_option maxRecDepth 100000
set_option Elab.async false
set_option linter.all false
namespace K66
open PySem DL L2 SX
/-! ### a turn of the law, whole -/
def stV (ns : List Int) (s : S4) (x2 x3 x4 x5 x6 x7 x8 x9 x10 : Sl) : Rho := [.un, .ow false (obS ns s), x2, x3, x4, x5, x6, x7, x8, x9, x10, .un, .un, .un, .un, .un]
theorem setS_loose {i : Nat} {g : Ev D} {ρ r : Rho} {d : D} {x : Sl} (hg : g ρ = .ok d r) (hl : r[i]? = some x) (lx : Loose x) : setS i g ρ = .ok .nx (r.set i (.fz d)) := by
  rw [setS_ap, hg, Res.bind_ok, sto_loose hl lx]
  rfl
theorem setO_loose {i : Nat} {g : Ev Ob} {ρ r : Rho} {d : Ob} {x : Sl} (hg : g ρ = .ok d r) (hl : r[i]? = some x) (lx : Loose x) : setO i g ρ = .ok .nx (r.set i (.ow false d)) := by
  rw [setO_ap, hg, Res.bind_ok, sto_loose hl lx]
  rfl
def asksA (v t0 : D) : List D := [.none, .tuple [v], .list [v, t0], .tuple [.str (Str.ofString "maybe"), t0], .tuple [.str (Str.ofString "yes"), t0], .tuple [.str (Str.ofString "no"), t0], .tuple [.str (Str.ofString "yes"), .str (Str.ofString "")], .tuple [.str (Str.ofString "no"), .tuple []], .tuple [.str (Str.ofString "no"), .tuple [.int 5]], .tuple [.str (Str.ofString "no"), .tuple [.tuple [.int 0, .int 1, .int 2]]]]
def asksB : List D := [.tuple [.str (Str.ofString "no"), .list [.tuple [.int 0, .int 1]]], .tuple [.str (Str.ofString "no"), .tuple [.tuple [.bool true, .int 1]]], .tuple [.str (Str.ofString "yes"), .none], .tuple [.str (Str.ofString "no"), .tuple [.list [.int 0, .int 1]]], .tuple [.str (Str.ofString "no"), .tuple [.tuple [.list [.int 0], .int 1]]], .tuple [.str (Str.ofString "yes"), .str (Str.ofString "q")], .tuple [.str (Str.ofString "yes"), .list [.str (Str.ofString "a")]], .tuple [.str (Str.ofString "no"), .tuple [.tuple [.int (-1), .int 0]]]]
theorem listA (ns : List Int) (s : S4) (x2 : Sl) (cs : List Nat) (M : Mach) (d5 v t0 d7 : D) (x8 x9 x10 : Sl) : (eLst [(eC .none), (eSl slD (.b 6) none (some (eC (.int 1)))), (eFz (e1 lstO (.b 6))), (eTup [(eC (.str (Str.ofString "maybe"))), (e2 ixD (.b 6) (.g (eC (.int 1))))]), (eTup [(eC (.str (Str.ofString "yes"))), (e2 ixD (.b 6) (.g (eC (.int 1))))]), (eTup [(eC (.str (Str.ofString "no"))), (e2 ixD (.b 6) (.g (eC (.int 1))))]), (eTup [(eC (.str (Str.ofString "yes"))), (eC (.str (Str.ofString "")))]), (eTup [(eC (.str (Str.ofString "no"))), (eTup [])]), (eTup [(eC (.str (Str.ofString "no"))), (eTup [(eC (.int 5))])]), (eTup [(eC (.str (Str.ofString "no"))), (eTup [(eTup [(eC (.int 0)), (eC (.int 1)), (eC (.int 2))])])])]) (stU ns s x2 cs M d5 (.tuple [v, t0]) d7 x8 x9 x10) = .ok (.ls (asksA v t0)) (stU ns s x2 cs M d5 (.tuple [v, t0]) d7 x8 x9 x10) := by
  have sl : slD (.tuple [v, t0]) none (some 1) = some (.tuple [v]) := rfl
  simp [-Option.bind_some, -Option.bind_none, stU, eSl, optE, sl, asksA]
theorem listB (ns : List Int) (s : S4) (x2 : Sl) (cs : List Nat) (M : Mach) (d5 p d7 : D) (A : List D) (hA : A.length ≤ 100) (x9 x10 : Sl) : (e2 catO (.b 8) (.g (eFz (eLst [(eTup [(eC (.str (Str.ofString "no"))), (eFz (eLst [(eTup [(eC (.int 0)), (eC (.int 1))])]))]), (eTup [(eC (.str (Str.ofString "no"))), (eTup [(eTup [(eC (.bool true)), (eC (.int 1))])])]), (eTup [(eC (.str (Str.ofString "yes"))), (eC .none)]), (eTup [(eC (.str (Str.ofString "no"))), (eTup [(eFz (eLst [(eC (.int 0)), (eC (.int 1))]))])]), (eTup [(eC (.str (Str.ofString "no"))), (eTup [(eTup [(eFz (eLst [(eC (.int 0))])), (eC (.int 1))])])]), (eTup [(eC (.str (Str.ofString "yes"))), (eC (.str (Str.ofString "q")))]), (eTup [(eC (.str (Str.ofString "yes"))), (eFz (eLst [(eC (.str (Str.ofString "a")))]))]), (eTup [(eC (.str (Str.ofString "no"))), (eTup [(eTup [(e1 negD (.g (eC (.int 1)))), (eC (.int 0))])])])])))) (stU ns s x2 cs M d5 p d7 (.ow false (.ls A)) x9 x10) = .ok (.ls (A ++ asksB)) (stU ns s x2 cs M d5 p d7 (.ow false (.ls A)) x9 x10) := by
  have c : catO (.list A) (.list asksB) = some (.ls (A ++ asksB)) := if_pos (by have : asksB.length = 8 := rfl; omega)
  have n1 : negD (.int 1) = some (.int (-1)) := rfl
  unfold asksB at c ⊢
  simp [-Option.bind_some, -Option.bind_none, stU, n1, c]
theorem s5 (z : String) (h : (Str.ofString z).cps.toList.all (fun c => decide (c < 1114112)) = true) : okN 5 (.str (Str.ofString z)) := (ok_str fun c hc => by
  have := List.all_eq_true.mp h c hc
  exact of_decide_eq_true this).mono (by omega)
theorem oc {n : Nat} {d : D} {ds : List D} (h : okN n d) (h2 : ∀ x ∈ ds, okN n x) : ∀ x ∈ d :: ds, okN n x := fun x hx => by
  rcases List.mem_cons.mp hx with z | z
  · rw [z]; exact h
  · exact h2 x z
theorem on {n : Nat} : ∀ x ∈ ([] : List D), okN n x := fun _ h => by cases h
theorem oi (n : Nat) (i : Int) : okN n (.int i) := (ok_int i).mono (by omega)
theorem ob (n : Nat) (i : Bool) : okN n (.bool i) := (ok_bool i).mono (by omega)
theorem okA_c {d : D} {ds : List D} (h : OkA d) (h2 : ∀ x ∈ ds, OkA x) : ∀ x ∈ d :: ds, OkA x := fun x hx => by
  rcases List.mem_cons.mp hx with z | z
  · rw [z]; exact h
  · exact h2 x z
theorem okA_n : ∀ x ∈ ([] : List D), OkA x := fun _ h => by cases h
theorem okB : ∀ d ∈ asksB, OkA d := by
  have sy := s5 "yes" (by decide +kernel)
  have sn := s5 "no" (by decide +kernel)
  have sq := s5 "q" (by decide +kernel)
  have sa := s5 "a" (by decide +kernel)
  refine okA_c (okA_pair (sn.mono (by omega)) ((ok_list (oc (ok_tup (n := 5) (oc (oi _ _) (oc (oi _ _) on))) on)).mono (by omega)) (fun z e => by cases e)) ?_
  refine okA_c (okA_pair (sn.mono (by omega)) ((ok_tup (oc (ok_tup (n := 5) (oc (ob _ _) (oc (oi _ _) on))) on)).mono (by omega)) (fun z e => by cases e)) ?_
  refine okA_c (okA_pair (sy.mono (by omega)) (ok_none.mono (by omega)) (fun z e => by cases e)) ?_
  refine okA_c (okA_pair (sn.mono (by omega)) ((ok_tup (oc (ok_list (n := 5) (oc (oi _ _) (oc (oi _ _) on))) on)).mono (by omega)) (fun z e => by cases e)) ?_
  refine okA_c (okA_pair (sn.mono (by omega)) ((ok_tup (oc (ok_tup (n := 6) (oc (ok_list (oc (oi 5 _) on)) (oc (oi _ _) on))) on)).mono (by omega)) (fun z e => by cases e)) ?_
  refine okA_c (okA_pair (sy.mono (by omega)) (sq.mono (by omega)) (fun z e => by cases e; decide +kernel)) ?_
  refine okA_c (okA_pair (sy.mono (by omega)) ((ok_list (oc sa on)).mono (by omega)) (fun z e => by cases e)) ?_
  refine okA_c (okA_pair (sn.mono (by omega)) ((ok_tup (oc (ok_tup (n := 5) (oc (oi _ _) (oc (oi _ _) on))) on)).mono (by omega)) (fun z e => by cases e)) okA_n
theorem okA1 {v t0 : D} (hv : okN 0 v) (ht : OkT t0) : ∀ d ∈ asksA v t0, OkA d := by
  have sy := s5 "yes" (by decide +kernel)
  have sn := s5 "no" (by decide +kernel)
  have sm := s5 "maybe" (by decide +kernel)
  have st : ∀ z, t0 = .str z → z.cps.toList.length ≤ 1000000 := fun z q => by have := ht.2 z q; omega
  refine okA_c ⟨ok_none.mono (by omega), fun a z e => by cases e⟩ ?_
  refine okA_c ⟨(ok_tup (oc hv on)).mono (by omega), fun a z e => by cases e⟩ ?_
  refine okA_c ⟨(ok_list (n := 6) (oc (hv.mono (by omega)) (oc ht.1 on))).mono (by omega), fun a z e => by cases e⟩ ?_
  refine okA_c (okA_pair (sm.mono (by omega)) (ht.1.mono (by omega)) st) ?_
  refine okA_c (okA_pair (sy.mono (by omega)) (ht.1.mono (by omega)) st) ?_
  refine okA_c (okA_pair (sn.mono (by omega)) (ht.1.mono (by omega)) st) ?_
  refine okA_c (okA_pair (sy.mono (by omega)) ((s5 "" (by decide +kernel)).mono (by omega)) (fun z e => by cases e; decide +kernel)) ?_
  refine okA_c (okA_pair (sn.mono (by omega)) ((ok_tup (n := 0) on).mono (by omega)) (fun z e => by cases e)) ?_
  refine okA_c (okA_pair (sn.mono (by omega)) ((ok_tup (oc (oi 0 _) on)).mono (by omega)) (fun z e => by cases e)) ?_
  refine okA_c (okA_pair (sn.mono (by omega)) ((ok_tup (oc (ok_tup (n := 5) (oc (oi _ _) (oc (oi _ _) (oc (oi _ _) on)))) on)).mono (by omega)) (fun z e => by cases e)) okA_n
end K66
end
section
set_option autoImplicit false
set_option maxRecDepth 100000
set_option Elab.async false
set_option linter.all false
namespace K66
open PySem DL L2 SX
theorem due_step (ns : List Int) (s : S4) (x2 : Sl) (cs : List Nat) (M : Mach) (L : List (Nat × Nat)) (v t0 : D) (x6 x7 x8 x9 x10 : Sl) (l6 : Loose x6)
    (h : (L ≠ [] ∧ v = .str NO ∧ t0 = .tuple (L.map pD)) ∨ (L = [] ∧ v = .str YES ∧ F__law_least_reset [.fz (mD M), .fz (.str (S cs))] = .ok t0 [.un, .un])) :
    setS 6 (eIf (eT (e2 neD (.b 5) (.g (eFz (eLst []))))) (eTup [(eC (.str (Str.ofString "no"))), (e1 tupD (.b 5))]) (eTup [(eC (.str (Str.ofString "yes"))), (callE (F__law_least_reset) [.g (eV 4), .g (eV 3)])])) (stV ns s x2 (.fz (.str (S cs))) (.fz (mD M)) (.fz (.list (L.map pD))) x6 x7 x8 x9 x10) = .ok .nx (stV ns s x2 (.fz (.str (S cs))) (.fz (mD M)) (.fz (.list (L.map pD))) (.fz (.tuple [v, t0])) x7 x8 x9 x10) := by
  have nn := ne_nil2 (L.map pD) fun d hd => (ok_Ps L d hd).mono (by omega)
  rw [List.isEmpty_map] at nn
  have cond : eT (e2 neD (.b 5) (.g (eFz (eLst [])))) (stV ns s x2 (.fz (.str (S cs))) (.fz (mD M)) (.fz (.list (L.map pD))) x6 x7 x8 x9 x10) = .ok (!L.isEmpty) (stV ns s x2 (.fz (.str (S cs))) (.fz (mD M)) (.fz (.list (L.map pD))) x6 x7 x8 x9 x10) := by
    simp [-Option.bind_some, -Option.bind_none, stV, nn]
  suffices H : (eIf (eT (e2 neD (.b 5) (.g (eFz (eLst []))))) (eTup [(eC (.str (Str.ofString "no"))), (e1 tupD (.b 5))]) (eTup [(eC (.str (Str.ofString "yes"))), (callE (F__law_least_reset) [.g (eV 4), .g (eV 3)])])) (stV ns s x2 (.fz (.str (S cs))) (.fz (mD M)) (.fz (.list (L.map pD))) x6 x7 x8 x9 x10) = .ok (.tuple [v, t0]) (stV ns s x2 (.fz (.str (S cs))) (.fz (mD M)) (.fz (.list (L.map pD))) x6 x7 x8 x9 x10) by
    rw [setS_loose H (x := x6) (Eq.trans rfl rfl) l6]
    exact Eq.trans rfl rfl
  rw [eIf_ap, cond, Res.bind_ok]
  rcases h with ⟨ne, rfl, rfl⟩ | ⟨rfl, rfl, hl⟩
  · have : (!L.isEmpty) = true := by
      cases L with
      | nil => exact absurd rfl ne
      | cons _ _ => rfl
    rw [if_pos this]
    simp [-Option.bind_some, -Option.bind_none, stV, NO]
  · rw [if_neg (by decide)]
    have c := call2 (ρ := stV ns s x2 (.fz (.str (S cs))) (.fz (mD M)) (.fz (.list ([].map pD))) x6 x7 x8 x9 x10) (ga := eV 4) (gb := eV 3) (by simp [-Option.bind_some, -Option.bind_none, stV]) (by simp [-Option.bind_some, -Option.bind_none, stV]) hl
    rw [eTup_ap, eL_cons, eC_ap, Res.bind_ok, eL_cons, c]
    simp [-Option.bind_some, -Option.bind_none, YES]
theorem told_step {M : Mach} {cs : List Nat} (h : Ok M cs.length) (hn : M.length ≤ 20) (hc : cs.length ≤ 4) (hd : cs.Nodup) (ns : List Int) (s : S4) (x2 : Sl) (d5 p : D) (x8 x9 x10 : Sl) (ok : OkA p) (os : okS 3 p) (hJ : J M cs p = true) :
    ifS (eOr (eNot (e1 truD (.g (callE (F__law_same 6) [.g (eV 7), .g (eV 6)])))) (eT (e2 notBD (.g (callE (F_judge_reset) [.g (eV 4), .g (eV 3), .g (eV 7)])) (.g (eC (.bool true)))))) (rtS (eC (.bool false))) nxS (stU ns s x2 cs M d5 p p x8 x9 x10) = .ok .nx (stU ns s x2 cs M d5 p p x8 x9 x10) := by
  have e1' := call3 (ρ := stU ns s x2 cs M d5 p p x8 x9 x10) (ga := eV 4) (gb := eV 3) (gc := eV 7) (by simp [-Option.bind_some, -Option.bind_none, stU]) (by simp [-Option.bind_some, -Option.bind_none, stU]) (by simp [-Option.bind_some, -Option.bind_none, stU]) (judge_run h hn hc hd p ok.1 ok.2)
  rw [hJ] at e1'
  have e2' := call2 (ρ := stU ns s x2 cs M d5 p p x8 x9 x10) (ga := eV 7) (gb := eV 6) (by simp [-Option.bind_some, -Option.bind_none, stU]) (by simp [-Option.bind_some, -Option.bind_none, stU]) (same_refl 3 p 6 os (by omega))
  have nb : notBD (.bool true) (.bool true) = some (.bool false) := rfl
  rw [ifS_ap, eOr_ap, eNot_ap, e1_ap, opd_g, e2']
  simp only [Res.bind_ok, fin_d, obind, truD, ofO_some, Bool.not_true, Bool.false_eq_true, if_false]
  rw [eT_ap, e2_ap, opd_g, e1']
  simp [-Option.bind_some, -Option.bind_none, nb]
theorem row_step (ns : List Int) (s : S4) (x2 : Sl) (cs : List Nat) (M : Mach) (d5 p d7 : D) (x9 x10 : Sl) (h1 : 1 ≤ cs.length) (h2 : cs.length ≤ 4) (hch : ∀ c ∈ cs, c < 123) (A : List D) (hA : A.length ≤ 1000) (okA : ∀ d ∈ A, OkA d) :
    ∃ (B : List D) (s' : S4), B.length = A.length + 1 ∧ (∀ d ∈ B, OkA d) ∧ mutS appF 8 (eTup [(eC (.str (Str.ofString "yes"))), (callE (F__law_row) [.s 1, .g (eV 3), .g (eC (.int 6))])]) (stU ns s x2 cs M d5 p d7 (.ow false (.ls A)) x9 x10) = .ok .nx (stU ns s' x2 cs M d5 p d7 (.ow false (.ls B)) x9 x10) := by
  obtain ⟨w, s', wl, wc, e⟩ := row_run ns s cs h1 h2
  have c := callS2 (ρ := stU ns s x2 cs M d5 p d7 (.ow false (.ls A)) x9 x10) (i := 1) (ga := eV 3) (gb := eC (.int 6)) (b := false) (o := obS ns s) (by simp [-Option.bind_some, -Option.bind_none, stU]) (by simp [-Option.bind_some, -Option.bind_none, stU]) (by simp [-Option.bind_some, -Option.bind_none, stU]) e
  have okw : OkA (.tuple [.str (Str.ofString "yes"), .str (S w)]) := okA_pair ((s5 "yes" (by decide +kernel)).mono (by omega)) ((ok_str fun c hc => by have := hch c (wc c hc); omega).mono (by omega)) (fun z e => by cases e; show w.length ≤ _; omega)
  refine ⟨A ++ [.tuple [.str (Str.ofString "yes"), .str (S w)]], s', by simp [-Option.bind_some, -Option.bind_none], fun d hd => ?_, ?_⟩
  · rcases List.mem_append.mp hd with z | z
    · exact okA d z
    · rw [List.mem_singleton.mp z]; exact okw
  have g : (eTup [(eC (.str (Str.ofString "yes"))), (callE (F__law_row) [.s 1, .g (eV 3), .g (eC (.int 6))])]) (stU ns s x2 cs M d5 p d7 (.ow false (.ls A)) x9 x10) = .ok (.tuple [.str (Str.ofString "yes"), .str (S w)]) (stU ns s' x2 cs M d5 p d7 (.ow false (.ls A)) x9 x10) := by
    rw [eTup_ap, eL_cons, eC_ap, Res.bind_ok, eL_cons, c]
    simp [-Option.bind_some, -Option.bind_none, stU]
  rw [mutS_at (b0 := false) (b := false) (xs0 := A) (xs := A) (ys := A ++ [.tuple [.str (Str.ofString "yes"), .str (S w)]]) (by simp [-Option.bind_some, -Option.bind_none, stU]) g (by simp [-Option.bind_some, -Option.bind_none, stU]) (by rw [app_ap, if_pos (by omega)])]
  simp [-Option.bind_some, -Option.bind_none, stU]
theorem ways_step (ns : List Int) (s : S4) (x2 : Sl) (cs : List Nat) (M : Mach) (d5 p d7 : D) (x9 x10 : Sl) (hM : 0 < M.length) (hn : M.length ≤ 20) (A : List D) (hA : A.length ≤ 1000) (okA : ∀ d ∈ A, OkA d) :
    ∃ (B : List D), B.length = A.length + 1 ∧ (∀ d ∈ B, OkA d) ∧ mutS appF 8 (eTup [(eC (.str (Str.ofString "no"))), (e1 tupD (.g (eFz (lcE (e1 rg1D (.g (e2 subD (.g (e1 lenD (.b 4))) (.g (eC (.int 1)))))) (tgN 15) yesT (eTup [(eV 15), (e2 addD (.b 15) (.g (eC (.int 1))))]) [15]))))]) (stU ns s x2 cs M d5 p d7 (.ow false (.ls A)) x9 x10) = .ok .nx (stU ns s x2 cs M d5 p d7 (.ow false (.ls B)) x9 x10) := by
  have lm : lenD (mD M) = some (.int (M.length : Int)) := by
    show some (PyData.int ((M.map rowD).length : Int)) = _
    rw [List.length_map]
  have sb : ((M.length : Int) - 1) = ((M.length - 1 : Nat) : Int) := by omega
  have rg := rg1_n (M.length - 1) (by omega)
  have g1 : (e1 rg1D (.g (e2 subD (.g (e1 lenD (.b 4))) (.g (eC (.int 1)))))) (stU ns s x2 cs M d5 p d7 (.ow false (.ls A)) x9 x10) = .ok ((List.range (M.length - 1)).map I) (stU ns s x2 cs M d5 p d7 (.ow false (.ls A)) x9 x10) := by
    simp [-Option.bind_some, -Option.bind_none, stU, lm, sb, rg]
  have lp : lcLoop (tgN 15) yesT (eTup [(eV 15), (e2 addD (.b 15) (.g (eC (.int 1))))]) [15] ((List.range (M.length - 1)).map I) 0 (stU ns s x2 cs M d5 p d7 (.ow false (.ls A)) x9 x10) = .ok ((List.range (M.length - 1)).map fun k => pD (k, k + 1)) (stU ns s x2 cs M d5 p d7 (.ow false (.ls A)) x9 x10) := by
    refine lc_map I (fun k => pD (k, k + 1)) _ 0 (by simp [-Option.bind_some, -Option.bind_none]; omega) fun k hk => ?_
    refine ⟨(stU ns s x2 cs M d5 p d7 (.ow false (.ls A)) x9 x10).set 15 (.fz (I k)), (stU ns s x2 cs M d5 p d7 (.ow false (.ls A)) x9 x10).set 15 (.fz (I k)), Eq.trans rfl rfl, ?_, Eq.trans rfl rfl⟩
    simp [-Option.bind_some, -Option.bind_none, stU, I, pD]
  have w : wipeR (stU ns s x2 cs M d5 p d7 (.ow false (.ls A)) x9 x10) [15] = stU ns s x2 cs M d5 p d7 (.ow false (.ls A)) x9 x10 := Eq.trans rfl rfl
  have lc : lcE (e1 rg1D (.g (e2 subD (.g (e1 lenD (.b 4))) (.g (eC (.int 1)))))) (tgN 15) yesT (eTup [(eV 15), (e2 addD (.b 15) (.g (eC (.int 1))))]) [15] (stU ns s x2 cs M d5 p d7 (.ow false (.ls A)) x9 x10) = .ok (.ls ((List.range (M.length - 1)).map fun k => pD (k, k + 1))) (stU ns s x2 cs M d5 p d7 (.ow false (.ls A)) x9 x10) := by
    rw [lcE_ap, g1]
    simp only [Res.bind_ok, w, lp]
  generalize hQ : ((List.range (M.length - 1)).map fun k => pD (k, k + 1)) = Q at lc
  have okQ : ∀ d ∈ Q, okN 1 d := fun d hd => by
    rw [← hQ] at hd
    obtain ⟨k, _, rfl⟩ := List.mem_map.mp hd
    exact ok_pD _
  have okw : OkA (.tuple [.str (Str.ofString "no"), .tuple Q]) := okA_pair ((s5 "no" (by decide +kernel)).mono (by omega)) ((ok_tup okQ).mono (by omega)) (fun z e => by cases e)
  refine ⟨A ++ [.tuple [.str (Str.ofString "no"), .tuple Q]], by simp [-Option.bind_some, -Option.bind_none], fun d hd => ?_, ?_⟩
  · rcases List.mem_append.mp hd with z | z
    · exact okA d z
    · rw [List.mem_singleton.mp z]; exact okw
  have g : (eTup [(eC (.str (Str.ofString "no"))), (e1 tupD (.g (eFz (lcE (e1 rg1D (.g (e2 subD (.g (e1 lenD (.b 4))) (.g (eC (.int 1)))))) (tgN 15) yesT (eTup [(eV 15), (e2 addD (.b 15) (.g (eC (.int 1))))]) [15]))))]) (stU ns s x2 cs M d5 p d7 (.ow false (.ls A)) x9 x10) = .ok (.tuple [.str (Str.ofString "no"), .tuple Q]) (stU ns s x2 cs M d5 p d7 (.ow false (.ls A)) x9 x10) := by
    rw [eTup_ap, eL_cons, eC_ap, Res.bind_ok, eL_cons, e1_ap, opd_g, eFz_ap, lc]
    simp [-Option.bind_some, -Option.bind_none]
  rw [mutS_at (b0 := false) (b := false) (xs0 := A) (xs := A) (ys := A ++ [.tuple [.str (Str.ofString "no"), .tuple Q]]) (by simp [-Option.bind_some, -Option.bind_none, stU]) g (by simp [-Option.bind_some, -Option.bind_none, stU]) (by rw [app_ap, if_pos (by omega)])]
  simp [-Option.bind_some, -Option.bind_none, stU]
theorem turn_whole (ns : List Int) (s : S4) (x2 x3 x4 x5 x6 x7 x8 x9 x10 : Sl) (l3 : Loose x3) (l4 : Loose x4) (l5 : Loose x5) (l6 : Loose x6) (l7 : Loose x7) (l8 : Loose x8) (l9 : Loose x9) (l10 : Loose x10) :
    ∃ (s' : S4) (y3 y4 y5 y6 y7 y8 y9 y10 : Sl), (Loose y3 ∧ Loose y4 ∧ Loose y5 ∧ Loose y6 ∧ Loose y7 ∧ Loose y8 ∧ Loose y9 ∧ Loose y10) ∧ B_law_3 (stV ns s x2 x3 x4 x5 x6 x7 x8 x9 x10) = .ok .nx (stV ns s' x2 y3 y4 y5 y6 y7 y8 y9 y10) := by
  have fl : ∀ d, Loose (.fz d) := fun d => .inr (.inl ⟨d, rfl⟩)
  have ol : ∀ d, Loose (.ow false d) := fun d => .inr (.inr ⟨d, rfl⟩)
  obtain ⟨cs, s1, nd, c1, c2, hch, e3⟩ := signs_run ns s
  obtain ⟨M, s2, hM, hn, e4⟩ := machine_run ns s1 cs c2
  obtain ⟨L, v, t0, e5, e7, hJ, os, okv, okt, hT, hL, hdue⟩ := due_run hM hn c2 (by omega) nd hch ns
  have okp : OkA (.tuple [v, t0]) := okA_pair (okv.mono (by omega)) (okt.1.mono (by omega)) (fun z q => by have := okt.2 z q; omega)
  have b3 : setS 3 (callE (F__law_signs) [.s 1]) (stV ns s x2 x3 x4 x5 x6 x7 x8 x9 x10) = .ok .nx (stV ns s1 x2 (.fz (.str (S cs))) x4 x5 x6 x7 x8 x9 x10) := by
    have c := callS0 (ρ := stV ns s x2 x3 x4 x5 x6 x7 x8 x9 x10) (i := 1) (b := false) (o := obS ns s) (by simp [-Option.bind_some, -Option.bind_none, stV]) e3
    rw [setS_loose c (x := x3) (by simp [-Option.bind_some, -Option.bind_none, stV]) l3]
    simp [-Option.bind_some, -Option.bind_none, stV]
  have b4 : setS 4 (callE (F__law_machine) [.s 1, .g (eV 3)]) (stV ns s1 x2 (.fz (.str (S cs))) x4 x5 x6 x7 x8 x9 x10) = .ok .nx (stV ns s2 x2 (.fz (.str (S cs))) (.fz (mD M)) x5 x6 x7 x8 x9 x10) := by
    have c := callS1 (ρ := stV ns s1 x2 (.fz (.str (S cs))) x4 x5 x6 x7 x8 x9 x10) (i := 1) (ga := eV 3) (b := false) (o := obS ns s1) (by simp [-Option.bind_some, -Option.bind_none, stV]) (by simp [-Option.bind_some, -Option.bind_none, stV]) e4
    rw [setS_loose c (x := x4) (by simp [-Option.bind_some, -Option.bind_none, stV]) l4]
    simp [-Option.bind_some, -Option.bind_none, stV]
  have b5 : setS 5 (callE (F__law_meeting) [.g (eV 4), .g (eV 3)]) (stV ns s2 x2 (.fz (.str (S cs))) (.fz (mD M)) x5 x6 x7 x8 x9 x10) = .ok .nx (stV ns s2 x2 (.fz (.str (S cs))) (.fz (mD M)) (.fz (.list (L.map pD))) x6 x7 x8 x9 x10) := by
    have c := call2 (ρ := stV ns s2 x2 (.fz (.str (S cs))) (.fz (mD M)) x5 x6 x7 x8 x9 x10) (ga := eV 4) (gb := eV 3) (by simp [-Option.bind_some, -Option.bind_none, stV]) (by simp [-Option.bind_some, -Option.bind_none, stV]) e5
    rw [setS_loose c (x := x5) (by simp [-Option.bind_some, -Option.bind_none, stV]) l5]
    simp [-Option.bind_some, -Option.bind_none, stV]
  have b6 := due_step ns s2 x2 cs M L v t0 x6 x7 x8 x9 x10 l6 hdue
  have b7 : setS 7 (callE (F_reset) [.g (eV 4), .g (eV 3)]) (stV ns s2 x2 (.fz (.str (S cs))) (.fz (mD M)) (.fz (.list (L.map pD))) (.fz (.tuple [v, t0])) x7 x8 x9 x10) = .ok .nx (stU ns s2 x2 cs M (.list (L.map pD)) (.tuple [v, t0]) (.tuple [v, t0]) x8 x9 x10) := by
    have c := call2 (ρ := stV ns s2 x2 (.fz (.str (S cs))) (.fz (mD M)) (.fz (.list (L.map pD))) (.fz (.tuple [v, t0])) x7 x8 x9 x10) (ga := eV 4) (gb := eV 3) (by simp [-Option.bind_some, -Option.bind_none, stV]) (by simp [-Option.bind_some, -Option.bind_none, stV]) e7
    rw [setS_loose c (x := x7) (by simp [-Option.bind_some, -Option.bind_none, stV]) l7]
    simp [-Option.bind_some, -Option.bind_none, stV, stU]
  have b7c := told_step hM (by omega) c2 nd ns s2 x2 (.list (L.map pD)) (.tuple [v, t0]) x8 x9 x10 okp os hJ
  have b8 : setO 8 (eLst [(eC .none), (eSl slD (.b 6) none (some (eC (.int 1)))), (eFz (e1 lstO (.b 6))), (eTup [(eC (.str (Str.ofString "maybe"))), (e2 ixD (.b 6) (.g (eC (.int 1))))]), (eTup [(eC (.str (Str.ofString "yes"))), (e2 ixD (.b 6) (.g (eC (.int 1))))]), (eTup [(eC (.str (Str.ofString "no"))), (e2 ixD (.b 6) (.g (eC (.int 1))))]), (eTup [(eC (.str (Str.ofString "yes"))), (eC (.str (Str.ofString "")))]), (eTup [(eC (.str (Str.ofString "no"))), (eTup [])]), (eTup [(eC (.str (Str.ofString "no"))), (eTup [(eC (.int 5))])]), (eTup [(eC (.str (Str.ofString "no"))), (eTup [(eTup [(eC (.int 0)), (eC (.int 1)), (eC (.int 2))])])])]) (stU ns s2 x2 cs M (.list (L.map pD)) (.tuple [v, t0]) (.tuple [v, t0]) x8 x9 x10) = .ok .nx (stU ns s2 x2 cs M (.list (L.map pD)) (.tuple [v, t0]) (.tuple [v, t0]) (.ow false (.ls (asksA v t0))) x9 x10) := by
    rw [setO_loose (listA ns s2 x2 cs M (.list (L.map pD)) v t0 (.tuple [v, t0]) x8 x9 x10) (x := x8) (by simp [-Option.bind_some, -Option.bind_none, stU]) l8]
    exact Eq.trans rfl rfl
  have b9 : setO 8 (e2 catO (.b 8) (.g (eFz (eLst [(eTup [(eC (.str (Str.ofString "no"))), (eFz (eLst [(eTup [(eC (.int 0)), (eC (.int 1))])]))]), (eTup [(eC (.str (Str.ofString "no"))), (eTup [(eTup [(eC (.bool true)), (eC (.int 1))])])]), (eTup [(eC (.str (Str.ofString "yes"))), (eC .none)]), (eTup [(eC (.str (Str.ofString "no"))), (eTup [(eFz (eLst [(eC (.int 0)), (eC (.int 1))]))])]), (eTup [(eC (.str (Str.ofString "no"))), (eTup [(eTup [(eFz (eLst [(eC (.int 0))])), (eC (.int 1))])])]), (eTup [(eC (.str (Str.ofString "yes"))), (eC (.str (Str.ofString "q")))]), (eTup [(eC (.str (Str.ofString "yes"))), (eFz (eLst [(eC (.str (Str.ofString "a")))]))]), (eTup [(eC (.str (Str.ofString "no"))), (eTup [(eTup [(e1 negD (.g (eC (.int 1)))), (eC (.int 0))])])])])))) (stU ns s2 x2 cs M (.list (L.map pD)) (.tuple [v, t0]) (.tuple [v, t0]) (.ow false (.ls (asksA v t0))) x9 x10) = .ok .nx (stU ns s2 x2 cs M (.list (L.map pD)) (.tuple [v, t0]) (.tuple [v, t0]) (.ow false (.ls (asksA v t0 ++ asksB))) x9 x10) := by
    rw [setO_loose (listB ns s2 x2 cs M (.list (L.map pD)) (.tuple [v, t0]) (.tuple [v, t0]) (asksA v t0) (by show 10 ≤ 100; omega) x9 x10) (x := .ow false (.ls (asksA v t0))) (by simp [-Option.bind_some, -Option.bind_none, stU]) (ol _)]
    exact Eq.trans rfl rfl
  have lenAB : (asksA v t0 ++ asksB).length = 18 := rfl
  have okAB : ∀ d ∈ asksA v t0 ++ asksB, OkA d := fun d hd => by
    rcases List.mem_append.mp hd with z | z
    · exact okA1 okv okt d z
    · exact okB d z
  generalize asksA v t0 ++ asksB = AB at b9 lenAB okAB
  obtain ⟨B, s3, y9, hB, okB', ly9, e10⟩ := turns_run ns x2 cs M (.list (L.map pD)) v t0 (.tuple [v, t0]) x10 okv hT ((List.range 5).map I) s2 x9 AB (by rw [lenAB]; simp [-Option.bind_some, -Option.bind_none]) l9
  have hB : B.length = 5 := by rw [hB]; rfl
  have rg := rg1_n 5 (by omega)
  have b10 : forS (e1 rg1D (.g (eC (.int 5)))) (tgN 9) B_law_1 (stU ns s2 x2 cs M (.list (L.map pD)) (.tuple [v, t0]) (.tuple [v, t0]) (.ow false (.ls AB)) x9 x10) = .ok .nx (stU ns s3 x2 cs M (.list (L.map pD)) (.tuple [v, t0]) (.tuple [v, t0]) (.ow false (.ls (AB ++ B))) y9 x10) := by
    have rg' : rg1D (.int 5) = some ((List.range 5).map I) := rg
    rw [forS_ap, e1_ap, opd_g, eC_ap]
    simp only [Res.bind_ok, fin_d, obind, rg', ofO_some]
    exact e10
  have okABB : ∀ d ∈ AB ++ B, OkA d := fun d hd => by
    rcases List.mem_append.mp hd with z | z
    · exact okAB d z
    · exact okB' d z
  have lenABB : (AB ++ B).length = 23 := by rw [List.length_append]; omega
  generalize AB ++ B = C at b10 okABB lenABB
  obtain ⟨C1, s4, lC1, okC1, b11⟩ := row_step ns s3 x2 cs M (.list (L.map pD)) (.tuple [v, t0]) (.tuple [v, t0]) y9 x10 (by omega) c2 hch C (by omega) okABB
  obtain ⟨C2, lC2, okC2, b12⟩ := ways_step ns s4 x2 cs M (.list (L.map pD)) (.tuple [v, t0]) (.tuple [v, t0]) y9 x10 hM.1 (by omega) C1 (by omega) okC1
  obtain ⟨y10, ly10, e13⟩ := checks_run hM (by omega) c2 nd ns s4 x2 (.list (L.map pD)) (.tuple [v, t0]) (.tuple [v, t0]) (.fz (.list C2)) y9 C2 x10 okC2 l10
  have b13 : forS (eIt (eV 8)) (tgN 10) B_law_2 (stU ns s4 x2 cs M (.list (L.map pD)) (.tuple [v, t0]) (.tuple [v, t0]) (.ow false (.ls C2)) y9 x10) = .ok .nx (stU ns s4 x2 cs M (.list (L.map pD)) (.tuple [v, t0]) (.tuple [v, t0]) (.fz (.list C2)) y9 y10) := by
    have g : eIt (eV 8) (stU ns s4 x2 cs M (.list (L.map pD)) (.tuple [v, t0]) (.tuple [v, t0]) (.ow false (.ls C2)) y9 x10) = .ok C2 (stU ns s4 x2 cs M (.list (L.map pD)) (.tuple [v, t0]) (.tuple [v, t0]) (.fz (.list C2)) y9 x10) := by simp [-Option.bind_some, -Option.bind_none, stU]
    rw [forS_ap, g, Res.bind_ok, e13]
  refine ⟨s4, .fz (.str (S cs)), .fz (mD M), .fz (.list (L.map pD)), .fz (.tuple [v, t0]), .fz (.tuple [v, t0]), .fz (.list C2), y9, y10, ⟨fl _, fl _, fl _, fl _, fl _, fl _, ly9, ly10⟩, ?_⟩
  have sU : ∀ (s : S4) (d5 p d7 : D) (x8 x9 x10 : Sl), stU ns s x2 cs M d5 p d7 x8 x9 x10 = stV ns s x2 (.fz (.str (S cs))) (.fz (mD M)) (.fz d5) (.fz p) (.fz d7) x8 x9 x10 := fun _ _ _ _ _ _ _ => rfl
  rw [← sU]
  unfold B_law_3
  rw [seqS_ap, b3, Res.bind_ok]
  simp only []
  rw [seqS_ap, b4, Res.bind_ok]
  simp only []
  rw [seqS_ap, b5, Res.bind_ok]
  simp only []
  rw [seqS_ap, b6, Res.bind_ok]
  simp only []
  rw [seqS_ap, b7, Res.bind_ok]
  simp only []
  rw [seqS_ap, b7c, Res.bind_ok]
  simp only []
  rw [seqS_ap, b8, Res.bind_ok]
  simp only []
  rw [seqS_ap, b9, Res.bind_ok]
  simp only []
  rw [seqS_ap, b10, Res.bind_ok]
  simp only []
  rw [seqS_ap, b11, Res.bind_ok]
  simp only []
  rw [seqS_ap, b12, Res.bind_ok]
  simp only []
  exact b13
end K66
end
section
set_option autoImplicit false
set_option maxRecDepth 100000
set_option Elab.async false
set_option linter.all false
namespace K66
open PySem DL L2 SX
/-! ### a machine by a way to step -/
def mk2 (n : Nat) (f g : Nat → Nat) : Mach := (List.range n).map fun k => (decide (k = 0), [f k, g k])
theorem mk2_len (n : Nat) (f g : Nat → Nat) : (mk2 n f g).length = n := by unfold mk2; rw [List.length_map, List.length_range]
theorem mk2_ok {n : Nat} (hn : 0 < n) {f g : Nat → Nat} (hf : ∀ k, k < n → f k < n) (hg : ∀ k, k < n → g k < n) : Ok (mk2 n f g) 2 := by
  refine ⟨by rw [mk2_len]; exact hn, fun r hr => ?_⟩
  obtain ⟨k, hk, rfl⟩ := List.mem_map.mp hr
  have hk := List.mem_range.mp hk
  refine ⟨rfl, fun x hx => ?_⟩
  rw [mk2_len]
  simp only [List.mem_cons, List.not_mem_nil, or_false] at hx
  rcases hx with e | e <;> rw [e]
  · exact hf k hk
  · exact hg k hk
theorem mk2_0 {n p : Nat} (f g : Nat → Nat) (hp : p < n) : nxt (mk2 n f g) p 0 = f p := by
  unfold nxt mk2
  simp [-Option.bind_some, -Option.bind_none, List.getD_eq_getElem?_getD, hp]
theorem mk2_1 {n p : Nat} (f g : Nat → Nat) (hp : p < n) : nxt (mk2 n f g) p 1 = g p := by
  unfold nxt mk2
  simp [-Option.bind_some, -Option.bind_none, List.getD_eq_getElem?_getD, hp]
def ringM (n : Nat) : Mach := mk2 n (fun k => (k + 1) % n) (fun k => k)
def chainM (n : Nat) : Mach := mk2 n (fun k => min (n - 1) (k + 1)) (fun k => min (n - 1) (k + 1))
theorem ring_len (n : Nat) : (ringM n).length = n := mk2_len _ _ _
theorem chain_len (n : Nat) : (chainM n).length = n := mk2_len _ _ _
theorem ring_ok {n : Nat} (hn : 0 < n) : Ok (ringM n) 2 := mk2_ok hn (fun k _ => Nat.mod_lt _ hn) (fun k h => h)
theorem chain_ok {n : Nat} (hn : 0 < n) : Ok (chainM n) 2 := mk2_ok hn (fun k _ => by omega) (fun k h => by omega)
theorem chain_nxt {n p k : Nat} (hp : p < n) (hk : k < 2) : nxt (chainM n) p k = min (n - 1) (p + 1) := by
  match k, hk with
  | 0, _ => exact mk2_0 _ _ hp
  | 1, _ => exact mk2_1 _ _ hp
theorem ring_inj {n p q k : Nat} (hp : p < n) (hq : q < n) (hk : k < 2) (e : nxt (ringM n) p k = nxt (ringM n) q k) : p = q := by
  match k, hk with
  | 0, _ =>
    unfold ringM at e
    rw [mk2_0 _ _ hp, mk2_0 _ _ hq] at e
    have e : (p + 1) % n = (q + 1) % n := e
    by_cases a : p + 1 = n
    · by_cases b : q + 1 = n
      · omega
      · rw [a, Nat.mod_self, Nat.mod_eq_of_lt (by omega)] at e
        omega
    · rw [Nat.mod_eq_of_lt (by omega)] at e
      by_cases b : q + 1 = n
      · rw [b, Nat.mod_self] at e
        omega
      · rw [Nat.mod_eq_of_lt (by omega)] at e
        omega
  | 1, _ =>
    unfold ringM at e
    rw [mk2_1 _ _ hp, mk2_1 _ _ hq] at e
    exact e
theorem ring_nxt {n p k : Nat} (hp : p < n) (hk : k < 2) : nxt (ringM n) p k < n := by
  have := nxt_lt (ring_ok (n := n) (by omega)) (p := p) (k := k) (by rw [ring_len]; exact hp) hk
  rw [ring_len] at this
  exact this
theorem ring_never {n : Nat} {x : Nat × Nat} (h : Meet (ringM n) 2 x) : x.1 < n → x.2 < n → x.1 = x.2 := by
  induction h with
  | now hk e =>
    intro h1 h2
    refine ring_inj h1 h2 hk ?_
    unfold beh sort2 at e
    split at e
    · exact e
    · exact e.symm
  | step hk _ ih =>
    intro h1 h2
    have a := ring_nxt h1 hk
    have b := ring_nxt h2 hk
    refine ring_inj h1 h2 hk ?_
    unfold beh sort2 at ih
    split at ih
    · exact ih a b
    · exact (ih b a).symm
theorem chain_meet {n : Nat} : ∀ (d p q : Nat), p + d = n - 1 → p < q → q < n → Meet (chainM n) 2 (p, q)
  | 0, p, q, e, h1, h2 => by omega
  | d + 1, p, q, e, h1, h2 => by
    have ep := chain_nxt (n := n) (p := p) (k := 0) (by omega) (by omega)
    have eq := chain_nxt (n := n) (p := q) (k := 0) (by omega) (by omega)
    have mp : min (n - 1) (p + 1) = p + 1 := by omega
    rw [mp] at ep
    have be : beh (chainM n) (p, q) 0 = (p + 1, min (n - 1) (q + 1)) := by
      unfold beh sort2
      simp only [ep, eq]
      rw [if_pos (by omega)]
    by_cases l : p + 1 = min (n - 1) (q + 1)
    · exact .now (k := 0) (by omega) (by rw [be]; exact l)
    · refine .step (k := 0) (by omega) ?_
      rw [be]
      exact chain_meet d (p + 1) _ (by omega) (by omega) (by omega)
theorem ring_left {n : Nat} (hn : 2 ≤ n) {m : List (Nat × Nat)} (g : Good (ringM n) 2 m) : left (ringM n) m ≠ [] := by
  have : ((0, 1) : Nat × Nat) ∈ left (ringM n) m := left_mem.mpr ⟨mem_prs.mpr ⟨by show 0 < 1; omega, by rw [ring_len]; show 1 < n; omega⟩, fun h => by
    have := ring_never (g.snd _ h) (by show 0 < n; omega) (by show 1 < n; omega)
    exact absurd this (by decide)⟩
  intro e
  rw [e] at this
  cases this
theorem chain_left {n : Nat} (hn : 0 < n) {m : List (Nat × Nat)} (c : ∀ x ∈ prs (chainM n).length, x ∈ m ∨ trig (chainM n) 2 m x = false) : left (chainM n) m = [] := by
  refine List.eq_nil_iff_forall_not_mem.mpr fun x hx => ?_
  obtain ⟨h1, h2⟩ := left_mem.mp hx
  obtain ⟨a, b⟩ := mem_prs.mp h1
  rw [chain_len] at b
  exact h2 (closed_meet (chain_ok hn) c (chain_meet (n - 1 - x.1) x.1 x.2 (by omega) a b) h1)
/-! the chain's row -/
def tl (n j : Nat) : List Nat := List.range' j (n - j)
theorem mem_tl {n j x : Nat} : x ∈ tl n j ↔ j ≤ x ∧ x < n := by
  unfold tl
  rw [List.mem_range'_1]
  omega
theorem tl_lt (n j : Nat) : (tl n j).Pairwise (· < ·) := List.pairwise_lt_range'
theorem tl_len (n j : Nat) : (tl n j).length = n - j := List.length_range'
theorem chain_img {n j k : Nat} (hj : j + 1 < n) (hk : k < 2) : img (chainM n) k (tl n j) = tl n (j + 1) := by
  refine nlt_ext (nset_lt _) (tl_lt _ _) fun x => ?_
  unfold img
  rw [mem_nset, mem_tl, List.mem_map]
  constructor
  · rintro ⟨p, hp, rfl⟩
    obtain ⟨a, b⟩ := mem_tl.mp hp
    rw [chain_nxt b hk]
    omega
  · rintro ⟨a, b⟩
    refine ⟨x - 1, mem_tl.mpr ⟨by omega, by omega⟩, ?_⟩
    rw [chain_nxt (by omega) hk]
    omega
theorem chain_find {n : Nat} (hn : 0 < n) : ∀ (d j : Nat) (met : List (List Nat)) (w : List Nat), j + d = n - 1 → (∀ T ∈ met, n - j < T.length) → Find (chainM n) 2 (2 * d + 1) met [(tl n j, List.replicate j 0), (tl n j, w)] (List.replicate (n - 1) 0)
  | 0, j, met, w, e, hm => by
    have ej : j = n - 1 := by omega
    rw [← ej]
    exact .hit (by rw [tl_len]; omega)
  | d + 1, j, met, w, e, hm => by
    have ne1 : (tl n j).length ≠ 1 := by rw [tl_len]; omega
    have i0 := chain_img (n := n) (j := j) (k := 0) (by omega) (by omega)
    have i1 := chain_img (n := n) (j := j) (k := 1) (by omega) (by omega)
    refine .go ne1 (fun h => ?_) (.skip ne1 (List.mem_append.mpr (.inr (List.mem_singleton.mpr rfl))) ?_)
    · have := hm _ h
      rw [tl_len] at this
      omega
    · have o : outs (chainM n) 2 (tl n j) (List.replicate j 0) = [(tl n (j + 1), List.replicate (j + 1) 0), (tl n (j + 1), List.replicate j 0 ++ [1])] := by
        show [(img (chainM n) 0 (tl n j), List.replicate j 0 ++ [0]), (img (chainM n) 1 (tl n j), List.replicate j 0 ++ [1])] = _
        rw [i0, i1, ← List.replicate_succ']
      show Find (chainM n) 2 (2 * d + 1) (met ++ [tl n j]) (outs (chainM n) 2 (tl n j) (List.replicate j 0)) _
      rw [o]
      refine chain_find hn d (j + 1) _ _ (by omega) fun T hT => ?_
      rcases List.mem_append.mp hT with z | z
      · have := hm T z
        omega
      · rw [List.mem_singleton.mp z, tl_len]
        omega
theorem range_tl (n : Nat) : List.range n = tl n 0 := by
  unfold tl
  rw [List.range_eq_range']
  rfl
theorem chain_start {n : Nat} (hn : 2 ≤ n) : Find (chainM n) 2 (2 * n + 5) [] [(List.range (chainM n).length, [])] (List.replicate (n - 1) 0) := by
  rw [chain_len, range_tl]
  have i0 := chain_img (n := n) (j := 0) (k := 0) (by omega) (by omega)
  have i1 := chain_img (n := n) (j := 0) (k := 1) (by omega) (by omega)
  refine .go (h := 2 * n + 4) (by rw [tl_len]; omega) (fun h => by cases h) ?_
  show Find (chainM n) 2 (2 * n + 4) [tl n 0] [(img (chainM n) 0 (tl n 0), [] ++ [0]), (img (chainM n) 1 (tl n 0), [] ++ [1])] _
  rw [i0, i1]
  have f := chain_find (n := n) (by omega) (n - 2) 1 [tl n 0] [1] (by omega) (fun T hT => by rw [List.mem_singleton.mp hT, tl_len]; omega)
  have mono : ∀ {h h' : Nat} {met : List (List Nat)} {Q : Que} {r : List Nat}, Find (chainM n) 2 h met Q r → h ≤ h' → Find (chainM n) 2 h' met Q r := by
    intro h h' met Q r F
    induction F generalizing h' with
    | hit a => intro l; obtain ⟨k, rfl⟩ : ∃ k, h' = k + 1 := ⟨h' - 1, by omega⟩; exact .hit a
    | skip a b _ ih => intro l; obtain ⟨k, rfl⟩ : ∃ k, h' = k + 1 := ⟨h' - 1, by omega⟩; exact .skip a b (ih (by omega))
    | go a b _ ih => intro l; obtain ⟨k, rfl⟩ : ∃ k, h' = k + 1 := ⟨h' - 1, by omega⟩; exact .go a b (ih (by omega))
  exact mono f (by omega)
theorem chain_imgs {n : Nat} : ∀ j, j < n → imgs (chainM n) (List.replicate j 0) = tl n j
  | 0, h => by
    show List.range (chainM n).length = _
    rw [chain_len, range_tl]
  | j + 1, h => by
    rw [List.replicate_succ', imgs_snoc, chain_imgs j (by omega), chain_img h (by omega)]
/-! what the program says of the two -/
def AB : List Nat := [97, 98]
theorem ab : Str.ofString "ab" = S AB := by decide +kernel
theorem ring_reset {n : Nat} (h1 : 2 ≤ n) (h2 : n ≤ 20) : ∃ L, F_reset [.fz (mD (ringM n)), .fz (.str (S AB))] = .ok (.tuple [.str NO, .tuple L]) [.un, .un] := by
  obtain ⟨m, g, c, e⟩ := never_run (M := ringM n) (cs := AB) (ring_ok (by omega)) (by decide) (by rw [ring_len]; exact h2)
  exact ⟨_, reset_no (fun q => ring_left h1 g (List.map_eq_nil_iff.mp q)) e⟩
theorem chain_hf {n : Nat} (h1 : 2 ≤ n) (h2 : n ≤ 20) : F_never_meeting [.fz (mD (chainM n)), .fz (.str (S AB))] = .ok (.tuple []) [.un, .un] := by
  obtain ⟨m, g, c, e⟩ := never_run (M := chainM n) (cs := AB) (chain_ok (by omega)) (by decide) (by rw [chain_len]; exact h2)
  rw [chain_left (by omega) c] at e
  exact e
theorem wd_a (j : Nat) : wd AB (List.replicate j 0) = List.replicate j 97 := by
  unfold wd
  rw [List.map_replicate]
  rfl
theorem chain_reset {n : Nat} (h1 : 2 ≤ n) (h2 : n ≤ 16) : F_reset [.fz (mD (chainM n)), .fz (.str (S AB))] = .ok (.tuple [.str YES, .str (S (List.replicate (n - 1) 97))]) [.un, .un] := by
  have a := least_run (M := chainM n) (cs := AB) (chain_ok (by omega)) (by rw [chain_len]; exact h2) (by decide) (chain_start h1) (by omega)
  rw [wd_a] at a
  exact reset_yes (chain_hf h1 (by omega)) a
theorem chain_wide {n : Nat} (h1 : 16 < n) (h2 : n ≤ 20) : F_reset [.fz (mD (chainM n)), .fz (.str (S AB))] = .er "TooWide" [.un, .un] := reset_wide (chain_hf (by omega) h2) (least_wide (by rw [chain_len]; exact h1))
theorem chain_okA (n : Nat) (h : n ≤ 20) : OkA (.tuple [.str YES, .str (S (List.replicate (n - 1) 97))]) := okA_pair (ok_YES.mono (by omega)) ((ok_str fun c hc => by
  have hc : c ∈ List.replicate (n - 1) 97 := hc
  have := (List.mem_replicate.mp hc).2
  omega).mono (by omega)) (fun z e => by
  cases e
  show (List.replicate (n - 1) 97).length ≤ _
  rw [List.length_replicate]
  omega)
theorem chain_judge {n : Nat} (h1 : 2 ≤ n) (h2 : n ≤ 20) : F_judge_reset [.fz (mD (chainM n)), .fz (.str (S AB)), .fz (.tuple [.str YES, .str (S (List.replicate (n - 1) 97))])] = .ok (.bool true) [.un, .un, .un] := by
  have ok := chain_okA n h2
  have j := judge_run (M := chainM n) (cs := AB) (chain_ok (by omega)) (by rw [chain_len]; exact h2) (by decide) (by decide) _ ok.1 ok.2
  have y := yes_right (M := chainM n) (cs := AB) (by decide) (List.replicate (n - 1) 0) (by rw [chain_imgs _ (by omega), tl_len]; omega) (fun k hk => by rw [(List.mem_replicate.mp hk).2]; decide)
  rw [wd_a] at y
  rw [y] at j
  exact j
theorem smul_at (n : Int) (w : List Nat) (h : (Str.ofString "a").length ≤ 1000 ∧ 0 ≤ n ∧ n ≤ 1000) (e : Txt.mul (Str.ofString "a") n = S w) : smulD (.str (Str.ofString "a")) (.int n) = some (.str (S w)) := by
  show (if (Str.ofString "a").length ≤ 1000 ∧ 0 ≤ n ∧ n ≤ 1000 then some (PyData.str (Txt.mul (Str.ofString "a") n)) else none) = _
  rw [if_pos h, e]
theorem smul_a {n : Nat} (h1 : 15 ≤ n) (h2 : n ≤ 18) : smulD (.str (Str.ofString "a")) (.int ((n : Int) - 1)) = some (.str (S (List.replicate (n - 1) 97))) := by
  have : n = 15 ∨ n = 16 ∨ n = 17 ∨ n = 18 := by omega
  rcases this with e | e | e | e <;> (subst e; exact smul_at _ _ (by decide +kernel) (by decide +kernel))
end K66
end
section
set_option autoImplicit false
set_option maxRecDepth 100000
set_option Elab.async false
set_option linter.all false
namespace K66
open PySem DL L2 SX
/-! ### the law, whole -/
def stLaw (ns : List Int) (s : S4) (x2 x3 x4 x5 x6 x7 x8 x9 x10 x11 x12 x13 : Sl) : Rho := [.un, .ow false (obS ns s), x2, x3, x4, x5, x6, x7, x8, x9, x10, x11, x12, x13, .un, .un]
theorem turns_law (ns : List Int) : ∀ (ds : List D) (s : S4) (x2 x3 x4 x5 x6 x7 x8 x9 x10 : Sl), Loose x2 → Loose x3 → Loose x4 → Loose x5 → Loose x6 → Loose x7 → Loose x8 → Loose x9 → Loose x10 →
    ∃ (s' : S4) (y2 y3 y4 y5 y6 y7 y8 y9 y10 : Sl), loopS (tgN 2) B_law_3 ds (stV ns s x2 x3 x4 x5 x6 x7 x8 x9 x10) = .ok .nx (stV ns s' y2 y3 y4 y5 y6 y7 y8 y9 y10) ∧ Loose y9
  | [], s, x2, x3, x4, x5, x6, x7, x8, x9, x10, _, _, _, _, _, _, _, l9, _ => ⟨s, x2, x3, x4, x5, x6, x7, x8, x9, x10, Eq.trans rfl rfl, l9⟩
  | d :: ds, s, x2, x3, x4, x5, x6, x7, x8, x9, x10, l2, l3, l4, l5, l6, l7, l8, l9, l10 => by
    obtain ⟨s1, y3, y4, y5, y6, y7, y8, y9, y10, ⟨m3, m4, m5, m6, m7, m8, m9, m10⟩, e1'⟩ := turn_whole ns s (.fz d) x3 x4 x5 x6 x7 x8 x9 x10 l3 l4 l5 l6 l7 l8 l9 l10
    obtain ⟨s2, z2, z3, z4, z5, z6, z7, z8, z9, z10, e, l⟩ := turns_law ns ds s1 (.fz d) y3 y4 y5 y6 y7 y8 y9 y10 (.inr (.inl ⟨_, rfl⟩)) m3 m4 m5 m6 m7 m8 m9 m10
    refine ⟨s2, z2, z3, z4, z5, z6, z7, z8, z9, z10, ?_, l⟩
    have t : (tgN 2).f d (stV ns s x2 x3 x4 x5 x6 x7 x8 x9 x10) = some (stV ns s (.fz d) x3 x4 x5 x6 x7 x8 x9 x10) := by
      show sto _ 2 _ = _
      rw [sto_loose (x := x2) (Eq.trans rfl rfl) l2]
      exact Eq.trans rfl rfl
    unfold loopS
    rw [t]
    simp only [e1', Res.bind_ok]
    exact e
theorem many_run (ns : List Int) (s : S4) (x2 x3 x4 x5 x6 x7 x8 x9 x10 : Sl) : ∃ (n : Nat) (s' : S4), 15 ≤ n ∧ n ≤ 18 ∧ setS 11 (e2 addD (.g (eC (.int 15))) (.g (callE (F__law_next) [.s 1, .g (eC (.int 4))]))) (stV ns s x2 x3 x4 x5 x6 x7 x8 x9 x10) = .ok .nx (stLaw ns s' x2 x3 x4 x5 x6 x7 x8 x9 x10 (.fz (.int (n : Int))) .un .un) := by
  obtain ⟨v, s', v1, v2, e⟩ := next_run ns s 4 (by omega) (by omega)
  obtain ⟨p, rfl⟩ := Int.eq_ofNat_of_zero_le v1
  refine ⟨15 + p, s', by omega, by omega, ?_⟩
  have c := callS1 (ρ := stV ns s x2 x3 x4 x5 x6 x7 x8 x9 x10) (i := 1) (ga := eC (.int 4)) (b := false) (o := obS ns s) (by simp [-Option.bind_some, -Option.bind_none, stV]) (by simp [-Option.bind_some, -Option.bind_none, stV]) e
  have g : (e2 addD (.g (eC (.int 15))) (.g (callE (F__law_next) [.s 1, .g (eC (.int 4))]))) (stV ns s x2 x3 x4 x5 x6 x7 x8 x9 x10) = .ok (.int ((15 + p : Nat) : Int)) (stV ns s' x2 x3 x4 x5 x6 x7 x8 x9 x10) := by
    rw [e2_ap, opd_g, eC_ap, Res.bind_ok, Res.bind_ok, opd_g, c]
    simp [-Option.bind_some, -Option.bind_none, stV]
  rw [setS_loose g (x := .un) (by simp [-Option.bind_some, -Option.bind_none, stV]) (.inl rfl)]
  exact Eq.trans rfl rfl
theorem ne0 (k : Nat) : decide ((k : Int) = 0) = decide (k = 0) := by
  by_cases h : k = 0
  · subst h; rfl
  · rw [decide_eq_false h, decide_eq_false (by omega)]
theorem lcM (ns : List Int) (s : S4) (x2 x3 x4 x5 x6 x7 x8 x9 x10 x12 : Sl) (n : Nat) (hn : n ≤ 20) (f g : Nat → Nat) (te : Ev D)
    (h : ∀ k, k < n → te (stLaw ns s x2 x3 x4 x5 x6 x7 x8 (.fz (I k)) x10 (.fz (.int (n : Int))) x12 .un) = .ok (.tuple [.bool (decide (k = 0)), .tuple [I (f k), I (g k)]]) (stLaw ns s x2 x3 x4 x5 x6 x7 x8 (.fz (I k)) x10 (.fz (.int (n : Int))) x12 .un)) :
    (e1 tupD (.g (eFz (lcE (e1 rg1D (.b 11)) (tgN 9) yesT te [9])))) (stLaw ns s x2 x3 x4 x5 x6 x7 x8 x9 x10 (.fz (.int (n : Int))) x12 .un) = .ok (mD (mk2 n f g)) (stLaw ns s x2 x3 x4 x5 x6 x7 x8 .un x10 (.fz (.int (n : Int))) x12 .un) := by
  have rg := rg1_n n (by omega)
  have g1 : e1 rg1D (.b 11) (stLaw ns s x2 x3 x4 x5 x6 x7 x8 x9 x10 (.fz (.int (n : Int))) x12 .un) = .ok ((List.range n).map I) (stLaw ns s x2 x3 x4 x5 x6 x7 x8 x9 x10 (.fz (.int (n : Int))) x12 .un) := by
    simp [-Option.bind_some, -Option.bind_none, stLaw, rg]
  have w : wipeR (stLaw ns s x2 x3 x4 x5 x6 x7 x8 x9 x10 (.fz (.int (n : Int))) x12 .un) [9] = stLaw ns s x2 x3 x4 x5 x6 x7 x8 .un x10 (.fz (.int (n : Int))) x12 .un := Eq.trans rfl rfl
  have lp : lcLoop (tgN 9) yesT te [9] ((List.range n).map I) 0 (stLaw ns s x2 x3 x4 x5 x6 x7 x8 .un x10 (.fz (.int (n : Int))) x12 .un) = .ok ((List.range n).map fun k => rowD (decide (k = 0), [f k, g k])) (stLaw ns s x2 x3 x4 x5 x6 x7 x8 .un x10 (.fz (.int (n : Int))) x12 .un) := by
    refine lc_map I (fun k => rowD (decide (k = 0), [f k, g k])) _ 0 (by simp [-Option.bind_some, -Option.bind_none]; omega) fun k hk => ?_
    have hk := List.mem_range.mp hk
    exact ⟨stLaw ns s x2 x3 x4 x5 x6 x7 x8 (.fz (I k)) x10 (.fz (.int (n : Int))) x12 .un, stLaw ns s x2 x3 x4 x5 x6 x7 x8 (.fz (I k)) x10 (.fz (.int (n : Int))) x12 .un, Eq.trans rfl rfl, h k hk, Eq.trans rfl rfl⟩
  have fin : (List.range n).map (fun k => rowD (decide (k = 0), [f k, g k])) = (mk2 n f g).map rowD := by
    unfold mk2
    rw [List.map_map]
    rfl
  rw [fin] at lp
  rw [e1_ap, opd_g, eFz_ap, lcE_ap, g1]
  simp only [Res.bind_ok, w, lp, fin_d, obind, tupD]
  exact Eq.trans rfl rfl
theorem chain_run (ns : List Int) (s : S4) (x2 x3 x4 x5 x6 x7 x8 x9 x10 : Sl) (n : Nat) (h1 : 1 ≤ n) (hn : n ≤ 20) : setS 12 (e1 tupD (.g (eFz (lcE (e1 rg1D (.b 11)) (tgN 9) yesT (eTup [(e2 eqD (.b 9) (.g (eC (.int 0)))), (eTup [(e2 minD (.g (e2 subD (.b 11) (.g (eC (.int 1))))) (.g (e2 addD (.b 9) (.g (eC (.int 1)))))), (e2 minD (.g (e2 subD (.b 11) (.g (eC (.int 1))))) (.g (e2 addD (.b 9) (.g (eC (.int 1))))))])]) [9])))) (stLaw ns s x2 x3 x4 x5 x6 x7 x8 x9 x10 (.fz (.int (n : Int))) .un .un) = .ok .nx (stLaw ns s x2 x3 x4 x5 x6 x7 x8 .un x10 (.fz (.int (n : Int))) (.fz (mD (chainM n))) .un) := by
  have g := lcM ns s x2 x3 x4 x5 x6 x7 x8 x9 x10 .un n hn (fun k => min (n - 1) (k + 1)) (fun k => min (n - 1) (k + 1)) (eTup [(e2 eqD (.b 9) (.g (eC (.int 0)))), (eTup [(e2 minD (.g (e2 subD (.b 11) (.g (eC (.int 1))))) (.g (e2 addD (.b 9) (.g (eC (.int 1)))))), (e2 minD (.g (e2 subD (.b 11) (.g (eC (.int 1))))) (.g (e2 addD (.b 9) (.g (eC (.int 1))))))])]) (fun k hk => by
    have mi : (if (k : Int) + 1 < (n : Int) - 1 then (k : Int) + 1 else (n : Int) - 1) = ((min (n - 1) (k + 1) : Nat) : Int) := by
      split <;> omega
    have n0 := ne0 k
    simp only [stLaw, I, eTup_ap, eL_cons, eL_nil, e2_ap, e1_ap, opd_b, opd_g, eC_ap, Res.bind_ok, fin_v, fin_d, pk_ap, List.getElem?_cons_succ, List.getElem?_cons_zero, obind, pkf, eq_int, sub_int, add_int, min_int, ofO_some, mi, n0]
    exact Eq.trans rfl rfl)
  rw [setS_loose g (x := .un) (by simp [-Option.bind_some, -Option.bind_none, stLaw]) (.inl rfl)]
  exact Eq.trans rfl rfl
theorem ring_run (ns : List Int) (s : S4) (x2 x3 x4 x5 x6 x7 x8 x9 x10 x12 : Sl) (n : Nat) (h1 : 1 ≤ n) (hn : n ≤ 20) : setS 13 (e1 tupD (.g (eFz (lcE (e1 rg1D (.b 11)) (tgN 9) yesT (eTup [(e2 eqD (.b 9) (.g (eC (.int 0)))), (eTup [(e2 modD (.g (e1 intD (.g (e2 addD (.b 9) (.g (eC (.int 1))))))) (.b 11)), (eV 9)])]) [9])))) (stLaw ns s x2 x3 x4 x5 x6 x7 x8 x9 x10 (.fz (.int (n : Int))) x12 .un) = .ok .nx (stLaw ns s x2 x3 x4 x5 x6 x7 x8 .un x10 (.fz (.int (n : Int))) x12 (.fz (mD (ringM n)))) := by
  have g := lcM ns s x2 x3 x4 x5 x6 x7 x8 x9 x10 x12 n hn (fun k => (k + 1) % n) (fun k => k) (eTup [(e2 eqD (.b 9) (.g (eC (.int 0)))), (eTup [(e2 modD (.g (e1 intD (.g (e2 addD (.b 9) (.g (eC (.int 1))))))) (.b 11)), (eV 9)])]) (fun k hk => by
    have md : modD (.int ((k : Int) + 1)) (.int (n : Int)) = some (I ((k + 1) % n)) := by
      have n1 : ¬ ((n : Int) = 0) := by omega
      have n2 : (n : Int).natAbs < 1073741824 := by omega
      have fm : ((k : Int) + 1).fmod (n : Int) = (((k + 1) % n : Nat) : Int) := by
        rw [Int.fmod_eq_emod_of_nonneg _ (by omega)]
        norm_cast
      have n3 : ¬ (n = 0) := by omega
      simp [-Option.bind_some, -Option.bind_none, modD, n1, n2, n3, fm, I]
    have n0 := ne0 k
    simp [-Option.bind_some, -Option.bind_none, stLaw, I, eq_int, n0] at md ⊢
    simp [-Option.bind_some, -Option.bind_none, md])
  rw [setS_loose g (x := .un) (by simp [-Option.bind_some, -Option.bind_none, stLaw]) (.inl rfl)]
  exact Eq.trans rfl rfl
theorem yes_v (ns : List Int) (s : S4) (x2 x3 x4 x5 x6 x7 x8 x9 x10 x12 x13 : Sl) (n : Nat) (h1 : 15 ≤ n) (h2 : n ≤ 18) : (eTup [(eC (.str (Str.ofString "yes"))), (e2 smulD (.g (eC (.str (Str.ofString "a")))) (.g (e2 subD (.b 11) (.g (eC (.int 1))))))]) (stLaw ns s x2 x3 x4 x5 x6 x7 x8 x9 x10 (.fz (.int (n : Int))) x12 x13) = .ok (.tuple [.str YES, .str (S (List.replicate (n - 1) 97))]) (stLaw ns s x2 x3 x4 x5 x6 x7 x8 x9 x10 (.fz (.int (n : Int))) x12 x13) := by
  have sm := smul_a h1 h2
  simp [-Option.bind_some, -Option.bind_none, stLaw, sm, YES]
theorem cond_run (ns : List Int) (s : S4) (x2 x3 x4 x5 x6 x7 x8 x9 x10 : Sl) (n : Nat) (h1 : 15 ≤ n) (h2 : n ≤ 18) : ifS (eOr (eT (e2 neD (.g (e2 ixD (.g (callE (F_reset) [.g (eV 13), .g (eC (.str (Str.ofString "ab")))])) (.g (eC (.int 0))))) (.g (eC (.str (Str.ofString "no")))))) (eT (e2 notBD (.g (callE (F_judge_reset) [.g (eV 12), .g (eC (.str (Str.ofString "ab"))), .g (eTup [(eC (.str (Str.ofString "yes"))), (e2 smulD (.g (eC (.str (Str.ofString "a")))) (.g (e2 subD (.b 11) (.g (eC (.int 1))))))])])) (.g (eC (.bool true)))))) (rtS (eC (.bool false))) nxS (stLaw ns s x2 x3 x4 x5 x6 x7 x8 x9 x10 (.fz (.int (n : Int))) (.fz (mD (chainM n))) (.fz (mD (ringM n)))) = .ok .nx (stLaw ns s x2 x3 x4 x5 x6 x7 x8 x9 x10 (.fz (.int (n : Int))) (.fz (mD (chainM n))) (.fz (mD (ringM n)))) := by
  obtain ⟨L, e1'⟩ := ring_reset (n := n) (by omega) (by omega)
  generalize hR : stLaw ns s x2 x3 x4 x5 x6 x7 x8 x9 x10 (.fz (.int (n : Int))) (.fz (mD (chainM n))) (.fz (mD (ringM n))) = R
  have v13 : eV 13 R = .ok (mD (ringM n)) R := by rw [← hR]; simp [-Option.bind_some, -Option.bind_none, stLaw]
  have v12 : eV 12 R = .ok (mD (chainM n)) R := by rw [← hR]; simp [-Option.bind_some, -Option.bind_none, stLaw]
  have vab : eC (.str (Str.ofString "ab")) R = .ok (.str (S AB)) R := by rw [ab]; exact eC_ap _ _
  have yv := yes_v ns s x2 x3 x4 x5 x6 x7 x8 x9 x10 (.fz (mD (chainM n))) (.fz (mD (ringM n))) n h1 h2
  rw [hR] at yv
  have c1 := call2 v13 vab e1'
  have c2 := call3 v12 vab yv (chain_judge (n := n) (by omega) (by omega))
  have ix : ixD (.tuple [.str NO, .tuple L]) (.int 0) = some (.str NO) := rfl
  have nn : neD (.str NO) (.str (Str.ofString "no")) = some (.bool false) := by
    show neD (.str NO) (.str NO) = _
    rw [neD_ok (ok_NO.mono (by omega)) (ok_NO.mono (by omega)), eqv_refl _ ok_NO.1]
    rfl
  have nb : notBD (.bool true) (.bool true) = some (.bool false) := rfl
  have cA : (eT (e2 neD (.g (e2 ixD (.g (callE (F_reset) [.g (eV 13), .g (eC (.str (Str.ofString "ab")))])) (.g (eC (.int 0))))) (.g (eC (.str (Str.ofString "no")))))) R = .ok false R := by
    rw [eT_ap, e2_ap, opd_g, e2_ap, opd_g, c1]
    simp only [Res.bind_ok, opd_g, eC_ap, fin_d, obind, ix, ofO_some, nn]
  have cB : (eT (e2 notBD (.g (callE (F_judge_reset) [.g (eV 12), .g (eC (.str (Str.ofString "ab"))), .g (eTup [(eC (.str (Str.ofString "yes"))), (e2 smulD (.g (eC (.str (Str.ofString "a")))) (.g (e2 subD (.b 11) (.g (eC (.int 1))))))])])) (.g (eC (.bool true))))) R = .ok false R := by
    rw [eT_ap, e2_ap, opd_g, c2]
    simp only [Res.bind_ok, opd_g, eC_ap, fin_d, obind, nb, ofO_some]
  rw [ifS_ap, eOr_ap, cA]
  simp only [Res.bind_ok, Bool.false_eq_true, if_false, cB, nxS_ap]
theorem tryAs_ok {m : String → Option Bool} {i : Nat} {gb gh : Ev Fl} {ρ r : Rho} {f : Fl} (h : gb ρ = .ok f r) : tryAsS m i gb gh ρ = .ok f r := by
  unfold tryAsS
  rw [h]
theorem tryAs_er {m : String → Option Bool} {i : Nat} {gb gh : Ev Fl} {ρ r r1 r2 : Rho} {f : Fl} {c : String} (h : gb ρ = .er c r) (hm : m c = some true) (hs : sto r i .un = some r1) (hh : gh r1 = .ok f r2) (hu : isUn r2[i]? = true) : tryAsS m i gb gh ρ = .ok f r2 := by
  unfold tryAsS
  rw [h]
  simp only [hm, hs, hh, hu, if_true]
theorem er_bind {α β : Type} (c : String) (r : Rho) (f : α → Rho → Res β) : (Res.er c r : Res α).bind f = .er c r := Eq.trans rfl rfl
theorem last_run (ns : List Int) (s : S4) (x2 x3 x4 x5 x6 x7 x8 x9 x10 : Sl) (n : Nat) (h1 : 15 ≤ n) (h2 : n ≤ 18) : ∃ r, (tryAsS m_TooWide 14 (rtS (eAndV (e2 eqD (.g (callE (F_reset) [.g (eV 12), .g (eC (.str (Str.ofString "ab")))])) (.g (eTup [(eC (.str (Str.ofString "yes"))), (e2 smulD (.g (eC (.str (Str.ofString "a")))) (.g (e2 subD (.b 11) (.g (eC (.int 1))))))]))) (e2 (cmpI leI) (.b 11) (.g (eC (.int 16))))))
    (rtS (eAndV (e2 (cmpI gtI) (.b 11) (.g (eC (.int 16)))) (eC (.bool true))))) (stLaw ns s x2 x3 x4 x5 x6 x7 x8 x9 x10 (.fz (.int (n : Int))) (.fz (mD (chainM n))) (.fz (mD (ringM n)))) = .ok (.rt (.bool true)) r := by
  refine ⟨stLaw ns s x2 x3 x4 x5 x6 x7 x8 x9 x10 (.fz (.int (n : Int))) (.fz (mD (chainM n))) (.fz (mD (ringM n))), ?_⟩
  have b11 : pk (stLaw ns s x2 x3 x4 x5 x6 x7 x8 x9 x10 (.fz (.int (n : Int))) (.fz (mD (chainM n))) (.fz (mD (ringM n)))) 11 = some (.int (n : Int)) := Eq.trans rfl rfl
  have u14 : sto (stLaw ns s x2 x3 x4 x5 x6 x7 x8 x9 x10 (.fz (.int (n : Int))) (.fz (mD (chainM n))) (.fz (mD (ringM n)))) 14 .un = some (stLaw ns s x2 x3 x4 x5 x6 x7 x8 x9 x10 (.fz (.int (n : Int))) (.fz (mD (chainM n))) (.fz (mD (ringM n)))) := by
    rw [sto_loose (x := .un) (Eq.trans rfl rfl) (.inl rfl)]
    exact Eq.trans rfl rfl
  have i14 : isUn (stLaw ns s x2 x3 x4 x5 x6 x7 x8 x9 x10 (.fz (.int (n : Int))) (.fz (mD (chainM n))) (.fz (mD (ringM n))))[14]? = true := Eq.trans rfl rfl
  have v12 : eV 12 (stLaw ns s x2 x3 x4 x5 x6 x7 x8 x9 x10 (.fz (.int (n : Int))) (.fz (mD (chainM n))) (.fz (mD (ringM n)))) = .ok (mD (chainM n)) (stLaw ns s x2 x3 x4 x5 x6 x7 x8 x9 x10 (.fz (.int (n : Int))) (.fz (mD (chainM n))) (.fz (mD (ringM n)))) := by simp [-Option.bind_some, -Option.bind_none, stLaw]
  have yv := yes_v ns s x2 x3 x4 x5 x6 x7 x8 x9 x10 (.fz (mD (chainM n))) (.fz (mD (ringM n))) n h1 h2
  generalize stLaw ns s x2 x3 x4 x5 x6 x7 x8 x9 x10 (.fz (.int (n : Int))) (.fz (mD (chainM n))) (.fz (mD (ringM n))) = R at b11 u14 i14 v12 yv ⊢
  have vab : eC (.str (Str.ofString "ab")) R = .ok (.str (S AB)) R := by rw [ab]; exact eC_ap _ _
  by_cases w : n ≤ 16
  · have c1 := call2 v12 vab (chain_reset (n := n) (by omega) w)
    have ok := (chain_okA n (by omega)).1
    have q := eqD_ok (ok.mono (by omega : 50 ≤ 64)) (ok.mono (by omega : 50 ≤ 64))
    rw [eqv_refl _ ok.1] at q
    have le : leI (n : Int) 16 = true := decide_eq_true (by omega)
    have t1 : (e2 eqD (.g (callE (F_reset) [.g (eV 12), .g (eC (.str (Str.ofString "ab")))])) (.g (eTup [(eC (.str (Str.ofString "yes"))), (e2 smulD (.g (eC (.str (Str.ofString "a")))) (.g (e2 subD (.b 11) (.g (eC (.int 1))))))]))) R = .ok (.bool true) R := by
      rw [e2_ap, opd_g, c1]
      simp only [Res.bind_ok, opd_g, yv, fin_d, obind, q, ofO_some]
    have t2 : (rtS (eAndV (e2 eqD (.g (callE (F_reset) [.g (eV 12), .g (eC (.str (Str.ofString "ab")))])) (.g (eTup [(eC (.str (Str.ofString "yes"))), (e2 smulD (.g (eC (.str (Str.ofString "a")))) (.g (e2 subD (.b 11) (.g (eC (.int 1))))))]))) (e2 (cmpI leI) (.b 11) (.g (eC (.int 16)))))) R = .ok (.rt (.bool true)) R := by
      rw [rtS_ap, eAndV_ap, t1]
      simp only [Res.bind_ok, if_true, e2_ap, opd_b, opd_g, eC_ap, b11, ofO_some, fin_v, fin_d, obind, cmp_int, le]
    exact tryAs_ok t2
  · have c1 := call2e v12 vab (chain_wide (n := n) (by omega) (by omega))
    have gt : gtI (n : Int) 16 = true := decide_eq_true (by omega)
    have t2 : (rtS (eAndV (e2 eqD (.g (callE (F_reset) [.g (eV 12), .g (eC (.str (Str.ofString "ab")))])) (.g (eTup [(eC (.str (Str.ofString "yes"))), (e2 smulD (.g (eC (.str (Str.ofString "a")))) (.g (e2 subD (.b 11) (.g (eC (.int 1))))))]))) (e2 (cmpI leI) (.b 11) (.g (eC (.int 16)))))) R = .er "TooWide" R := by
      rw [rtS_ap, eAndV_ap, e2_ap, opd_g, c1]
      simp only [er_bind]
    have mt : m_TooWide "TooWide" = some true := by simp [-Option.bind_some, -Option.bind_none, m_TooWide]
    have t3 : (rtS (eAndV (e2 (cmpI gtI) (.b 11) (.g (eC (.int 16)))) (eC (.bool true)))) R = .ok (.rt (.bool true)) R := by
      simp only [rtS_ap, eAndV_ap, Res.bind_ok, if_true, e2_ap, opd_b, opd_g, eC_ap, b11, ofO_some, fin_v, fin_d, obind, cmp_int, gt]
    exact tryAs_er t2 mt u14 t3 i14
theorem law_run (ns : List Int) : ∃ r, g_law ns (List.replicate 16 .un) = .ok (.rt (.bool true)) r := by
  have lu : Loose .un := .inl rfl
  have b1 : setO 1 (eLst [(eC (.list (ns.map PyData.int))), (eC (.int 0)), (eC (.int 0)), (eC (.int 1))]) (List.replicate 16 .un) = .ok .nx (stV ns ⟨0, 0, 1, by omega⟩ .un .un .un .un .un .un .un .un .un) := by
    have g : eLst [(eC (.list (ns.map PyData.int))), (eC (.int 0)), (eC (.int 0)), (eC (.int 1))] (List.replicate 16 .un) = .ok (obS ns ⟨0, 0, 1, by omega⟩) (List.replicate 16 .un) := by
      simp [-Option.bind_some, -Option.bind_none, obS]
    rw [setO_loose g (x := .un) (by simp [-Option.bind_some, -Option.bind_none]) lu]
    exact Eq.trans rfl rfl
  obtain ⟨s1, y2, y3, y4, y5, y6, y7, y8, y9, y10, e1', l9⟩ := turns_law ns ((List.range 3).map I) ⟨0, 0, 1, by omega⟩ .un .un .un .un .un .un .un .un .un lu lu lu lu lu lu lu lu lu
  have b2 : forS (e1 rg1D (.g (eC (.int 3)))) (tgN 2) B_law_3 (stV ns ⟨0, 0, 1, by omega⟩ .un .un .un .un .un .un .un .un .un) = .ok .nx (stV ns s1 y2 y3 y4 y5 y6 y7 y8 y9 y10) := by
    have rg' : rg1D (.int 3) = some ((List.range 3).map I) := rg1_n 3 (by omega)
    rw [forS_ap, e1_ap, opd_g, eC_ap]
    simp only [Res.bind_ok, fin_d, obind, rg', ofO_some]
    exact e1'
  obtain ⟨n, s2, h1, h2, b3⟩ := many_run ns s1 y2 y3 y4 y5 y6 y7 y8 y9 y10
  have b4 := chain_run ns s2 y2 y3 y4 y5 y6 y7 y8 y9 y10 n (by omega) (by omega)
  have b5 := ring_run ns s2 y2 y3 y4 y5 y6 y7 y8 .un y10 (.fz (mD (chainM n))) n (by omega) (by omega)
  have b6 := cond_run ns s2 y2 y3 y4 y5 y6 y7 y8 .un y10 n h1 h2
  obtain ⟨r, b7⟩ := last_run ns s2 y2 y3 y4 y5 y6 y7 y8 .un y10 n h1 h2
  refine ⟨r, ?_⟩
  unfold g_law
  rw [seqS_ap, b1, Res.bind_ok]
  simp only []
  rw [seqS_ap, b2, Res.bind_ok]
  simp only []
  rw [seqS_ap, b3, Res.bind_ok]
  simp only []
  rw [seqS_ap, b4, Res.bind_ok]
  simp only []
  rw [seqS_ap, b5, Res.bind_ok]
  simp only []
  rw [seqS_ap, b6, Res.bind_ok]
  simp only []
  exact b7
end K66
end
section
set_option Elab.async false
set_option linter.all false
set_option maxRecDepth 100000
namespace K66
open PySem PySem.Spec L2 DL
def topS (i : Nat) : Stmt := PySem.Challenge.pw_gatewhole_k66_resets_and_pairs_that_neve.main.body.getD i (.Pass ⟨0, 0, 0, 0⟩)
abbrev s_least_reset : Stmt := topS 5
theorem sc_least_reset : FnScope ["machine", "signs", "start", "rows", "left", "lines", "number", "sign", "other", "line"] ["machine", "signs"] (defScope s_least_reset) := ⟨rfl, rfl, rfl, by decide +kernel, rfl, by decide +kernel, by decide +kernel⟩
abbrev s_pair_behind : Stmt := topS 6
theorem sc_pair_behind : FnScope ["machine", "number", "pair", "line"] ["machine", "number", "pair"] (defScope s_pair_behind) := ⟨rfl, rfl, rfl, by decide +kernel, rfl, by decide +kernel, by decide +kernel⟩
abbrev s_never_meeting : Stmt := topS 7
theorem sc_never_meeting : FnScope ["machine", "signs", "pairs", "meet", "grown", "pair", "behind", "second", "first", "number", "other"] ["machine", "signs"] (defScope s_never_meeting) := ⟨rfl, rfl, rfl, by decide +kernel, rfl, by decide +kernel, by decide +kernel⟩
abbrev s_reset : Stmt := topS 8
theorem sc_reset : FnScope ["machine", "signs", "pairs"] ["machine", "signs"] (defScope s_reset) := ⟨rfl, rfl, rfl, by decide +kernel, rfl, by decide +kernel, by decide +kernel⟩
abbrev s_is_line : Stmt := topS 10
theorem sc_is_line : FnScope ["machine", "line"] ["machine", "line"] (defScope s_is_line) := ⟨rfl, rfl, rfl, by decide +kernel, rfl, by decide +kernel, by decide +kernel⟩
abbrev s_judge_reset : Stmt := topS 9
theorem sc_judge_reset : FnScope ["machine", "signs", "told", "lines", "sign", "pair", "line", "number"] ["machine", "signs", "told"] (defScope s_judge_reset) := ⟨rfl, rfl, rfl, by decide +kernel, rfl, by decide +kernel, by decide +kernel⟩
abbrev s__law_next : Stmt := topS 12
theorem sc__law_next : FnScope ["state", "limit", "cell", "value"] ["state", "limit"] (defScope s__law_next) := ⟨rfl, rfl, rfl, by decide +kernel, rfl, by decide +kernel, by decide +kernel⟩
abbrev s__law_same : Stmt := topS 13
theorem sc__law_same : FnScope ["actual", "expected", "k"] ["actual", "expected"] (defScope s__law_same) := ⟨rfl, rfl, rfl, by decide +kernel, rfl, by decide +kernel, by decide +kernel⟩
abbrev s__law_signs : Stmt := topS 14
theorem sc__law_signs : FnScope ["state", "letters", "found", "k", "place"] ["state"] (defScope s__law_signs) := ⟨rfl, rfl, rfl, by decide +kernel, rfl, by decide +kernel, by decide +kernel⟩
abbrev s__law_machine : Stmt := topS 15
theorem sc__law_machine : FnScope ["state", "signs", "many", "kind", "steps", "lines", "line", "nexts", "k", "pick", "sign"] ["state", "signs"] (defScope s__law_machine) := ⟨rfl, rfl, rfl, by decide +kernel, rfl, by decide +kernel, by decide +kernel⟩
abbrev s__law_line : Stmt := topS 16
theorem sc__law_line : FnScope ["machine", "signs", "line", "row", "sign"] ["machine", "signs", "line", "row"] (defScope s__law_line) := ⟨rfl, rfl, rfl, by decide +kernel, rfl, by decide +kernel, by decide +kernel⟩
abbrev s__law_row : Stmt := topS 17
theorem sc__law_row : FnScope ["state", "signs", "most", "k"] ["state", "signs", "most"] (defScope s__law_row) := ⟨rfl, rfl, rfl, by decide +kernel, rfl, by decide +kernel, by decide +kernel⟩
abbrev s__law_behind : Stmt := topS 18
theorem sc__law_behind : FnScope ["machine", "k", "pair", "line"] ["machine", "k", "pair"] (defScope s__law_behind) := ⟨rfl, rfl, rfl, by decide +kernel, rfl, by decide +kernel, by decide +kernel⟩
abbrev s__law_meeting : Stmt := topS 19
theorem sc__law_meeting : FnScope ["machine", "signs", "pairs", "q", "meet", "turned", "more", "pair", "ends", "p", "k", "end"] ["machine", "signs"] (defScope s__law_meeting) := ⟨rfl, rfl, rfl, by decide +kernel, rfl, by decide +kernel, by decide +kernel⟩
abbrev s__law_least_reset : Stmt := topS 20
theorem sc__law_least_reset : FnScope ["machine", "signs", "front", "met", "behind", "lines", "row", "k", "line"] ["machine", "signs"] (defScope s__law_least_reset) := ⟨rfl, rfl, rfl, by decide +kernel, rfl, by decide +kernel, by decide +kernel⟩
abbrev s__law_is_line : Stmt := topS 21
theorem sc__law_is_line : FnScope ["machine", "value"] ["machine", "value"] (defScope s__law_is_line) := ⟨rfl, rfl, rfl, by decide +kernel, rfl, by decide +kernel, by decide +kernel⟩
abbrev s__law_accepts : Stmt := topS 22
theorem sc__law_accepts : FnScope ["machine", "signs", "told", "paper", "pair", "sign", "line", "k"] ["machine", "signs", "told"] (defScope s__law_accepts) := ⟨rfl, rfl, rfl, by decide +kernel, rfl, by decide +kernel, by decide +kernel⟩
abbrev s__law_turned : Stmt := topS 23
theorem sc__law_turned : FnScope ["state", "signs", "paper", "pick", "sign", "k"] ["state", "signs", "paper"] (defScope s__law_turned) := ⟨rfl, rfl, rfl, by decide +kernel, rfl, by decide +kernel, by decide +kernel⟩
abbrev s_law : Stmt := topS 24
theorem sc_law : FnScope ["script", "state", "turn", "signs", "machine", "pairs", "due", "told", "asks", "k", "asked", "many", "chain", "ring", "error", "p"] ["script"] (defScope s_law) := ⟨rfl, rfl, rfl, by decide +kernel, rfl, by decide +kernel, by decide +kernel⟩
abbrev clM (mg : Str → Option Value) : Cl := fun c v dd => mg (Str.ofString c) = some v ∧ dd = none
structure Txt (K : PySem.W.Frag) (mg : Str → Option Value) where
  m_ValueError : mg "ValueError" = none
  m_bool : mg "bool" = none
  m_enumerate : mg "enumerate" = none
  m_int : mg "int" = none
  m_isinstance : mg "isinstance" = none
  m_len : mg "len" = none
  m_list : mg "list" = none
  m_max : mg "max" = none
  m_min : mg "min" = none
  m_range : mg "range" = none
  m_set : mg "set" = none
  m_sorted : mg "sorted" = none
  m_str : mg "str" = none
  m_tuple : mg "tuple" = none
  t_MOST_RESET : Tok
  c_MOST_RESET : mg "MOST_RESET" = some (.int 16 t_MOST_RESET)
  a_TooWide : Addr
  c_TooWide : mg "TooWide" = some (.ref a_TooWide)
  x_TooWide : PySem.W.excIn K a_TooWide [.type "ValueError", .type "Exception", .type "BaseException", .type "object"] "ValueError.__new__" = true
  k_TooWide : PySem.W.keepIn K (.ref a_TooWide) = true
  s_TooWide : PySem.W.subIn K (.ref a_TooWide) (.type "BaseException") = some true
  t_TooWide : PySem.W.typeIn K (.ref a_TooWide) = some (.type "type")
  e_TooWide_TooWide : PySem.W.exmOne K (.ref a_TooWide) (.ref a_TooWide) = some true
  ec_TooWide : ExcC K a_TooWide
  kt_TooWide_ValueError : PySem.W.kitOne K (.ref a_TooWide) (.type "ValueError") = some true
  a_least_reset : Addr
  fd_least_reset : FuncData
  F_least_reset : Fun K "least_reset" "least_reset" s_least_reset a_least_reset fd_least_reset
  g_least_reset : mg "least_reset" = some (.ref a_least_reset)
  b_least_reset : Binds K fd_least_reset ["machine", "signs"] []
  a_pair_behind : Addr
  fd_pair_behind : FuncData
  F_pair_behind : Fun K "pair_behind" "pair_behind" s_pair_behind a_pair_behind fd_pair_behind
  g_pair_behind : mg "pair_behind" = some (.ref a_pair_behind)
  b_pair_behind : Binds K fd_pair_behind ["machine", "number", "pair"] []
  a_never_meeting : Addr
  fd_never_meeting : FuncData
  F_never_meeting : Fun K "never_meeting" "never_meeting" s_never_meeting a_never_meeting fd_never_meeting
  g_never_meeting : mg "never_meeting" = some (.ref a_never_meeting)
  b_never_meeting : Binds K fd_never_meeting ["machine", "signs"] []
  a_reset : Addr
  fd_reset : FuncData
  F_reset : Fun K "reset" "reset" s_reset a_reset fd_reset
  g_reset : mg "reset" = some (.ref a_reset)
  b_reset : Binds K fd_reset ["machine", "signs"] []
  a_is_line : Addr
  fd_is_line : FuncData
  F_is_line : Fun K "is_line" "is_line" s_is_line a_is_line fd_is_line
  g_is_line : mg "is_line" = some (.ref a_is_line)
  b_is_line : Binds K fd_is_line ["machine", "line"] []
  a_judge_reset : Addr
  fd_judge_reset : FuncData
  F_judge_reset : Fun K "judge_reset" "judge_reset" s_judge_reset a_judge_reset fd_judge_reset
  g_judge_reset : mg "judge_reset" = some (.ref a_judge_reset)
  b_judge_reset : Binds K fd_judge_reset ["machine", "signs", "told"] []
  a__law_next : Addr
  fd__law_next : FuncData
  F__law_next : Fun K "_law_next" "_law_next" s__law_next a__law_next fd__law_next
  g__law_next : mg "_law_next" = some (.ref a__law_next)
  b__law_next : Binds K fd__law_next ["state", "limit"] []
  a__law_same : Addr
  fd__law_same : FuncData
  F__law_same : Fun K "_law_same" "_law_same" s__law_same a__law_same fd__law_same
  g__law_same : mg "_law_same" = some (.ref a__law_same)
  b__law_same : Binds K fd__law_same ["actual", "expected"] []
  a__law_signs : Addr
  fd__law_signs : FuncData
  F__law_signs : Fun K "_law_signs" "_law_signs" s__law_signs a__law_signs fd__law_signs
  g__law_signs : mg "_law_signs" = some (.ref a__law_signs)
  b__law_signs : Binds K fd__law_signs ["state"] []
  a__law_machine : Addr
  fd__law_machine : FuncData
  F__law_machine : Fun K "_law_machine" "_law_machine" s__law_machine a__law_machine fd__law_machine
  g__law_machine : mg "_law_machine" = some (.ref a__law_machine)
  b__law_machine : Binds K fd__law_machine ["state", "signs"] []
  a__law_line : Addr
  fd__law_line : FuncData
  F__law_line : Fun K "_law_line" "_law_line" s__law_line a__law_line fd__law_line
  g__law_line : mg "_law_line" = some (.ref a__law_line)
  b__law_line : Binds K fd__law_line ["machine", "signs", "line", "row"] []
  a__law_row : Addr
  fd__law_row : FuncData
  F__law_row : Fun K "_law_row" "_law_row" s__law_row a__law_row fd__law_row
  g__law_row : mg "_law_row" = some (.ref a__law_row)
  b__law_row : Binds K fd__law_row ["state", "signs", "most"] []
  a__law_behind : Addr
  fd__law_behind : FuncData
  F__law_behind : Fun K "_law_behind" "_law_behind" s__law_behind a__law_behind fd__law_behind
  g__law_behind : mg "_law_behind" = some (.ref a__law_behind)
  b__law_behind : Binds K fd__law_behind ["machine", "k", "pair"] []
  a__law_meeting : Addr
  fd__law_meeting : FuncData
  F__law_meeting : Fun K "_law_meeting" "_law_meeting" s__law_meeting a__law_meeting fd__law_meeting
  g__law_meeting : mg "_law_meeting" = some (.ref a__law_meeting)
  b__law_meeting : Binds K fd__law_meeting ["machine", "signs"] []
  a__law_least_reset : Addr
  fd__law_least_reset : FuncData
  F__law_least_reset : Fun K "_law_least_reset" "_law_least_reset" s__law_least_reset a__law_least_reset fd__law_least_reset
  g__law_least_reset : mg "_law_least_reset" = some (.ref a__law_least_reset)
  b__law_least_reset : Binds K fd__law_least_reset ["machine", "signs"] []
  a__law_is_line : Addr
  fd__law_is_line : FuncData
  F__law_is_line : Fun K "_law_is_line" "_law_is_line" s__law_is_line a__law_is_line fd__law_is_line
  g__law_is_line : mg "_law_is_line" = some (.ref a__law_is_line)
  b__law_is_line : Binds K fd__law_is_line ["machine", "value"] []
  a__law_accepts : Addr
  fd__law_accepts : FuncData
  F__law_accepts : Fun K "_law_accepts" "_law_accepts" s__law_accepts a__law_accepts fd__law_accepts
  g__law_accepts : mg "_law_accepts" = some (.ref a__law_accepts)
  b__law_accepts : Binds K fd__law_accepts ["machine", "signs", "told"] []
  a__law_turned : Addr
  fd__law_turned : FuncData
  F__law_turned : Fun K "_law_turned" "_law_turned" s__law_turned a__law_turned fd__law_turned
  g__law_turned : mg "_law_turned" = some (.ref a__law_turned)
  b__law_turned : Binds K fd__law_turned ["state", "signs", "paper"] []
  a_law : Addr
  fd_law : FuncData
  F_law : Fun K "law" "law" s_law a_law fd_law
  g_law : mg "law" = some (.ref a_law)
  b_law : Binds K fd_law ["script"] []
theorem Txt.cl_TooWide {K : PySem.W.Frag} {mg : Str → Option Value} (T : Txt K mg) : clM mg "TooWide" (.ref T.a_TooWide) none := ⟨T.c_TooWide, rfl⟩
theorem Txt.hm_TooWide {K : PySem.W.Frag} {mg : Str → Option Value} (T : Txt K mg) : ∀ c b, m_TooWide c = some b → ∀ cls dd, clM mg c cls dd → PySem.W.exmOne K cls (.ref T.a_TooWide) = some b := by
  rintro c b h cls dd ⟨hc, rfl⟩
  unfold m_TooWide at h
  by_cases z : c = "TooWide"
  · subst z
    rw [if_pos rfl] at h
    cases h
    have e := T.c_TooWide
    rw [e] at hc
    cases hc
    exact T.e_TooWide_TooWide
  rw [if_neg z] at h
  cases h
theorem Txt.is_TooWide {K : PySem.W.Frag} {mg : Str → Option Value} (T : Txt K mg) {cls : Value} {d : Option Addr} (hc : ∃ c, clM mg c cls d ∧ m_TooWide c = some true) : cls = .ref T.a_TooWide ∧ d = none := by
  obtain ⟨c, ⟨hc, hd⟩, h⟩ := hc
  unfold m_TooWide at h
  by_cases z : c = "TooWide"
  · subst z
    have e := T.c_TooWide
    rw [e] at hc
    cases hc
    exact ⟨rfl, hd⟩
  rw [if_neg z] at h
  cases h
theorem boot_ValueError : bootBuiltins "ValueError" = some (.type "ValueError") := by decide +kernel
end K66
end
section
set_option Elab.async false
set_option linter.all false
set_option maxRecDepth 100000
namespace K66
open PySem PySem.Spec L2 DL
set_option maxHeartbeats 4000000 in
theorem ok_least_reset {P : Program} {w : World} {K : PySem.W.Frag} {mg : Str → Option Value} {base : Heap} (T : Txt K mg) : FnOk P w K mg base (L2.CX P w) 1 T.a_least_reset T.fd_least_reset ["machine", "signs"] (spF K (clM mg) 2 (F_least_reset)) := by
  refine def_ok2 (g := g_least_reset) (n := 10) (m := 2) T.F_least_reset sc_least_reset rfl rfl rfl (by decide) (fun cdv A outer s H E hr => ?_)
  have hp := passes_of (X := bx P w K mg base ["machine", "signs", "start", "rows", "left", "lines", "number", "sign", "other", "line"] "least_reset" s_least_reset T.a_least_reset cdv A outer s H E) rfl
  have tk : Takes (bx P w K mg base ["machine", "signs", "start", "rows", "left", "lines", "number", "sign", "other", "line"] "least_reset" s_least_reset T.a_least_reset cdv A outer s H E) (WF E) := takes_of rfl rfl rfl rfl
  obtain ⟨hu1, hu64, hu65, hu200⟩ := room_un hr
  have sc := sc_least_reset
  unfold g_least_reset
  exact (ss_cons (s_if (t_cmp op_gt (sd_cmpI _) (o_g (d_b1 call_len sb_len (by rfl) T.m_len PySem.boot_len (o_b (pv 0)))) (o_g (d_c (fun _ => .int 16) (pe_glob (by rfl) T.c_MOST_RESET ⟨_, rfl⟩))) (nomark _))
      (ss_one (s_raise (c := "TooWide") rfl tk T.cl_TooWide PySem.F.excBase_ValueError T.x_TooWide T.c_TooWide T.k_TooWide (raises_own T.s_TooWide T.t_TooWide) (by exact rfl)))
      ss_nil)
      (ss_cons (s_set (i := 2) sc.nd rfl (by first | exact Or.inl rfl | exact Or.inr rfl) (d_trg1 rfl (by rfl) T.m_tuple (by rfl) T.m_range (o_g (d_b1 call_len sb_len (by rfl) T.m_len PySem.boot_len (o_b (pv 0))))))
      (ss_cons (s_setO (i := 3) sc.nd rfl (by first | exact Or.inl rfl | exact Or.inr rfl) (o_dict1 hu1 (d_v (pv 2)) d_str))
      (ss_cons (s_setO (i := 4) sc.nd rfl (by first | exact Or.inl rfl | exact Or.inr rfl) (o_lst (l_cons (d_v (pv 2)) l_nil)))
      (ss_cons (s_while 100000 hp (t_tru (o_b (pv 4)))
      (ss_cons (s_set (i := 5) sc.nd rfl (by first | exact Or.inl rfl | exact Or.inr rfl) (d_pop (pv 4) d_int))
      (ss_cons (s_if (t_cmp (op_eqD hu64) sd_eq (o_g (d_b1 call_len sb_len (by rfl) T.m_len PySem.boot_len (o_b (pv 5)))) (o_g d_int) (nomark _))
      (ss_one (s_ret (d_dget hu1 (pv 3) (d_v (pv 5)))))
      ss_nil)
      (ss_one (s_for hp rfl (i_enum (by rfl) T.m_enumerate (d_v (pv 1))) (g_tup rfl (gs_cons (g_name (i := 6) sc.nd rfl (by first | exact Or.inl rfl | exact Or.inr rfl)) (gs_cons (g_name (i := 7) sc.nd rfl (by first | exact Or.inl rfl | exact Or.inr rfl)) gs_nil)))
      (ss_cons (s_set (i := 8) sc.nd rfl (by first | exact Or.inl rfl | exact Or.inr rfl) (d_y1 call_tuple_of sb_tup (by rfl) T.m_tuple PyProof.Rows.boot_tuple (o_g (d_fz (o_sortset rfl (by rfl) T.m_sorted (by rfl) T.m_set (o_g (d_fz (o_lc rfl sc.nd (i_seq (d_v (pv 5))) (blkOk_by (own := [("line", 9)]) (N := ["machine", "signs", "start", "rows", "left", "lines", "number", "sign", "other", "line"]) (sc := defScope s_least_reset) (by decide +kernel)) (fun _ _ _ _ _ => (g_name (i := 9) sc.nd rfl (by first | exact Or.inl rfl | exact Or.inr rfl))) (fun _ _ _ _ _ => c_nil) (fun _ _ _ _ _ => (d_ix (o_g (d_ix (o_g (d_ix (o_b (pv 0)) (o_b (pv 9)))) (o_g d_int))) (o_b (pv 6))))))))))))
      (ss_one (s_if (t_dnin hu1 (d_v (pv 8)) (pv 3))
      (ss_cons (s_dput hu1 (pv 3) (d_v (pv 8)) (d_bin op_addD sd_add (o_g (d_dget hu1 (pv 3) (d_v (pv 5)))) (o_b (pv 7))))
      (ss_one (s_mut PySem.F.slot_list_append PySem.F.type_list_append mt_append mu_app (pv 4) (d_v (pv 8)))))
      ss_nil))))))))
      (ss_one (s_ret d_non)))))))
end K66
end
section
set_option Elab.async false
set_option linter.all false
set_option maxRecDepth 100000
namespace K66
open PySem PySem.Spec L2 DL
set_option maxHeartbeats 4000000 in
theorem ok_pair_behind {P : Program} {w : World} {K : PySem.W.Frag} {mg : Str → Option Value} {base : Heap} (T : Txt K mg) : FnOk P w K mg base (L2.CX P w) 1 T.a_pair_behind T.fd_pair_behind ["machine", "number", "pair"] (spF K (clM mg) 3 (F_pair_behind)) := by
  refine def_ok2 (g := g_pair_behind) (n := 4) (m := 3) T.F_pair_behind sc_pair_behind rfl rfl rfl (by decide) (fun cdv A outer s H E hr => ?_)
  have hp := passes_of (X := bx P w K mg base ["machine", "number", "pair", "line"] "pair_behind" s_pair_behind T.a_pair_behind cdv A outer s H E) rfl
  have tk : Takes (bx P w K mg base ["machine", "number", "pair", "line"] "pair_behind" s_pair_behind T.a_pair_behind cdv A outer s H E) (WF E) := takes_of rfl rfl rfl rfl
  obtain ⟨hu1, hu64, hu65, hu200⟩ := room_un hr
  have sc := sc_pair_behind
  unfold g_pair_behind
  exact (ss_one (s_ret (d_y1 call_tuple_of sb_tup (by rfl) T.m_tuple PyProof.Rows.boot_tuple (o_g (d_fz (o_b1 (cr_sortedD hu200) sc_sorted (by rfl) T.m_sorted PyProof.Rows.boot_sorted (o_g (d_fz (o_lc rfl sc.nd (i_seq (d_v (pv 2))) (blkOk_by (own := [("line", 3)]) (N := ["machine", "number", "pair", "line"]) (sc := defScope s_pair_behind) (by decide +kernel)) (fun _ _ _ _ _ => (g_name (i := 3) sc.nd rfl (by first | exact Or.inl rfl | exact Or.inr rfl))) (fun _ _ _ _ _ => c_nil) (fun _ _ _ _ _ => (d_ix (o_g (d_ix (o_g (d_ix (o_b (pv 0)) (o_b (pv 3)))) (o_g d_int))) (o_b (pv 1)))))))))))))
end K66
end
section
set_option Elab.async false
set_option linter.all false
set_option maxRecDepth 100000
namespace K66
open PySem PySem.Spec L2 DL
set_option maxHeartbeats 4000000 in
theorem ok_never_meeting {P : Program} {w : World} {K : PySem.W.Frag} {mg : Str → Option Value} {base : Heap} (T : Txt K mg) : FnOk P w K mg base (L2.CX P w) 2 T.a_never_meeting T.fd_never_meeting ["machine", "signs"] (spF K (clM mg) 2 (F_never_meeting)) := by
  have G_pair_behind := ok_pair_behind (P := P) (w := w) (base := base) T
  refine def_ok2 (g := g_never_meeting) (n := 11) (m := 2) T.F_never_meeting sc_never_meeting rfl rfl rfl (by decide) (fun cdv A outer s H E hr => ?_)
  have hp := passes_of (X := bx P w K mg base ["machine", "signs", "pairs", "meet", "grown", "pair", "behind", "second", "first", "number", "other"] "never_meeting" s_never_meeting T.a_never_meeting cdv A outer s H E) rfl
  have tk : Takes (bx P w K mg base ["machine", "signs", "pairs", "meet", "grown", "pair", "behind", "second", "first", "number", "other"] "never_meeting" s_never_meeting T.a_never_meeting cdv A outer s H E) (WF E) := takes_of rfl rfl rfl rfl
  obtain ⟨hu1, hu64, hu65, hu200⟩ := room_un hr
  have sc := sc_never_meeting
  unfold g_never_meeting
  exact (ss_cons (s_setLc2 (i := 2) rfl sc.nd rfl rfl (sw_true rfl rfl rfl (by decide +kernel)) (i_range1 (by rfl) T.m_range (o_g (d_b1 call_len sb_len (by rfl) T.m_len PySem.boot_len (o_b (pv 0))))) (blkOk_by (own := [("second", 7), ("first", 8)]) (N := ["machine", "signs", "pairs", "meet", "grown", "pair", "behind", "second", "first", "number", "other"]) (sc := defScope s_never_meeting) (by decide +kernel)) (vs1 := [8]) (by decide) (fun _ _ _ _ _ => (g_name (i := 7) sc.nd rfl (by first | exact Or.inl rfl | exact Or.inr rfl))) (fun _ _ _ _ _ => (i_range1 (by rfl) T.m_range (o_b (pv 7)))) (fun _ _ _ _ _ => (g_name (i := 8) sc.nd rfl (by first | exact Or.inl rfl | exact Or.inr rfl))) (fun _ _ _ _ _ => (d_tup (l_cons (d_v (pv 8)) (l_cons (d_v (pv 7)) l_nil)))))
      (ss_cons (s_setO (i := 3) sc.nd rfl (by first | exact Or.inl rfl | exact Or.inr rfl) (o_lst l_nil))
      (ss_cons (s_set (i := 4) sc.nd rfl (by first | exact Or.inl rfl | exact Or.inr rfl) d_bl)
      (ss_cons (s_while 1000 hp (t_tru (o_b (pv 4)))
      (ss_cons (s_set (i := 4) sc.nd rfl (by first | exact Or.inl rfl | exact Or.inr rfl) d_bl)
      (ss_one (s_for hp rfl (i_seq (d_v (pv 2))) (g_name (i := 5) sc.nd rfl (by first | exact Or.inl rfl | exact Or.inr rfl))
      (ss_one (s_if (t_cmp (op_notInAll hu65) sd_notIn (o_b (pv 5)) (o_b (pv 3)) (by rfl))
      (ss_cons (s_setLc (i := 6) rfl sc.nd rfl rfl (sw_true rfl rfl rfl (by decide +kernel)) (i_range1 (by rfl) T.m_range (o_g (d_b1 call_len sb_len (by rfl) T.m_len PySem.boot_len (o_b (pv 1))))) (blkOk_by (own := [("number", 9)]) (N := ["machine", "signs", "pairs", "meet", "grown", "pair", "behind", "second", "first", "number", "other"]) (sc := defScope s_never_meeting) (by decide +kernel)) (fun _ _ _ _ _ => (g_name (i := 9) sc.nd rfl (by first | exact Or.inl rfl | exact Or.inr rfl))) (fun _ _ _ _ _ => c_nil) (fun _ _ _ _ _ => (d_call takes0 G_pair_behind (hr.mono (by omega)) (by rfl) T.g_pair_behind T.F_pair_behind.kp T.b_pair_behind (as_cons (a_g (d_v (pv 0))) (as_cons (a_g (d_v (pv 9))) (as_cons (a_g (d_v (pv 5))) as_nil))))))
      (ss_one (s_if (t_cmp (op_inAll hu65) sd_in (o_g d_bl) (o_g (d_fz (o_lc rfl sc.nd (i_seq (d_v (pv 6))) (blkOk_by (own := [("other", 10)]) (N := ["machine", "signs", "pairs", "meet", "grown", "pair", "behind", "second", "first", "number", "other"]) (sc := defScope s_never_meeting) (by decide +kernel)) (fun _ _ _ _ _ => (g_name (i := 10) sc.nd rfl (by first | exact Or.inl rfl | exact Or.inr rfl))) (fun _ _ _ _ _ => c_nil) (fun _ _ _ _ _ => (d_or (d_cmp (op_eqD hu64) sd_eq (o_g (d_ix (o_b (pv 10)) (o_g d_int))) (o_g (d_ix (o_b (pv 10)) (o_g d_int))) (nomark _)) (d_one (d_cmp (op_inAll hu65) sd_in (o_b (pv 10)) (o_b (pv 3)) (by rfl)))))))) (by rfl))
      (ss_cons (s_mut PySem.F.slot_list_append PySem.F.type_list_append mt_append mu_app (pv 3) (d_v (pv 5)))
      (ss_one (s_set (i := 4) sc.nd rfl (by first | exact Or.inl rfl | exact Or.inr rfl) d_bl)))
      ss_nil)))
      ss_nil))))))
      (ss_one (s_ret (d_y1 call_tuple_of sb_tup (by rfl) T.m_tuple PyProof.Rows.boot_tuple (o_g (d_fz (o_b1 (cr_sortedD hu200) sc_sorted (by rfl) T.m_sorted PyProof.Rows.boot_sorted (o_g (d_fz (o_lc rfl sc.nd (i_seq (d_v (pv 2))) (blkOk_by (own := [("pair", 5)]) (N := ["machine", "signs", "pairs", "meet", "grown", "pair", "behind", "second", "first", "number", "other"]) (sc := defScope s_never_meeting) (by decide +kernel)) (fun _ _ _ _ _ => (g_name (i := 5) sc.nd rfl (by first | exact Or.inl rfl | exact Or.inr rfl))) (fun _ _ _ _ _ => (c_one (t_cmp (op_notInAll hu65) sd_notIn (o_b (pv 5)) (o_b (pv 3)) (by rfl)))) (fun _ _ _ _ _ => (d_v (pv 5))))))))))))))))
end K66
end
section
set_option Elab.async false
set_option linter.all false
set_option maxRecDepth 100000
namespace K66
open PySem PySem.Spec L2 DL
set_option maxHeartbeats 4000000 in
theorem ok_reset {P : Program} {w : World} {K : PySem.W.Frag} {mg : Str → Option Value} {base : Heap} (T : Txt K mg) : FnOk P w K mg base (L2.CX P w) 3 T.a_reset T.fd_reset ["machine", "signs"] (spF K (clM mg) 2 (F_reset)) := by
  have G_never_meeting := ok_never_meeting (P := P) (w := w) (base := base) T
  have G_least_reset := ok_least_reset (P := P) (w := w) (base := base) T
  refine def_ok2 (g := g_reset) (n := 3) (m := 2) T.F_reset sc_reset rfl rfl rfl (by decide) (fun cdv A outer s H E hr => ?_)
  have hp := passes_of (X := bx P w K mg base ["machine", "signs", "pairs"] "reset" s_reset T.a_reset cdv A outer s H E) rfl
  have tk : Takes (bx P w K mg base ["machine", "signs", "pairs"] "reset" s_reset T.a_reset cdv A outer s H E) (WF E) := takes_of rfl rfl rfl rfl
  obtain ⟨hu1, hu64, hu65, hu200⟩ := room_un hr
  have sc := sc_reset
  unfold g_reset
  exact (ss_cons (s_set (i := 2) sc.nd rfl (by first | exact Or.inl rfl | exact Or.inr rfl) (d_call tk G_never_meeting (hr.mono (by omega)) (by rfl) T.g_never_meeting T.F_never_meeting.kp T.b_never_meeting (as_cons (a_g (d_v (pv 0))) (as_cons (a_g (d_v (pv 1))) as_nil))))
      (ss_cons (s_if (t_tru (o_b (pv 2)))
      (ss_one (s_ret (d_tup (l_cons d_str (l_cons (d_v (pv 2)) l_nil)))))
      ss_nil)
      (ss_one (s_ret (d_tup (l_cons d_str (l_cons (d_call tk G_least_reset (hr.mono (by omega)) (by rfl) T.g_least_reset T.F_least_reset.kp T.b_least_reset (as_cons (a_g (d_v (pv 0))) (as_cons (a_g (d_v (pv 1))) as_nil))) l_nil)))))))
end K66
end
section
set_option Elab.async false
set_option linter.all false
set_option maxRecDepth 100000
namespace K66
open PySem PySem.Spec L2 DL
set_option maxHeartbeats 4000000 in
theorem ok_is_line {P : Program} {w : World} {K : PySem.W.Frag} {mg : Str → Option Value} {base : Heap} (T : Txt K mg) : FnOk P w K mg base (L2.CX P w) 1 T.a_is_line T.fd_is_line ["machine", "line"] (spF K (clM mg) 2 (F_is_line)) := by
  refine def_ok2 (g := g_is_line) (n := 2) (m := 2) T.F_is_line sc_is_line rfl rfl rfl (by decide) (fun cdv A outer s H E hr => ?_)
  have hp := passes_of (X := bx P w K mg base ["machine", "line"] "is_line" s_is_line T.a_is_line cdv A outer s H E) rfl
  have tk : Takes (bx P w K mg base ["machine", "line"] "is_line" s_is_line T.a_is_line cdv A outer s H E) (WF E) := takes_of rfl rfl rfl rfl
  obtain ⟨hu1, hu64, hu65, hu200⟩ := room_un hr
  have sc := sc_is_line
  unfold g_is_line
  exact (ss_one (s_ret (d_and (d_isi kit_int (by rfl) T.m_isinstance (by rfl) T.m_int PyProof.Rows.boot_int (o_b (pv 1))) (d_and (d_not (d_isi kit_bool (by rfl) T.m_isinstance (by rfl) T.m_bool PyProof.Rows.boot_bool (o_b (pv 1)))) (d_one (d_chain op_le (sd_cmpI _) op_lt (sd_cmpI _) (o_g d_int) (o_b (pv 1)) (o_g (d_b1 call_len sb_len (by rfl) T.m_len PySem.boot_len (o_b (pv 0))))))))))
end K66
end
section
set_option Elab.async false
set_option linter.all false
set_option maxRecDepth 100000
namespace K66
open PySem PySem.Spec L2 DL
set_option maxHeartbeats 4000000 in
theorem ok_judge_reset {P : Program} {w : World} {K : PySem.W.Frag} {mg : Str → Option Value} {base : Heap} (T : Txt K mg) : FnOk P w K mg base (L2.CX P w) 2 T.a_judge_reset T.fd_judge_reset ["machine", "signs", "told"] (spF K (clM mg) 3 (F_judge_reset)) := by
  have G_is_line := ok_is_line (P := P) (w := w) (base := base) T
  have G_pair_behind := ok_pair_behind (P := P) (w := w) (base := base) T
  refine def_ok2 (g := g_judge_reset) (n := 8) (m := 3) T.F_judge_reset sc_judge_reset rfl rfl rfl (by decide) (fun cdv A outer s H E hr => ?_)
  have hp := passes_of (X := bx P w K mg base ["machine", "signs", "told", "lines", "sign", "pair", "line", "number"] "judge_reset" s_judge_reset T.a_judge_reset cdv A outer s H E) rfl
  have tk : Takes (bx P w K mg base ["machine", "signs", "told", "lines", "sign", "pair", "line", "number"] "judge_reset" s_judge_reset T.a_judge_reset cdv A outer s H E) (WF E) := takes_of rfl rfl rfl rfl
  obtain ⟨hu1, hu64, hu65, hu200⟩ := room_un hr
  have sc := sc_judge_reset
  unfold g_judge_reset
  exact (ss_cons (s_if (PW.pt (w_or (t_not (t_tru (o_g (d_isi kit_tuple (by rfl) T.m_isinstance (by rfl) T.m_tuple PyProof.Rows.boot_tuple (o_b (pv 2)))))) (w_or (t_cmp (op_neD hu64) sd_ne (o_g (d_b1 call_len sb_len (by rfl) T.m_len PySem.boot_len (o_b (pv 2)))) (o_g d_int) (nomark _)) (w_or1 (t_cmp (op_notInAll hu65) sd_notIn (o_g (d_ix (o_b (pv 2)) (o_g d_int))) (o_g (d_tup (l_cons d_str (l_cons d_str l_nil)))) (by rfl))))))
      (ss_one (s_ret d_bl))
      ss_nil)
      (ss_cons (s_if (t_cmp (op_eqD hu64) sd_eq (o_g (d_ix (o_b (pv 2)) (o_g d_int))) (o_g d_str) (nomark _))
      (ss_cons (s_if (PW.pt (w_or (t_not (t_tru (o_g (d_isi kit_str (by rfl) T.m_isinstance (by rfl) T.m_str PyProof.Rows.boot_str (o_g (d_ix (o_b (pv 2)) (o_g d_int))))))) (w_or1 (t_cmp (op_inAll hu65) sd_in (o_g d_bl) (o_g (d_fz (o_lc rfl sc.nd (i_seq (d_ix (o_b (pv 2)) (o_g d_int))) (blkOk_by (own := [("sign", 4)]) (N := ["machine", "signs", "told", "lines", "sign", "pair", "line", "number"]) (sc := defScope s_judge_reset) (by decide +kernel)) (fun _ _ _ _ _ => (g_name (i := 4) sc.nd rfl (by first | exact Or.inl rfl | exact Or.inr rfl))) (fun _ _ _ _ _ => c_nil) (fun _ _ _ _ _ => (d_cmp (op_inAll hu65) sd_in (o_b (pv 4)) (o_b (pv 1)) (by rfl)))))) (by rfl)))))
      (ss_one (s_ret d_bl))
      ss_nil)
      (ss_cons (s_setO (i := 3) sc.nd rfl (by first | exact Or.inl rfl | exact Or.inr rfl) (o_lrg1 rfl (by rfl) T.m_list (by rfl) T.m_range (o_g (d_b1 call_len sb_len (by rfl) T.m_len PySem.boot_len (o_b (pv 0))))))
      (ss_cons (s_for hp rfl (i_seq (d_ix (o_b (pv 2)) (o_g d_int))) (g_name (i := 4) sc.nd rfl (by first | exact Or.inl rfl | exact Or.inr rfl))
      (ss_one (s_setO (i := 3) sc.nd rfl (by first | exact Or.inl rfl | exact Or.inr rfl) (o_sortset rfl (by rfl) T.m_sorted (by rfl) T.m_set (o_g (d_fz (o_lc rfl sc.nd (i_seq (d_v (pv 3))) (blkOk_by (own := [("line", 6)]) (N := ["machine", "signs", "told", "lines", "sign", "pair", "line", "number"]) (sc := defScope s_judge_reset) (by decide +kernel)) (fun _ _ _ _ _ => (g_name (i := 6) sc.nd rfl (by first | exact Or.inl rfl | exact Or.inr rfl))) (fun _ _ _ _ _ => c_nil) (fun _ _ _ _ _ => (d_ix (o_g (d_ix (o_g (d_ix (o_b (pv 0)) (o_b (pv 6)))) (o_g d_int))) (o_g (d_sindex (d_v (pv 1)) (o_b (pv 4)))))))))))))
      (ss_one (s_ret (d_cmp (op_eqD hu64) sd_eq (o_g (d_b1 call_len sb_len (by rfl) T.m_len PySem.boot_len (o_b (pv 3)))) (o_g d_int) (nomark _)))))))
      ss_nil)
      (ss_cons (s_if (PW.pt (w_or (t_not (t_tru (o_g (d_isi kit_tuple (by rfl) T.m_isinstance (by rfl) T.m_tuple PyProof.Rows.boot_tuple (o_g (d_ix (o_b (pv 2)) (o_g d_int))))))) (w_or1 (t_cmp (op_eqD hu64) sd_eq (o_g (d_b1 call_len sb_len (by rfl) T.m_len PySem.boot_len (o_g (d_ix (o_b (pv 2)) (o_g d_int))))) (o_g d_int) (nomark _)))))
      (ss_one (s_ret d_bl))
      ss_nil)
      (ss_cons (s_for hp rfl (i_seq (d_ix (o_b (pv 2)) (o_g d_int))) (g_name (i := 5) sc.nd rfl (by first | exact Or.inl rfl | exact Or.inr rfl))
      (ss_cons (s_if (PW.pt (w_or (t_not (t_tru (o_g (d_isi kit_tuple (by rfl) T.m_isinstance (by rfl) T.m_tuple PyProof.Rows.boot_tuple (o_b (pv 5)))))) (w_or1 (t_cmp (op_neD hu64) sd_ne (o_g (d_b1 call_len sb_len (by rfl) T.m_len PySem.boot_len (o_b (pv 5)))) (o_g d_int) (nomark _)))))
      (ss_one (s_ret d_bl))
      ss_nil)
      (ss_one (s_if (PW.pt (w_or (t_cmp (op_inAll hu65) sd_in (o_g d_bl) (o_g (d_fz (o_lc rfl sc.nd (i_seq (d_v (pv 5))) (blkOk_by (own := [("line", 6)]) (N := ["machine", "signs", "told", "lines", "sign", "pair", "line", "number"]) (sc := defScope s_judge_reset) (by decide +kernel)) (fun _ _ _ _ _ => (g_name (i := 6) sc.nd rfl (by first | exact Or.inl rfl | exact Or.inr rfl))) (fun _ _ _ _ _ => c_nil) (fun _ _ _ _ _ => (d_call takes0 G_is_line (hr.mono (by omega)) (by rfl) T.g_is_line T.F_is_line.kp T.b_is_line (as_cons (a_g (d_v (pv 0))) (as_cons (a_g (d_v (pv 6))) as_nil))))))) (by rfl)) (w_or1 (t_cmp op_ge (sd_cmpI _) (o_g (d_ix (o_b (pv 5)) (o_g d_int))) (o_g (d_ix (o_b (pv 5)) (o_g d_int))) (nomark _)))))
      (ss_one (s_ret d_bl))
      ss_nil))))
      (ss_cons (s_for hp rfl (i_seq (d_ix (o_b (pv 2)) (o_g d_int))) (g_name (i := 5) sc.nd rfl (by first | exact Or.inl rfl | exact Or.inr rfl))
      (ss_one (s_if (t_cmp (op_inAll hu65) sd_in (o_g d_bl) (o_g (d_fz (o_lc rfl sc.nd (i_range1 (by rfl) T.m_range (o_g (d_b1 call_len sb_len (by rfl) T.m_len PySem.boot_len (o_b (pv 1))))) (blkOk_by (own := [("number", 7)]) (N := ["machine", "signs", "told", "lines", "sign", "pair", "line", "number"]) (sc := defScope s_judge_reset) (by decide +kernel)) (fun _ _ _ _ _ => (g_name (i := 7) sc.nd rfl (by first | exact Or.inl rfl | exact Or.inr rfl))) (fun _ _ _ _ _ => c_nil) (fun _ _ _ _ _ => (d_cmp (op_inAll hu65) sd_in (o_g (d_call takes0 G_pair_behind (hr.mono (by omega)) (by rfl) T.g_pair_behind T.F_pair_behind.kp T.b_pair_behind (as_cons (a_g (d_v (pv 0))) (as_cons (a_g (d_v (pv 7))) (as_cons (a_g (d_v (pv 5))) as_nil))))) (o_g (d_ix (o_b (pv 2)) (o_g d_int))) (by rfl)))))) (by rfl))
      (ss_one (s_ret d_bl))
      ss_nil)))
      (ss_one (s_ret d_bl)))))))
end K66
end
section
set_option Elab.async false
set_option linter.all false
set_option maxRecDepth 100000
namespace K66
open PySem PySem.Spec L2 DL
set_option maxHeartbeats 4000000 in
theorem ok__law_next {P : Program} {w : World} {K : PySem.W.Frag} {mg : Str → Option Value} {base : Heap} (T : Txt K mg) : FnOk P w K mg base (L2.CX P w) 1 T.a__law_next T.fd__law_next ["state", "limit"] (spF K (clM mg) 2 (F__law_next)) := by
  refine def_ok2 (g := g__law_next) (n := 4) (m := 2) T.F__law_next sc__law_next rfl rfl rfl (by decide) (fun cdv A outer s H E hr => ?_)
  have hp := passes_of (X := bx P w K mg base ["state", "limit", "cell", "value"] "_law_next" s__law_next T.a__law_next cdv A outer s H E) rfl
  have tk : Takes (bx P w K mg base ["state", "limit", "cell", "value"] "_law_next" s__law_next T.a__law_next cdv A outer s H E) (WF E) := takes_of rfl rfl rfl rfl
  obtain ⟨hu1, hu64, hu65, hu200⟩ := room_un hr
  have sc := sc__law_next
  unfold g__law_next
  exact (ss_cons (s_if (PW.pt (w_and (t_cmp (op_eqD hu64) sd_eq (o_g (d_ix (o_b (pv 0)) (o_g d_int))) (o_g d_int) (nomark _)) (w_and1 (t_cmp op_lt (sd_cmpI _) (o_g (d_ix (o_b (pv 0)) (o_g d_int))) (o_g (d_b1 call_len sb_len (by rfl) T.m_len PySem.boot_len (o_g (d_ix (o_b (pv 0)) (o_g d_int))))) (nomark _)))))
      (ss_cons (s_set (i := 2) sc.nd rfl (by first | exact Or.inl rfl | exact Or.inr rfl) (d_ix (o_g (d_ix (o_b (pv 0)) (o_g d_int))) (o_g (d_ix (o_b (pv 0)) (o_g d_int)))))
      (ss_cons (s_ixAug (pv 0) d_int d_int)
      (ss_one (s_if (t_cmp op_ge (sd_cmpI _) (o_b (pv 2)) (o_g (d_bin op_pow sd_pow (o_g d_int) (o_g d_int))) (nomark _))
      (ss_one (s_ix (pv 0) d_int (d_v (pv 2))))
      (ss_one (s_ix (pv 0) d_int (d_bin op_modN sd_mod (o_g (d_y1 call_int1 sb_int (by rfl) T.m_int PyProof.Rows.boot_int (o_g (d_bin op_addD sd_add (o_g (d_bin op_addD sd_add (o_g (d_bin op_mul sd_mul (o_g (d_ix (o_b (pv 0)) (o_g d_int))) (o_g d_int))) (o_g (d_bin op_modN sd_mod (o_g (d_y1 call_int1 sb_int (by rfl) T.m_int PyProof.Rows.boot_int (o_b (pv 2)))) (o_g d_int))))) (o_g d_int))))) (o_g d_int))))))))
      ss_nil)
      (ss_cons (s_if (t_cmp op_gt (sd_cmpI _) (o_g (d_ix (o_b (pv 0)) (o_g d_int))) (o_g d_int) (nomark _))
      (ss_cons (s_set (i := 3) sc.nd rfl (by first | exact Or.inl rfl | exact Or.inr rfl) (d_bin op_modN sd_mod (o_g (d_y1 call_int1 sb_int (by rfl) T.m_int PyProof.Rows.boot_int (o_g (d_ix (o_b (pv 0)) (o_g d_int))))) (o_b (pv 1))))
      (ss_cons (s_ix (pv 0) d_int (d_bin op_fdivN sd_fdiv (o_g (d_ix (o_b (pv 0)) (o_g d_int))) (o_b (pv 1))))
      (ss_one (s_ret (d_v (pv 3))))))
      ss_nil)
      (ss_cons (s_ix (pv 0) d_int (d_bin op_modN sd_mod (o_g (d_y1 call_int1 sb_int (by rfl) T.m_int PyProof.Rows.boot_int (o_g (d_bin op_addD sd_add (o_g (d_bin op_mul sd_mul (o_g (d_ix (o_b (pv 0)) (o_g d_int))) (o_g d_int))) (o_g d_int))))) (o_g d_int)))
      (ss_one (s_ret (d_bin op_modN sd_mod (o_g (d_y1 call_int1 sb_int (by rfl) T.m_int PyProof.Rows.boot_int (o_g (d_bin op_fdivN sd_fdiv (o_g (d_ix (o_b (pv 0)) (o_g d_int))) (o_g d_int))))) (o_b (pv 1))))))))
end K66
end
section
set_option Elab.async false
set_option linter.all false
set_option maxRecDepth 100000
namespace K66
open PySem PySem.Spec L2 DL
set_option maxHeartbeats 4000000 in
theorem ok__law_same_k {P : Program} {w : World} {K : PySem.W.Frag} {mg : Str → Option Value} {base : Heap} (T : Txt K mg) : ∀ k, FnOk P w K mg base (L2.CX P w) (k + 1) T.a__law_same T.fd__law_same ["actual", "expected"] (spF K (clM mg) 2 (F__law_same k))
  | 0 => def_no
  | k + 1 => by
    have G__law_same := ok__law_same_k (P := P) (w := w) (base := base) T k
    refine def_ok2 (g := g__law_same (F__law_same k)) (n := 3) (m := 2) T.F__law_same sc__law_same rfl rfl rfl (by decide) (fun cdv A outer s H E hr => ?_)
    have hp := passes_of (X := bx P w K mg base ["actual", "expected", "k"] "_law_same" s__law_same T.a__law_same cdv A outer s H E) rfl
    have tk : Takes (bx P w K mg base ["actual", "expected", "k"] "_law_same" s__law_same T.a__law_same cdv A outer s H E) (WF E) := takes_of rfl rfl rfl rfl
    obtain ⟨hu1, hu64, hu65, hu200⟩ := room_un hr
    have sc := sc__law_same
    unfold g__law_same
    exact (ss_cons (s_if (t_cmp op_isN sd_isN (o_b (pv 1)) (o_g d_non) (nomark _))
      (ss_one (s_ret (d_cmp op_isN sd_isN (o_b (pv 0)) (o_g d_non) (nomark _))))
      ss_nil)
      (ss_cons (s_if (t_tru (o_g (d_isi kit_bool (by rfl) T.m_isinstance (by rfl) T.m_bool PyProof.Rows.boot_bool (o_b (pv 1)))))
      (ss_one (s_ret (d_and (d_isi kit_bool (by rfl) T.m_isinstance (by rfl) T.m_bool PyProof.Rows.boot_bool (o_b (pv 0))) (d_one (d_cmp (op_eqD hu64) sd_eq (o_b (pv 0)) (o_b (pv 1)) (nomark _))))))
      ss_nil)
      (ss_cons (s_if (t_tru (o_g (d_isi kit_int (by rfl) T.m_isinstance (by rfl) T.m_int PyProof.Rows.boot_int (o_b (pv 1)))))
      (ss_one (s_ret (d_and (d_isi kit_int (by rfl) T.m_isinstance (by rfl) T.m_int PyProof.Rows.boot_int (o_b (pv 0))) (d_and (d_not (d_isi kit_bool (by rfl) T.m_isinstance (by rfl) T.m_bool PyProof.Rows.boot_bool (o_b (pv 0)))) (d_one (d_cmp (op_eqD hu64) sd_eq (o_b (pv 0)) (o_b (pv 1)) (nomark _)))))))
      ss_nil)
      (ss_cons (s_if (t_tru (o_g (d_isi kit_str (by rfl) T.m_isinstance (by rfl) T.m_str PyProof.Rows.boot_str (o_b (pv 1)))))
      (ss_one (s_ret (d_and (d_isi kit_str (by rfl) T.m_isinstance (by rfl) T.m_str PyProof.Rows.boot_str (o_b (pv 0))) (d_one (d_cmp (op_eqD hu64) sd_eq (o_b (pv 0)) (o_b (pv 1)) (nomark _))))))
      ss_nil)
      (ss_cons (s_if (PW.pt (w_and (t_tru (o_g (d_isi kit_tuple (by rfl) T.m_isinstance (by rfl) T.m_tuple PyProof.Rows.boot_tuple (o_b (pv 1))))) (w_and1 (t_not (t_tru (o_g (d_isi kit_tuple (by rfl) T.m_isinstance (by rfl) T.m_tuple PyProof.Rows.boot_tuple (o_b (pv 0)))))))))
      (ss_one (s_ret d_bl))
      ss_nil)
      (ss_cons (s_if (PW.pt (w_and (t_tru (o_g (d_isi kit_list (by rfl) T.m_isinstance (by rfl) T.m_list PyProof.Rows.boot_list (o_b (pv 1))))) (w_and1 (t_not (t_tru (o_g (d_isi kit_list (by rfl) T.m_isinstance (by rfl) T.m_list PyProof.Rows.boot_list (o_b (pv 0)))))))))
      (ss_one (s_ret d_bl))
      ss_nil)
      (ss_cons (s_if (t_cmp (op_neD hu64) sd_ne (o_g (d_b1 call_len sb_len (by rfl) T.m_len PySem.boot_len (o_b (pv 0)))) (o_g (d_b1 call_len sb_len (by rfl) T.m_len PySem.boot_len (o_b (pv 1)))) (nomark _))
      (ss_one (s_ret d_bl))
      ss_nil)
      (ss_cons (s_for hp rfl (i_range1 (by rfl) T.m_range (o_g (d_b1 call_len sb_len (by rfl) T.m_len PySem.boot_len (o_b (pv 1))))) (g_name (i := 2) sc.nd rfl (by first | exact Or.inl rfl | exact Or.inr rfl))
      (ss_one (s_if (t_not (t_tru (o_g (d_call tk G__law_same (hr.mono (by omega)) (by rfl) T.g__law_same T.F__law_same.kp T.b__law_same (as_cons (a_g (d_ix (o_b (pv 0)) (o_b (pv 2)))) (as_cons (a_g (d_ix (o_b (pv 1)) (o_b (pv 2)))) as_nil))))))
      (ss_one (s_ret d_bl))
      ss_nil)))
      (ss_one (s_ret d_bl))))))))))
theorem ok__law_same {P : Program} {w : World} {K : PySem.W.Frag} {mg : Str → Option Value} {base : Heap} (T : Txt K mg) : FnOk P w K mg base (L2.CX P w) 7 T.a__law_same T.fd__law_same ["actual", "expected"] (spF K (clM mg) 2 (F__law_same 6)) := ok__law_same_k T 6
end K66
end
section
set_option Elab.async false
set_option linter.all false
set_option maxRecDepth 100000
namespace K66
open PySem PySem.Spec L2 DL
set_option maxHeartbeats 4000000 in
theorem ok__law_signs {P : Program} {w : World} {K : PySem.W.Frag} {mg : Str → Option Value} {base : Heap} (T : Txt K mg) : FnOk P w K mg base (L2.CX P w) 2 T.a__law_signs T.fd__law_signs ["state"] (spF K (clM mg) 1 (F__law_signs)) := by
  have G__law_next := ok__law_next (P := P) (w := w) (base := base) T
  refine def_ok2 (g := g__law_signs) (n := 5) (m := 1) T.F__law_signs sc__law_signs rfl rfl rfl (by decide) (fun cdv A outer s H E hr => ?_)
  have hp := passes_of (X := bx P w K mg base ["state", "letters", "found", "k", "place"] "_law_signs" s__law_signs T.a__law_signs cdv A outer s H E) rfl
  have tk : Takes (bx P w K mg base ["state", "letters", "found", "k", "place"] "_law_signs" s__law_signs T.a__law_signs cdv A outer s H E) (WF E) := takes_of rfl rfl rfl rfl
  obtain ⟨hu1, hu64, hu65, hu200⟩ := room_un hr
  have sc := sc__law_signs
  unfold g__law_signs
  exact (ss_cons (s_set (i := 1) sc.nd rfl (by first | exact Or.inl rfl | exact Or.inr rfl) d_str)
      (ss_cons (s_setO (i := 2) sc.nd rfl (by first | exact Or.inl rfl | exact Or.inr rfl) (o_lst l_nil))
      (ss_cons (s_for hp rfl (i_range1 (by rfl) T.m_range (o_g (d_ix (o_g (d_fz (o_lst (l_cons d_int (l_cons d_int (l_cons d_int (l_cons d_int (l_cons d_int (l_cons d_int (l_cons d_int (l_cons d_int l_nil))))))))))) (o_g (d_call tk G__law_next (hr.mono (by omega)) (by rfl) T.g__law_next T.F__law_next.kp T.b__law_next (as_cons (a_s (pv 0)) (as_cons (a_g d_int) as_nil))))))) (g_name (i := 3) sc.nd rfl (by first | exact Or.inl rfl | exact Or.inr rfl))
      (ss_cons (s_set (i := 4) sc.nd rfl (by first | exact Or.inl rfl | exact Or.inr rfl) (d_call tk G__law_next (hr.mono (by omega)) (by rfl) T.g__law_next T.F__law_next.kp T.b__law_next (as_cons (a_s (pv 0)) (as_cons (a_g d_int) as_nil))))
      (ss_cons (s_while 100 hp (t_cmp (op_inAll hu65) sd_in (o_g (d_ix (o_b (pv 1)) (o_b (pv 4)))) (o_b (pv 2)) (by rfl))
      (ss_one (s_set (i := 4) sc.nd rfl (by first | exact Or.inl rfl | exact Or.inr rfl) (d_bin op_modN sd_mod (o_g (d_bin op_addD sd_add (o_b (pv 4)) (o_g d_int))) (o_g d_int)))))
      (ss_one (s_mut PySem.F.slot_list_append PySem.F.type_list_append mt_append mu_app (pv 2) (d_ix (o_b (pv 1)) (o_b (pv 4))))))))
      (ss_one (s_ret (d_join d_str (o_g (d_fz (o_b1 (cr_sortedD hu200) sc_sorted (by rfl) T.m_sorted PyProof.Rows.boot_sorted (o_b (pv 2)))))))))))
end K66
end
section
set_option Elab.async false
set_option linter.all false
set_option maxRecDepth 100000
namespace K66
open PySem PySem.Spec L2 DL
set_option maxHeartbeats 4000000 in
theorem ok__law_machine {P : Program} {w : World} {K : PySem.W.Frag} {mg : Str → Option Value} {base : Heap} (T : Txt K mg) : FnOk P w K mg base (L2.CX P w) 2 T.a__law_machine T.fd__law_machine ["state", "signs"] (spF K (clM mg) 2 (F__law_machine)) := by
  have G__law_next := ok__law_next (P := P) (w := w) (base := base) T
  refine def_ok2 (g := g__law_machine) (n := 11) (m := 2) T.F__law_machine sc__law_machine rfl rfl rfl (by decide) (fun cdv A outer s H E hr => ?_)
  have hp := passes_of (X := bx P w K mg base ["state", "signs", "many", "kind", "steps", "lines", "line", "nexts", "k", "pick", "sign"] "_law_machine" s__law_machine T.a__law_machine cdv A outer s H E) rfl
  have tk : Takes (bx P w K mg base ["state", "signs", "many", "kind", "steps", "lines", "line", "nexts", "k", "pick", "sign"] "_law_machine" s__law_machine T.a__law_machine cdv A outer s H E) (WF E) := takes_of rfl rfl rfl rfl
  obtain ⟨hu1, hu64, hu65, hu200⟩ := room_un hr
  have sc := sc__law_machine
  unfold g__law_machine
  exact (ss_cons (s_set (i := 2) sc.nd rfl (by first | exact Or.inl rfl | exact Or.inr rfl) (d_bin op_addD sd_add (o_g d_int) (o_g (d_call tk G__law_next (hr.mono (by omega)) (by rfl) T.g__law_next T.F__law_next.kp T.b__law_next (as_cons (a_s (pv 0)) (as_cons (a_g (d_ix (o_g (d_fz (o_lst (l_cons d_int (l_cons d_int (l_cons d_int (l_cons d_int l_nil))))))) (o_g (d_call tk G__law_next (hr.mono (by omega)) (by rfl) T.g__law_next T.F__law_next.kp T.b__law_next (as_cons (a_s (pv 0)) (as_cons (a_g d_int) as_nil)))))) as_nil))))))
      (ss_cons (s_set (i := 3) sc.nd rfl (by first | exact Or.inl rfl | exact Or.inr rfl) (d_call tk G__law_next (hr.mono (by omega)) (by rfl) T.g__law_next T.F__law_next.kp T.b__law_next (as_cons (a_s (pv 0)) (as_cons (a_g d_int) as_nil))))
      (ss_cons (s_setLc (i := 4) rfl sc.nd rfl rfl (sw_true rfl rfl rfl (by decide +kernel)) (i_seq (d_v (pv 1))) (blkOk_by (own := [("sign", 10)]) (N := ["state", "signs", "many", "kind", "steps", "lines", "line", "nexts", "k", "pick", "sign"]) (sc := defScope s__law_machine) (by decide +kernel)) (fun _ _ _ _ _ => (g_name (i := 10) sc.nd rfl (by first | exact Or.inl rfl | exact Or.inr rfl))) (fun _ _ _ _ _ => c_nil) (fun _ _ _ _ _ => (d_call takes0 G__law_next (hr.mono (by omega)) (by rfl) T.g__law_next T.F__law_next.kp T.b__law_next (as_cons (a_s (pv 0)) (as_cons (a_g (d_v (pv 2))) as_nil)))))
      (ss_cons (s_setO (i := 5) sc.nd rfl (by first | exact Or.inl rfl | exact Or.inr rfl) (o_lst l_nil))
      (ss_cons (s_for hp rfl (i_range1 (by rfl) T.m_range (o_b (pv 2))) (g_name (i := 6) sc.nd rfl (by first | exact Or.inl rfl | exact Or.inr rfl))
      (ss_cons (s_setO (i := 7) sc.nd rfl (by first | exact Or.inl rfl | exact Or.inr rfl) (o_lst l_nil))
      (ss_cons (s_for hp rfl (i_range1 (by rfl) T.m_range (o_g (d_b1 call_len sb_len (by rfl) T.m_len PySem.boot_len (o_b (pv 1))))) (g_name (i := 8) sc.nd rfl (by first | exact Or.inl rfl | exact Or.inr rfl))
      (ss_cons (s_set (i := 9) sc.nd rfl (by first | exact Or.inl rfl | exact Or.inr rfl) (d_call tk G__law_next (hr.mono (by omega)) (by rfl) T.g__law_next T.F__law_next.kp T.b__law_next (as_cons (a_s (pv 0)) (as_cons (a_g (d_v (pv 2))) as_nil))))
      (ss_cons (s_if (t_cmp (op_eqD hu64) sd_eq (o_b (pv 3)) (o_g d_int) (nomark _))
      (ss_one (s_set (i := 9) sc.nd rfl (by first | exact Or.inl rfl | exact Or.inr rfl) (d_b2 (call_max2 rfl) sb_max (by rfl) T.m_max PyProof.Rows.boot_max (o_b (pv 6)) (o_b (pv 9)))))
      (ss_one (s_if (t_cmp (op_eqD hu64) sd_eq (o_b (pv 3)) (o_g d_int) (nomark _))
      (ss_one (s_set (i := 9) sc.nd rfl (by first | exact Or.inl rfl | exact Or.inr rfl) (d_bin op_modN sd_mod (o_g (d_y1 call_int1 sb_int (by rfl) T.m_int PyProof.Rows.boot_int (o_g (d_bin op_addD sd_add (o_b (pv 6)) (o_g (d_ix (o_b (pv 4)) (o_b (pv 8)))))))) (o_b (pv 2)))))
      (ss_one (s_if (t_cmp (op_eqD hu64) sd_eq (o_b (pv 3)) (o_g d_int) (nomark _))
      (ss_one (s_set (i := 9) sc.nd rfl (by first | exact Or.inl rfl | exact Or.inr rfl) (d_b2 (call_min2 rfl) sb_min (by rfl) T.m_min PyProof.Rows.boot_min (o_g (d_bin op_sub sd_sub (o_b (pv 2)) (o_g d_int))) (o_g (d_bin op_addD sd_add (o_b (pv 6)) (o_g (d_y1 call_int1 sb_int (by rfl) T.m_int PyProof.Rows.boot_int (o_g (d_cmp op_gt (sd_cmpI _) (o_g (d_ix (o_b (pv 4)) (o_b (pv 8)))) (o_g d_int) (nomark _))))))))))
      (ss_one (s_if (t_cmp (op_eqD hu64) sd_eq (o_b (pv 3)) (o_g d_int) (nomark _))
      (ss_one (s_set (i := 9) sc.nd rfl (by first | exact Or.inl rfl | exact Or.inr rfl) (d_ix (o_g (d_fz (o_lst (l_cons (d_v (pv 6)) (l_cons (d_b2 (call_max2 rfl) sb_max (by rfl) T.m_max PyProof.Rows.boot_max (o_b (pv 6)) (o_b (pv 9))) l_nil))))) (o_g (d_call tk G__law_next (hr.mono (by omega)) (by rfl) T.g__law_next T.F__law_next.kp T.b__law_next (as_cons (a_s (pv 0)) (as_cons (a_g d_int) as_nil)))))))
      (ss_one (s_if (t_cmp (op_eqD hu64) sd_eq (o_b (pv 3)) (o_g d_int) (nomark _))
      (ss_one (s_set (i := 9) sc.nd rfl (by first | exact Or.inl rfl | exact Or.inr rfl) (d_ix (o_b (pv 4)) (o_b (pv 8)))))
      ss_nil)))))))))
      (ss_one (s_mut PySem.F.slot_list_append PySem.F.type_list_append mt_append mu_app (pv 7) (d_v (pv 9)))))))
      (ss_one (s_mut PySem.F.slot_list_append PySem.F.type_list_append mt_append mu_app (pv 5) (d_tup (l_cons (d_cmp (op_eqD hu64) sd_eq (o_g (d_call tk G__law_next (hr.mono (by omega)) (by rfl) T.g__law_next T.F__law_next.kp T.b__law_next (as_cons (a_s (pv 0)) (as_cons (a_g d_int) as_nil)))) (o_g d_int) (nomark _)) (l_cons (d_y1 call_tuple_of sb_tup (by rfl) T.m_tuple PyProof.Rows.boot_tuple (o_b (pv 7))) l_nil))))))))
      (ss_one (s_ret (d_y1 call_tuple_of sb_tup (by rfl) T.m_tuple PyProof.Rows.boot_tuple (o_b (pv 5))))))))))
end K66
end
section
set_option Elab.async false
set_option linter.all false
set_option maxRecDepth 100000
namespace K66
open PySem PySem.Spec L2 DL
set_option maxHeartbeats 4000000 in
theorem ok__law_line {P : Program} {w : World} {K : PySem.W.Frag} {mg : Str → Option Value} {base : Heap} (T : Txt K mg) : FnOk P w K mg base (L2.CX P w) 1 T.a__law_line T.fd__law_line ["machine", "signs", "line", "row"] (spF K (clM mg) 4 (F__law_line)) := by
  refine def_ok2 (g := g__law_line) (n := 5) (m := 4) T.F__law_line sc__law_line rfl rfl rfl (by decide) (fun cdv A outer s H E hr => ?_)
  have hp := passes_of (X := bx P w K mg base ["machine", "signs", "line", "row", "sign"] "_law_line" s__law_line T.a__law_line cdv A outer s H E) rfl
  have tk : Takes (bx P w K mg base ["machine", "signs", "line", "row", "sign"] "_law_line" s__law_line T.a__law_line cdv A outer s H E) (WF E) := takes_of rfl rfl rfl rfl
  obtain ⟨hu1, hu64, hu65, hu200⟩ := room_un hr
  have sc := sc__law_line
  unfold g__law_line
  exact (ss_cons (s_for hp rfl (i_seq (d_v (pv 3))) (g_name (i := 4) sc.nd rfl (by first | exact Or.inl rfl | exact Or.inr rfl))
      (ss_one (s_set (i := 2) sc.nd rfl (by first | exact Or.inl rfl | exact Or.inr rfl) (d_ix (o_g (d_ix (o_g (d_ix (o_b (pv 0)) (o_b (pv 2)))) (o_g d_int))) (o_g (d_sindex (d_v (pv 1)) (o_b (pv 4))))))))
      (ss_one (s_ret (d_v (pv 2)))))
end K66
end
section
set_option Elab.async false
set_option linter.all false
set_option maxRecDepth 100000
namespace K66
open PySem PySem.Spec L2 DL
set_option maxHeartbeats 4000000 in
theorem ok__law_row {P : Program} {w : World} {K : PySem.W.Frag} {mg : Str → Option Value} {base : Heap} (T : Txt K mg) : FnOk P w K mg base (L2.CX P w) 2 T.a__law_row T.fd__law_row ["state", "signs", "most"] (spF K (clM mg) 3 (F__law_row)) := by
  have G__law_next := ok__law_next (P := P) (w := w) (base := base) T
  refine def_ok2 (g := g__law_row) (n := 4) (m := 3) T.F__law_row sc__law_row rfl rfl rfl (by decide) (fun cdv A outer s H E hr => ?_)
  have hp := passes_of (X := bx P w K mg base ["state", "signs", "most", "k"] "_law_row" s__law_row T.a__law_row cdv A outer s H E) rfl
  have tk : Takes (bx P w K mg base ["state", "signs", "most", "k"] "_law_row" s__law_row T.a__law_row cdv A outer s H E) (WF E) := takes_of rfl rfl rfl rfl
  obtain ⟨hu1, hu64, hu65, hu200⟩ := room_un hr
  have sc := sc__law_row
  unfold g__law_row
  exact (ss_one (s_ret (d_join d_str (o_g (d_fz (o_lc rfl sc.nd (i_range1 (by rfl) T.m_range (o_g (d_call tk G__law_next (hr.mono (by omega)) (by rfl) T.g__law_next T.F__law_next.kp T.b__law_next (as_cons (a_s (pv 0)) (as_cons (a_g (d_bin op_addD sd_add (o_b (pv 2)) (o_g d_int))) as_nil))))) (blkOk_by (own := [("k", 3)]) (N := ["state", "signs", "most", "k"]) (sc := defScope s__law_row) (by decide +kernel)) (fun _ _ _ _ _ => (g_name (i := 3) sc.nd rfl (by first | exact Or.inl rfl | exact Or.inr rfl))) (fun _ _ _ _ _ => c_nil) (fun _ _ _ _ _ => (d_ix (o_b (pv 1)) (o_g (d_call takes0 G__law_next (hr.mono (by omega)) (by rfl) T.g__law_next T.F__law_next.kp T.b__law_next (as_cons (a_s (pv 0)) (as_cons (a_g (d_b1 call_len sb_len (by rfl) T.m_len PySem.boot_len (o_b (pv 1)))) as_nil))))))))))))
end K66
end
section
set_option Elab.async false
set_option linter.all false
set_option maxRecDepth 100000
namespace K66
open PySem PySem.Spec L2 DL
set_option maxHeartbeats 4000000 in
theorem ok__law_behind {P : Program} {w : World} {K : PySem.W.Frag} {mg : Str → Option Value} {base : Heap} (T : Txt K mg) : FnOk P w K mg base (L2.CX P w) 1 T.a__law_behind T.fd__law_behind ["machine", "k", "pair"] (spF K (clM mg) 3 (F__law_behind)) := by
  refine def_ok2 (g := g__law_behind) (n := 4) (m := 3) T.F__law_behind sc__law_behind rfl rfl rfl (by decide) (fun cdv A outer s H E hr => ?_)
  have hp := passes_of (X := bx P w K mg base ["machine", "k", "pair", "line"] "_law_behind" s__law_behind T.a__law_behind cdv A outer s H E) rfl
  have tk : Takes (bx P w K mg base ["machine", "k", "pair", "line"] "_law_behind" s__law_behind T.a__law_behind cdv A outer s H E) (WF E) := takes_of rfl rfl rfl rfl
  obtain ⟨hu1, hu64, hu65, hu200⟩ := room_un hr
  have sc := sc__law_behind
  unfold g__law_behind
  exact (ss_one (s_ret (d_y1 call_tuple_of sb_tup (by rfl) T.m_tuple PyProof.Rows.boot_tuple (o_g (d_fz (o_b1 (cr_sortedD hu200) sc_sorted (by rfl) T.m_sorted PyProof.Rows.boot_sorted (o_g (d_fz (o_lc rfl sc.nd (i_seq (d_v (pv 2))) (blkOk_by (own := [("line", 3)]) (N := ["machine", "k", "pair", "line"]) (sc := defScope s__law_behind) (by decide +kernel)) (fun _ _ _ _ _ => (g_name (i := 3) sc.nd rfl (by first | exact Or.inl rfl | exact Or.inr rfl))) (fun _ _ _ _ _ => c_nil) (fun _ _ _ _ _ => (d_ix (o_g (d_ix (o_g (d_ix (o_b (pv 0)) (o_b (pv 3)))) (o_g d_int))) (o_b (pv 1)))))))))))))
end K66
end
section
set_option Elab.async false
set_option linter.all false
set_option maxRecDepth 100000
namespace K66
open PySem PySem.Spec L2 DL
set_option maxHeartbeats 4000000 in
theorem ok__law_meeting {P : Program} {w : World} {K : PySem.W.Frag} {mg : Str → Option Value} {base : Heap} (T : Txt K mg) : FnOk P w K mg base (L2.CX P w) 2 T.a__law_meeting T.fd__law_meeting ["machine", "signs"] (spF K (clM mg) 2 (F__law_meeting)) := by
  have G__law_behind := ok__law_behind (P := P) (w := w) (base := base) T
  refine def_ok2 (g := g__law_meeting) (n := 12) (m := 2) T.F__law_meeting sc__law_meeting rfl rfl rfl (by decide) (fun cdv A outer s H E hr => ?_)
  have hp := passes_of (X := bx P w K mg base ["machine", "signs", "pairs", "q", "meet", "turned", "more", "pair", "ends", "p", "k", "end"] "_law_meeting" s__law_meeting T.a__law_meeting cdv A outer s H E) rfl
  have tk : Takes (bx P w K mg base ["machine", "signs", "pairs", "q", "meet", "turned", "more", "pair", "ends", "p", "k", "end"] "_law_meeting" s__law_meeting T.a__law_meeting cdv A outer s H E) (WF E) := takes_of rfl rfl rfl rfl
  obtain ⟨hu1, hu64, hu65, hu200⟩ := room_un hr
  have sc := sc__law_meeting
  unfold g__law_meeting
  exact (ss_cons (s_setO (i := 2) sc.nd rfl (by first | exact Or.inl rfl | exact Or.inr rfl) (o_lst l_nil))
      (ss_cons (s_for hp rfl (i_range1 (by rfl) T.m_range (o_g (d_b1 call_len sb_len (by rfl) T.m_len PySem.boot_len (o_b (pv 0))))) (g_name (i := 3) sc.nd rfl (by first | exact Or.inl rfl | exact Or.inr rfl))
      (ss_one (s_setO (i := 2) sc.nd rfl (by first | exact Or.inl rfl | exact Or.inr rfl) (o_bin op_cat so_cat (o_b (pv 2)) (o_g (d_fz (o_lc rfl sc.nd (i_range1 (by rfl) T.m_range (o_b (pv 3))) (blkOk_by (own := [("p", 9)]) (N := ["machine", "signs", "pairs", "q", "meet", "turned", "more", "pair", "ends", "p", "k", "end"]) (sc := defScope s__law_meeting) (by decide +kernel)) (fun _ _ _ _ _ => (g_name (i := 9) sc.nd rfl (by first | exact Or.inl rfl | exact Or.inr rfl))) (fun _ _ _ _ _ => c_nil) (fun _ _ _ _ _ => (d_tup (l_cons (d_v (pv 9)) (l_cons (d_v (pv 3)) l_nil)))))))))))
      (ss_cons (s_setO (i := 4) sc.nd rfl (by first | exact Or.inl rfl | exact Or.inr rfl) (o_lst l_nil))
      (ss_cons (s_set (i := 5) sc.nd rfl (by first | exact Or.inl rfl | exact Or.inr rfl) d_bl)
      (ss_cons (s_while 1000 hp (t_tru (o_b (pv 5)))
      (ss_cons (s_setO (i := 6) sc.nd rfl (by first | exact Or.inl rfl | exact Or.inr rfl) (o_lst l_nil))
      (ss_cons (s_for hp rfl (i_seq (d_v (pv 2))) (g_name (i := 7) sc.nd rfl (by first | exact Or.inl rfl | exact Or.inr rfl))
      (ss_cons (s_setLc (i := 8) rfl sc.nd rfl rfl (sw_true rfl rfl rfl (by decide +kernel)) (i_range1 (by rfl) T.m_range (o_g (d_b1 call_len sb_len (by rfl) T.m_len PySem.boot_len (o_b (pv 1))))) (blkOk_by (own := [("k", 10)]) (N := ["machine", "signs", "pairs", "q", "meet", "turned", "more", "pair", "ends", "p", "k", "end"]) (sc := defScope s__law_meeting) (by decide +kernel)) (fun _ _ _ _ _ => (g_name (i := 10) sc.nd rfl (by first | exact Or.inl rfl | exact Or.inr rfl))) (fun _ _ _ _ _ => c_nil) (fun _ _ _ _ _ => (d_call takes0 G__law_behind (hr.mono (by omega)) (by rfl) T.g__law_behind T.F__law_behind.kp T.b__law_behind (as_cons (a_g (d_v (pv 0))) (as_cons (a_g (d_v (pv 10))) (as_cons (a_g (d_v (pv 7))) as_nil))))))
      (ss_one (s_if (PW.pt (w_and (t_cmp (op_notInAll hu65) sd_notIn (o_b (pv 7)) (o_b (pv 4)) (by rfl)) (w_and1 (t_cmp (op_neD hu64) sd_ne (o_g (d_fz (o_lc rfl sc.nd (i_seq (d_v (pv 8))) (blkOk_by (own := [("end", 11)]) (N := ["machine", "signs", "pairs", "q", "meet", "turned", "more", "pair", "ends", "p", "k", "end"]) (sc := defScope s__law_meeting) (by decide +kernel)) (fun _ _ _ _ _ => (g_name (i := 11) sc.nd rfl (by first | exact Or.inl rfl | exact Or.inr rfl))) (fun _ _ _ _ _ => (c_one (PW.pt (w_or (t_cmp (op_eqD hu64) sd_eq (o_g (d_ix (o_b (pv 11)) (o_g d_int))) (o_g (d_ix (o_b (pv 11)) (o_g d_int))) (nomark _)) (w_or1 (t_cmp (op_inAll hu65) sd_in (o_b (pv 11)) (o_b (pv 4)) (by rfl))))))) (fun _ _ _ _ _ => (d_v (pv 11)))))) (o_g (d_fz (o_lst l_nil))) (nomark _)))))
      (ss_one (s_mut PySem.F.slot_list_append PySem.F.type_list_append mt_append mu_app (pv 6) (d_v (pv 7))))
      ss_nil))))
      (ss_cons (s_setO (i := 4) sc.nd rfl (by first | exact Or.inl rfl | exact Or.inr rfl) (o_bin op_cat so_cat (o_b (pv 4)) (o_b (pv 6))))
      (ss_one (s_set (i := 5) sc.nd rfl (by first | exact Or.inl rfl | exact Or.inr rfl) (d_cmp (op_neD hu64) sd_ne (o_b (pv 6)) (o_g (d_fz (o_lst l_nil))) (nomark _))))))))
      (ss_one (s_ret (d_fz (o_lc rfl sc.nd (i_seq (d_fz (o_b1 (cr_sortedD hu200) sc_sorted (by rfl) T.m_sorted PyProof.Rows.boot_sorted (o_b (pv 2))))) (blkOk_by (own := [("pair", 7)]) (N := ["machine", "signs", "pairs", "q", "meet", "turned", "more", "pair", "ends", "p", "k", "end"]) (sc := defScope s__law_meeting) (by decide +kernel)) (fun _ _ _ _ _ => (g_name (i := 7) sc.nd rfl (by first | exact Or.inl rfl | exact Or.inr rfl))) (fun _ _ _ _ _ => (c_one (t_cmp (op_notInAll hu65) sd_notIn (o_b (pv 7)) (o_b (pv 4)) (by rfl)))) (fun _ _ _ _ _ => (d_v (pv 7))))))))))))
end K66
end
section
set_option Elab.async false
set_option linter.all false
set_option maxRecDepth 100000
namespace K66
open PySem PySem.Spec L2 DL
set_option maxHeartbeats 4000000 in
theorem ok__law_least_reset {P : Program} {w : World} {K : PySem.W.Frag} {mg : Str → Option Value} {base : Heap} (T : Txt K mg) : FnOk P w K mg base (L2.CX P w) 1 T.a__law_least_reset T.fd__law_least_reset ["machine", "signs"] (spF K (clM mg) 2 (F__law_least_reset)) := by
  refine def_ok2 (g := g__law_least_reset) (n := 9) (m := 2) T.F__law_least_reset sc__law_least_reset rfl rfl rfl (by decide) (fun cdv A outer s H E hr => ?_)
  have hp := passes_of (X := bx P w K mg base ["machine", "signs", "front", "met", "behind", "lines", "row", "k", "line"] "_law_least_reset" s__law_least_reset T.a__law_least_reset cdv A outer s H E) rfl
  have tk : Takes (bx P w K mg base ["machine", "signs", "front", "met", "behind", "lines", "row", "k", "line"] "_law_least_reset" s__law_least_reset T.a__law_least_reset cdv A outer s H E) (WF E) := takes_of rfl rfl rfl rfl
  obtain ⟨hu1, hu64, hu65, hu200⟩ := room_un hr
  have sc := sc__law_least_reset
  unfold g__law_least_reset
  exact (ss_cons (s_setO (i := 2) sc.nd rfl (by first | exact Or.inl rfl | exact Or.inr rfl) (o_lst (l_cons (d_tup (l_cons (d_fz (o_lrg1 rfl (by rfl) T.m_list (by rfl) T.m_range (o_g (d_b1 call_len sb_len (by rfl) T.m_len PySem.boot_len (o_b (pv 0)))))) (l_cons d_str l_nil))) l_nil)))
      (ss_cons (s_setO (i := 3) sc.nd rfl (by first | exact Or.inl rfl | exact Or.inr rfl) o_newT)
      (ss_cons (s_while 100000 hp (t_cmp (op_neD hu64) sd_ne (o_b (pv 2)) (o_g (d_fz (o_lst l_nil))) (nomark _))
      (ss_cons (s_setO (i := 4) sc.nd rfl (by first | exact Or.inl rfl | exact Or.inr rfl) (o_lst l_nil))
      (ss_cons (s_for hp rfl (i_seq (d_v (pv 2))) (g_tup rfl (gs_cons (g_name (i := 5) sc.nd rfl (by first | exact Or.inl rfl | exact Or.inr rfl)) (gs_cons (g_name (i := 6) sc.nd rfl (by first | exact Or.inl rfl | exact Or.inr rfl)) gs_nil)))
      (ss_cons (s_if (t_cmp (op_eqD hu64) sd_eq (o_g (d_b1 call_len sb_len (by rfl) T.m_len PySem.boot_len (o_b (pv 5)))) (o_g d_int) (nomark _))
      (ss_one (s_ret (d_v (pv 6))))
      ss_nil)
      (ss_one (s_if (t_dnin hu1 (d_y1 call_tuple_of sb_tup (by rfl) T.m_tuple PyProof.Rows.boot_tuple (o_b (pv 5))) (pv 3))
      (ss_cons (s_dput hu1 (pv 3) (d_y1 call_tuple_of sb_tup (by rfl) T.m_tuple PyProof.Rows.boot_tuple (o_b (pv 5))) d_bl)
      (ss_one (s_for hp rfl (i_range1 (by rfl) T.m_range (o_g (d_b1 call_len sb_len (by rfl) T.m_len PySem.boot_len (o_b (pv 1))))) (g_name (i := 7) sc.nd rfl (by first | exact Or.inl rfl | exact Or.inr rfl))
      (ss_one (s_mut PySem.F.slot_list_append PySem.F.type_list_append mt_append mu_app (pv 4) (d_tup (l_cons (d_fz (o_sortset rfl (by rfl) T.m_sorted (by rfl) T.m_set (o_g (d_fz (o_lc rfl sc.nd (i_seq (d_v (pv 5))) (blkOk_by (own := [("line", 8)]) (N := ["machine", "signs", "front", "met", "behind", "lines", "row", "k", "line"]) (sc := defScope s__law_least_reset) (by decide +kernel)) (fun _ _ _ _ _ => (g_name (i := 8) sc.nd rfl (by first | exact Or.inl rfl | exact Or.inr rfl))) (fun _ _ _ _ _ => c_nil) (fun _ _ _ _ _ => (d_ix (o_g (d_ix (o_g (d_ix (o_b (pv 0)) (o_b (pv 8)))) (o_g d_int))) (o_b (pv 7))))))))) (l_cons (d_bin op_addD sd_add (o_b (pv 6)) (o_g (d_ix (o_b (pv 1)) (o_b (pv 7))))) l_nil))))))))
      ss_nil))))
      (ss_one (s_set (i := 2) sc.nd rfl (by first | exact Or.inl rfl | exact Or.inr rfl) (d_v (pv 4)))))))
      (ss_one (s_ret d_non)))))
end K66
end
section
set_option Elab.async false
set_option linter.all false
set_option maxRecDepth 100000
namespace K66
open PySem PySem.Spec L2 DL
set_option maxHeartbeats 4000000 in
theorem ok__law_is_line {P : Program} {w : World} {K : PySem.W.Frag} {mg : Str → Option Value} {base : Heap} (T : Txt K mg) : FnOk P w K mg base (L2.CX P w) 1 T.a__law_is_line T.fd__law_is_line ["machine", "value"] (spF K (clM mg) 2 (F__law_is_line)) := by
  refine def_ok2 (g := g__law_is_line) (n := 2) (m := 2) T.F__law_is_line sc__law_is_line rfl rfl rfl (by decide) (fun cdv A outer s H E hr => ?_)
  have hp := passes_of (X := bx P w K mg base ["machine", "value"] "_law_is_line" s__law_is_line T.a__law_is_line cdv A outer s H E) rfl
  have tk : Takes (bx P w K mg base ["machine", "value"] "_law_is_line" s__law_is_line T.a__law_is_line cdv A outer s H E) (WF E) := takes_of rfl rfl rfl rfl
  obtain ⟨hu1, hu64, hu65, hu200⟩ := room_un hr
  have sc := sc__law_is_line
  unfold g__law_is_line
  exact (ss_one (s_ret (d_and (d_isi kit_int (by rfl) T.m_isinstance (by rfl) T.m_int PyProof.Rows.boot_int (o_b (pv 1))) (d_and (d_not (d_isi kit_bool (by rfl) T.m_isinstance (by rfl) T.m_bool PyProof.Rows.boot_bool (o_b (pv 1)))) (d_one (d_chain op_le (sd_cmpI _) op_lt (sd_cmpI _) (o_g d_int) (o_b (pv 1)) (o_g (d_b1 call_len sb_len (by rfl) T.m_len PySem.boot_len (o_b (pv 0))))))))))
end K66
end
section
set_option Elab.async false
set_option linter.all false
set_option maxRecDepth 100000
namespace K66
open PySem PySem.Spec L2 DL
set_option maxHeartbeats 4000000 in
theorem ok__law_accepts {P : Program} {w : World} {K : PySem.W.Frag} {mg : Str → Option Value} {base : Heap} (T : Txt K mg) : FnOk P w K mg base (L2.CX P w) 2 T.a__law_accepts T.fd__law_accepts ["machine", "signs", "told"] (spF K (clM mg) 3 (F__law_accepts)) := by
  have G__law_line := ok__law_line (P := P) (w := w) (base := base) T
  have G__law_is_line := ok__law_is_line (P := P) (w := w) (base := base) T
  have G__law_behind := ok__law_behind (P := P) (w := w) (base := base) T
  refine def_ok2 (g := g__law_accepts) (n := 8) (m := 3) T.F__law_accepts sc__law_accepts rfl rfl rfl (by decide) (fun cdv A outer s H E hr => ?_)
  have hp := passes_of (X := bx P w K mg base ["machine", "signs", "told", "paper", "pair", "sign", "line", "k"] "_law_accepts" s__law_accepts T.a__law_accepts cdv A outer s H E) rfl
  have tk : Takes (bx P w K mg base ["machine", "signs", "told", "paper", "pair", "sign", "line", "k"] "_law_accepts" s__law_accepts T.a__law_accepts cdv A outer s H E) (WF E) := takes_of rfl rfl rfl rfl
  obtain ⟨hu1, hu64, hu65, hu200⟩ := room_un hr
  have sc := sc__law_accepts
  unfold g__law_accepts
  exact (ss_cons (s_if (PW.pt (w_or (t_not (t_tru (o_g (d_isi kit_tuple (by rfl) T.m_isinstance (by rfl) T.m_tuple PyProof.Rows.boot_tuple (o_b (pv 2)))))) (w_or (t_cmp (op_neD hu64) sd_ne (o_g (d_b1 call_len sb_len (by rfl) T.m_len PySem.boot_len (o_b (pv 2)))) (o_g d_int) (nomark _)) (w_or1 (t_cmp (op_notInAll hu65) sd_notIn (o_g (d_ix (o_b (pv 2)) (o_g d_int))) (o_g (d_fz (o_lst (l_cons d_str (l_cons d_str l_nil))))) (by rfl))))))
      (ss_one (s_ret d_bl))
      ss_nil)
      (ss_cons (s_set (i := 3) sc.nd rfl (by first | exact Or.inl rfl | exact Or.inr rfl) (d_ix (o_b (pv 2)) (o_g d_int)))
      (ss_cons (s_if (t_cmp (op_eqD hu64) sd_eq (o_g (d_ix (o_b (pv 2)) (o_g d_int))) (o_g d_str) (nomark _))
      (ss_cons (s_if (PW.pt (w_or (t_not (t_tru (o_g (d_isi kit_str (by rfl) T.m_isinstance (by rfl) T.m_str PyProof.Rows.boot_str (o_b (pv 3)))))) (w_or1 (t_cmp (op_neD hu64) sd_ne (o_g (d_fz (o_lc rfl sc.nd (i_seq (d_v (pv 3))) (blkOk_by (own := [("sign", 5)]) (N := ["machine", "signs", "told", "paper", "pair", "sign", "line", "k"]) (sc := defScope s__law_accepts) (by decide +kernel)) (fun _ _ _ _ _ => (g_name (i := 5) sc.nd rfl (by first | exact Or.inl rfl | exact Or.inr rfl))) (fun _ _ _ _ _ => (c_one (t_cmp (op_notInAll hu65) sd_notIn (o_b (pv 5)) (o_b (pv 1)) (by rfl)))) (fun _ _ _ _ _ => (d_v (pv 5)))))) (o_g (d_fz (o_lst l_nil))) (nomark _)))))
      (ss_one (s_ret d_bl))
      ss_nil)
      (ss_one (s_ret (d_cmp (op_eqD hu64) sd_eq (o_g (d_lenset rfl (by rfl) T.m_len (by rfl) T.m_set (o_g (d_fz (o_lc rfl sc.nd (i_range1 (by rfl) T.m_range (o_g (d_b1 call_len sb_len (by rfl) T.m_len PySem.boot_len (o_b (pv 0))))) (blkOk_by (own := [("line", 6)]) (N := ["machine", "signs", "told", "paper", "pair", "sign", "line", "k"]) (sc := defScope s__law_accepts) (by decide +kernel)) (fun _ _ _ _ _ => (g_name (i := 6) sc.nd rfl (by first | exact Or.inl rfl | exact Or.inr rfl))) (fun _ _ _ _ _ => c_nil) (fun _ _ _ _ _ => (d_call takes0 G__law_line (hr.mono (by omega)) (by rfl) T.g__law_line T.F__law_line.kp T.b__law_line (as_cons (a_g (d_v (pv 0))) (as_cons (a_g (d_v (pv 1))) (as_cons (a_g (d_v (pv 6))) (as_cons (a_g (d_v (pv 3))) as_nil))))))))))) (o_g d_int) (nomark _)))))
      ss_nil)
      (ss_cons (s_if (PW.pt (w_or (t_not (t_tru (o_g (d_isi kit_tuple (by rfl) T.m_isinstance (by rfl) T.m_tuple PyProof.Rows.boot_tuple (o_b (pv 3)))))) (w_or1 (t_cmp (op_eqD hu64) sd_eq (o_b (pv 3)) (o_g (d_tup l_nil)) (nomark _)))))
      (ss_one (s_ret d_bl))
      ss_nil)
      (ss_cons (s_for hp rfl (i_seq (d_v (pv 3))) (g_name (i := 4) sc.nd rfl (by first | exact Or.inl rfl | exact Or.inr rfl))
      (ss_cons (s_if (PW.pt (w_or (t_not (t_tru (o_g (d_isi kit_tuple (by rfl) T.m_isinstance (by rfl) T.m_tuple PyProof.Rows.boot_tuple (o_b (pv 4)))))) (w_or (t_cmp (op_neD hu64) sd_ne (o_g (d_b1 call_len sb_len (by rfl) T.m_len PySem.boot_len (o_b (pv 4)))) (o_g d_int) (nomark _)) (w_or1 (t_cmp (op_neD hu64) sd_ne (o_g (d_fz (o_lc rfl sc.nd (i_seq (d_v (pv 4))) (blkOk_by (own := [("line", 6)]) (N := ["machine", "signs", "told", "paper", "pair", "sign", "line", "k"]) (sc := defScope s__law_accepts) (by decide +kernel)) (fun _ _ _ _ _ => (g_name (i := 6) sc.nd rfl (by first | exact Or.inl rfl | exact Or.inr rfl))) (fun _ _ _ _ _ => (c_one (t_not (t_tru (o_g (d_call takes0 G__law_is_line (hr.mono (by omega)) (by rfl) T.g__law_is_line T.F__law_is_line.kp T.b__law_is_line (as_cons (a_g (d_v (pv 0))) (as_cons (a_g (d_v (pv 6))) as_nil)))))))) (fun _ _ _ _ _ => (d_v (pv 6)))))) (o_g (d_fz (o_lst l_nil))) (nomark _))))))
      (ss_one (s_ret d_bl))
      ss_nil)
      (ss_one (s_if (t_cmp op_ge (sd_cmpI _) (o_g (d_ix (o_b (pv 4)) (o_g d_int))) (o_g (d_ix (o_b (pv 4)) (o_g d_int))) (nomark _))
      (ss_one (s_ret d_bl))
      ss_nil))))
      (ss_cons (s_for hp rfl (i_seq (d_v (pv 3))) (g_name (i := 4) sc.nd rfl (by first | exact Or.inl rfl | exact Or.inr rfl))
      (ss_one (s_if (t_cmp (op_neD hu64) sd_ne (o_g (d_fz (o_lc rfl sc.nd (i_range1 (by rfl) T.m_range (o_g (d_b1 call_len sb_len (by rfl) T.m_len PySem.boot_len (o_b (pv 1))))) (blkOk_by (own := [("k", 7)]) (N := ["machine", "signs", "told", "paper", "pair", "sign", "line", "k"]) (sc := defScope s__law_accepts) (by decide +kernel)) (fun _ _ _ _ _ => (g_name (i := 7) sc.nd rfl (by first | exact Or.inl rfl | exact Or.inr rfl))) (fun _ _ _ _ _ => (c_one (t_cmp (op_notInAll hu65) sd_notIn (o_g (d_call takes0 G__law_behind (hr.mono (by omega)) (by rfl) T.g__law_behind T.F__law_behind.kp T.b__law_behind (as_cons (a_g (d_v (pv 0))) (as_cons (a_g (d_v (pv 7))) (as_cons (a_g (d_v (pv 4))) as_nil))))) (o_b (pv 3)) (by rfl)))) (fun _ _ _ _ _ => (d_v (pv 7)))))) (o_g (d_fz (o_lst l_nil))) (nomark _))
      (ss_one (s_ret d_bl))
      ss_nil)))
      (ss_one (s_ret d_bl))))))))
end K66
end
section
set_option Elab.async false
set_option linter.all false
set_option maxRecDepth 100000
namespace K66
open PySem PySem.Spec L2 DL
set_option maxHeartbeats 4000000 in
theorem ok__law_turned {P : Program} {w : World} {K : PySem.W.Frag} {mg : Str → Option Value} {base : Heap} (T : Txt K mg) : FnOk P w K mg base (L2.CX P w) 2 T.a__law_turned T.fd__law_turned ["state", "signs", "paper"] (spF K (clM mg) 3 (F__law_turned)) := by
  have G__law_next := ok__law_next (P := P) (w := w) (base := base) T
  refine def_ok2 (g := g__law_turned) (n := 6) (m := 3) T.F__law_turned sc__law_turned rfl rfl rfl (by decide) (fun cdv A outer s H E hr => ?_)
  have hp := passes_of (X := bx P w K mg base ["state", "signs", "paper", "pick", "sign", "k"] "_law_turned" s__law_turned T.a__law_turned cdv A outer s H E) rfl
  have tk : Takes (bx P w K mg base ["state", "signs", "paper", "pick", "sign", "k"] "_law_turned" s__law_turned T.a__law_turned cdv A outer s H E) (WF E) := takes_of rfl rfl rfl rfl
  obtain ⟨hu1, hu64, hu65, hu200⟩ := room_un hr
  have sc := sc__law_turned
  unfold g__law_turned
  exact (ss_cons (s_set (i := 3) sc.nd rfl (by first | exact Or.inl rfl | exact Or.inr rfl) (d_call tk G__law_next (hr.mono (by omega)) (by rfl) T.g__law_next T.F__law_next.kp T.b__law_next (as_cons (a_s (pv 0)) (as_cons (a_g d_int) as_nil))))
      (ss_cons (s_if (t_tru (o_g (d_isi kit_str (by rfl) T.m_isinstance (by rfl) T.m_str PyProof.Rows.boot_str (o_b (pv 2)))))
      (ss_cons (s_set (i := 4) sc.nd rfl (by first | exact Or.inl rfl | exact Or.inr rfl) (d_ix (o_b (pv 1)) (o_g (d_call tk G__law_next (hr.mono (by omega)) (by rfl) T.g__law_next T.F__law_next.kp T.b__law_next (as_cons (a_s (pv 0)) (as_cons (a_g (d_b1 call_len sb_len (by rfl) T.m_len PySem.boot_len (o_b (pv 1)))) as_nil))))))
      (ss_one (s_ret (d_ix (o_g (d_fz (o_lst (l_cons (d_bin op_addD sd_add (o_b (pv 2)) (o_b (pv 4))) (l_cons (d_sl (o_b (pv 2)) (p_so d_int) p_no) (l_cons (d_bin op_addD sd_add (o_b (pv 4)) (o_b (pv 2))) (l_cons (d_sl (o_b (pv 2)) p_no (p_so (d_un un_neg sd_neg (o_g d_int)))) (l_cons (d_bin op_addD sd_add (o_b (pv 2)) (o_g d_str)) (l_cons d_int l_nil))))))))) (o_b (pv 3))))))
      ss_nil)
      (ss_cons (s_set (i := 5) sc.nd rfl (by first | exact Or.inl rfl | exact Or.inr rfl) (d_call tk G__law_next (hr.mono (by omega)) (by rfl) T.g__law_next T.F__law_next.kp T.b__law_next (as_cons (a_s (pv 0)) (as_cons (a_g (d_b1 call_len sb_len (by rfl) T.m_len PySem.boot_len (o_b (pv 2)))) as_nil))))
      (ss_cons (s_if (t_cmp (op_eqD hu64) sd_eq (o_b (pv 3)) (o_g d_int) (nomark _))
      (ss_one (s_ret (d_bin op_addD sd_add (o_b (pv 2)) (o_g (d_tup (l_cons (d_tup (l_cons d_int (l_cons d_int l_nil))) l_nil))))))
      ss_nil)
      (ss_cons (s_if (t_cmp (op_eqD hu64) sd_eq (o_b (pv 3)) (o_g d_int) (nomark _))
      (ss_one (s_ret (d_bin op_addD sd_add (o_g (d_sl (o_b (pv 2)) p_no (p_so (d_v (pv 5))))) (o_g (d_sl (o_b (pv 2)) (p_so (d_bin op_addD sd_add (o_b (pv 5)) (o_g d_int))) p_no)))))
      ss_nil)
      (ss_cons (s_if (t_cmp (op_eqD hu64) sd_eq (o_b (pv 3)) (o_g d_int) (nomark _))
      (ss_one (s_ret (d_rev (o_b (pv 2)))))
      ss_nil)
      (ss_one (s_ret (d_bin op_addD sd_add (o_g (d_bin op_addD sd_add (o_g (d_sl (o_b (pv 2)) p_no (p_so (d_v (pv 5))))) (o_g (d_tup (l_cons (d_ix (o_g (d_fz (o_lst (l_cons (d_rev (o_g (d_ix (o_b (pv 2)) (o_b (pv 5))))) (l_cons (d_tup (l_cons (d_ix (o_g (d_ix (o_b (pv 2)) (o_b (pv 5)))) (o_g d_int)) (l_cons (d_ix (o_g (d_ix (o_b (pv 2)) (o_b (pv 5)))) (o_g d_int)) l_nil))) (l_cons (d_tup (l_cons (d_ix (o_g (d_ix (o_b (pv 2)) (o_b (pv 5)))) (o_g d_int)) (l_cons d_int l_nil))) l_nil)))))) (o_g (d_bin op_sub sd_sub (o_b (pv 3)) (o_g d_int)))) l_nil))))) (o_g (d_sl (o_b (pv 2)) (p_so (d_bin op_addD sd_add (o_b (pv 5)) (o_g d_int))) p_no)))))))))))
end K66
end
section
set_option Elab.async false
set_option linter.all false
set_option maxRecDepth 100000
namespace K66
open PySem PySem.Spec L2 DL
set_option maxHeartbeats 4000000 in
theorem ok_law {P : Program} {w : World} {K : PySem.W.Frag} {mg : Str → Option Value} {base : Heap} (T : Txt K mg) (hlaw : ∀ ns : List Int, ns.length ≤ 63 → ∃ r, g_law ns (List.replicate 16 .un) = .ok (.rt (.bool true)) r) : FnOk P w K mg base (L2.CX P w) 8 T.a_law T.fd_law ["script"] (spLaw K) := by
  have G__law_signs := ok__law_signs (P := P) (w := w) (base := base) T
  have G__law_machine := ok__law_machine (P := P) (w := w) (base := base) T
  have G__law_meeting := ok__law_meeting (P := P) (w := w) (base := base) T
  have G__law_least_reset := ok__law_least_reset (P := P) (w := w) (base := base) T
  have G_reset := ok_reset (P := P) (w := w) (base := base) T
  have G__law_same := ok__law_same (P := P) (w := w) (base := base) T
  have G_judge_reset := ok_judge_reset (P := P) (w := w) (base := base) T
  have G__law_turned := ok__law_turned (P := P) (w := w) (base := base) T
  have G__law_row := ok__law_row (P := P) (w := w) (base := base) T
  have G__law_accepts := ok__law_accepts (P := P) (w := w) (base := base) T
  have G__law_next := ok__law_next (P := P) (w := w) (base := base) T
  refine law_ok (cl := clM mg) (g := g_law) (n := 16) T.F_law sc_law rfl (by decide) (fun cdv A outer s H E hr ns => ?_) hlaw
  have hp := passes_of (X := bx P w K mg base ["script", "state", "turn", "signs", "machine", "pairs", "due", "told", "asks", "k", "asked", "many", "chain", "ring", "error", "p"] "law" s_law T.a_law cdv A outer s H E) rfl
  have tk : Takes (bx P w K mg base ["script", "state", "turn", "signs", "machine", "pairs", "due", "told", "asks", "k", "asked", "many", "chain", "ring", "error", "p"] "law" s_law T.a_law cdv A outer s H E) (WF E) := takes_of rfl rfl rfl rfl
  obtain ⟨hu1, hu64, hu65, hu200⟩ := room_un hr
  have sc := sc_law
  unfold g_law
  exact (ss_start (s_start (ns := ns) (i := 1) sc.nd rfl (by first | exact Or.inl rfl | exact Or.inr rfl) (l_script (by rfl) T.m_list (pv 0) (l_cons d_int (l_cons d_int (l_cons d_int l_nil)))))
      (ss_cons (s_for hp rfl (i_range1 (by rfl) T.m_range (o_g d_int)) (g_name (i := 2) sc.nd rfl (by first | exact Or.inl rfl | exact Or.inr rfl))
      (ss_cons (s_set (i := 3) sc.nd rfl (by first | exact Or.inl rfl | exact Or.inr rfl) (d_call tk G__law_signs (hr.mono (by omega)) (by rfl) T.g__law_signs T.F__law_signs.kp T.b__law_signs (as_cons (a_s (pv 1)) as_nil)))
      (ss_cons (s_set (i := 4) sc.nd rfl (by first | exact Or.inl rfl | exact Or.inr rfl) (d_call tk G__law_machine (hr.mono (by omega)) (by rfl) T.g__law_machine T.F__law_machine.kp T.b__law_machine (as_cons (a_s (pv 1)) (as_cons (a_g (d_v (pv 3))) as_nil))))
      (ss_cons (s_set (i := 5) sc.nd rfl (by first | exact Or.inl rfl | exact Or.inr rfl) (d_call tk G__law_meeting (hr.mono (by omega)) (by rfl) T.g__law_meeting T.F__law_meeting.kp T.b__law_meeting (as_cons (a_g (d_v (pv 4))) (as_cons (a_g (d_v (pv 3))) as_nil))))
      (ss_cons (s_set (i := 6) sc.nd rfl (by first | exact Or.inl rfl | exact Or.inr rfl) (d_ifx (t_cmp (op_neD hu64) sd_ne (o_b (pv 5)) (o_g (d_fz (o_lst l_nil))) (nomark _)) (d_tup (l_cons d_str (l_cons (d_y1 call_tuple_of sb_tup (by rfl) T.m_tuple PyProof.Rows.boot_tuple (o_b (pv 5))) l_nil))) (d_tup (l_cons d_str (l_cons (d_call tk G__law_least_reset (hr.mono (by omega)) (by rfl) T.g__law_least_reset T.F__law_least_reset.kp T.b__law_least_reset (as_cons (a_g (d_v (pv 4))) (as_cons (a_g (d_v (pv 3))) as_nil))) l_nil)))))
      (ss_cons (s_set (i := 7) sc.nd rfl (by first | exact Or.inl rfl | exact Or.inr rfl) (d_call tk G_reset (hr.mono (by omega)) (by rfl) T.g_reset T.F_reset.kp T.b_reset (as_cons (a_g (d_v (pv 4))) (as_cons (a_g (d_v (pv 3))) as_nil))))
      (ss_cons (s_if (PW.pt (w_or (t_not (t_tru (o_g (d_call tk G__law_same (hr.mono (by omega)) (by rfl) T.g__law_same T.F__law_same.kp T.b__law_same (as_cons (a_g (d_v (pv 7))) (as_cons (a_g (d_v (pv 6))) as_nil)))))) (w_or1 (t_cmp op_notBl sd_notB (o_g (d_call tk G_judge_reset (hr.mono (by omega)) (by rfl) T.g_judge_reset T.F_judge_reset.kp T.b_judge_reset (as_cons (a_g (d_v (pv 4))) (as_cons (a_g (d_v (pv 3))) (as_cons (a_g (d_v (pv 7))) as_nil))))) (o_g d_bl) (nomark _)))))
      (ss_one (s_ret d_bl))
      ss_nil)
      (ss_cons (s_setO (i := 8) sc.nd rfl (by first | exact Or.inl rfl | exact Or.inr rfl) (o_lst (l_cons d_non (l_cons (d_sl (o_b (pv 6)) p_no (p_so d_int)) (l_cons (d_fz (o_y1 call_list_of sc_lst (by rfl) T.m_list PyProof.Rows.boot_list (o_b (pv 6)))) (l_cons (d_tup (l_cons d_str (l_cons (d_ix (o_b (pv 6)) (o_g d_int)) l_nil))) (l_cons (d_tup (l_cons d_str (l_cons (d_ix (o_b (pv 6)) (o_g d_int)) l_nil))) (l_cons (d_tup (l_cons d_str (l_cons (d_ix (o_b (pv 6)) (o_g d_int)) l_nil))) (l_cons (d_tup (l_cons d_str (l_cons d_str l_nil))) (l_cons (d_tup (l_cons d_str (l_cons (d_tup l_nil) l_nil))) (l_cons (d_tup (l_cons d_str (l_cons (d_tup (l_cons d_int l_nil)) l_nil))) (l_cons (d_tup (l_cons d_str (l_cons (d_tup (l_cons (d_tup (l_cons d_int (l_cons d_int (l_cons d_int l_nil)))) l_nil)) l_nil))) l_nil))))))))))))
      (ss_cons (s_setO (i := 8) sc.nd rfl (by first | exact Or.inl rfl | exact Or.inr rfl) (o_bin op_cat so_cat (o_b (pv 8)) (o_g (d_fz (o_lst (l_cons (d_tup (l_cons d_str (l_cons (d_fz (o_lst (l_cons (d_tup (l_cons d_int (l_cons d_int l_nil))) l_nil))) l_nil))) (l_cons (d_tup (l_cons d_str (l_cons (d_tup (l_cons (d_tup (l_cons d_bl (l_cons d_int l_nil))) l_nil)) l_nil))) (l_cons (d_tup (l_cons d_str (l_cons d_non l_nil))) (l_cons (d_tup (l_cons d_str (l_cons (d_tup (l_cons (d_fz (o_lst (l_cons d_int (l_cons d_int l_nil)))) l_nil)) l_nil))) (l_cons (d_tup (l_cons d_str (l_cons (d_tup (l_cons (d_tup (l_cons (d_fz (o_lst (l_cons d_int l_nil))) (l_cons d_int l_nil))) l_nil)) l_nil))) (l_cons (d_tup (l_cons d_str (l_cons d_str l_nil))) (l_cons (d_tup (l_cons d_str (l_cons (d_fz (o_lst (l_cons d_str l_nil))) l_nil))) (l_cons (d_tup (l_cons d_str (l_cons (d_tup (l_cons (d_tup (l_cons (d_un un_neg sd_neg (o_g d_int)) (l_cons d_int l_nil))) l_nil)) l_nil))) l_nil)))))))))))))
      (ss_cons (s_for hp rfl (i_range1 (by rfl) T.m_range (o_g d_int)) (g_name (i := 9) sc.nd rfl (by first | exact Or.inl rfl | exact Or.inr rfl))
      (ss_one (s_mut PySem.F.slot_list_append PySem.F.type_list_append mt_append mu_app (pv 8) (d_tup (l_cons (d_ix (o_b (pv 6)) (o_g d_int)) (l_cons (d_call tk G__law_turned (hr.mono (by omega)) (by rfl) T.g__law_turned T.F__law_turned.kp T.b__law_turned (as_cons (a_s (pv 1)) (as_cons (a_g (d_v (pv 3))) (as_cons (a_g (d_ix (o_b (pv 6)) (o_g d_int))) as_nil)))) l_nil))))))
      (ss_cons (s_mut PySem.F.slot_list_append PySem.F.type_list_append mt_append mu_app (pv 8) (d_tup (l_cons d_str (l_cons (d_call tk G__law_row (hr.mono (by omega)) (by rfl) T.g__law_row T.F__law_row.kp T.b__law_row (as_cons (a_s (pv 1)) (as_cons (a_g (d_v (pv 3))) (as_cons (a_g d_int) as_nil)))) l_nil))))
      (ss_cons (s_mut PySem.F.slot_list_append PySem.F.type_list_append mt_append mu_app (pv 8) (d_tup (l_cons d_str (l_cons (d_y1 call_tuple_of sb_tup (by rfl) T.m_tuple PyProof.Rows.boot_tuple (o_g (d_fz (o_lc rfl sc.nd (i_range1 (by rfl) T.m_range (o_g (d_bin op_sub sd_sub (o_g (d_b1 call_len sb_len (by rfl) T.m_len PySem.boot_len (o_b (pv 4)))) (o_g d_int)))) (blkOk_by (own := [("p", 15)]) (N := ["script", "state", "turn", "signs", "machine", "pairs", "due", "told", "asks", "k", "asked", "many", "chain", "ring", "error", "p"]) (sc := defScope s_law) (by decide +kernel)) (fun _ _ _ _ _ => (g_name (i := 15) sc.nd rfl (by first | exact Or.inl rfl | exact Or.inr rfl))) (fun _ _ _ _ _ => c_nil) (fun _ _ _ _ _ => (d_tup (l_cons (d_v (pv 15)) (l_cons (d_bin op_addD sd_add (o_b (pv 15)) (o_g d_int)) l_nil)))))))) l_nil))))
      (ss_one (s_for hp rfl (i_seq (d_v (pv 8))) (g_name (i := 10) sc.nd rfl (by first | exact Or.inl rfl | exact Or.inr rfl))
      (ss_one (s_if (t_not (t_tru (o_g (d_call tk G__law_same (hr.mono (by omega)) (by rfl) T.g__law_same T.F__law_same.kp T.b__law_same (as_cons (a_g (d_call tk G_judge_reset (hr.mono (by omega)) (by rfl) T.g_judge_reset T.F_judge_reset.kp T.b_judge_reset (as_cons (a_g (d_v (pv 4))) (as_cons (a_g (d_v (pv 3))) (as_cons (a_g (d_v (pv 10))) as_nil))))) (as_cons (a_g (d_call tk G__law_accepts (hr.mono (by omega)) (by rfl) T.g__law_accepts T.F__law_accepts.kp T.b__law_accepts (as_cons (a_g (d_v (pv 4))) (as_cons (a_g (d_v (pv 3))) (as_cons (a_g (d_v (pv 10))) as_nil))))) as_nil))))))
      (ss_one (s_ret d_bl))
      ss_nil))))))))))))))))
      (ss_cons (s_set (i := 11) sc.nd rfl (by first | exact Or.inl rfl | exact Or.inr rfl) (d_bin op_addD sd_add (o_g d_int) (o_g (d_call tk G__law_next (hr.mono (by omega)) (by rfl) T.g__law_next T.F__law_next.kp T.b__law_next (as_cons (a_s (pv 1)) (as_cons (a_g d_int) as_nil))))))
      (ss_cons (s_set (i := 12) sc.nd rfl (by first | exact Or.inl rfl | exact Or.inr rfl) (d_y1 call_tuple_of sb_tup (by rfl) T.m_tuple PyProof.Rows.boot_tuple (o_g (d_fz (o_lc rfl sc.nd (i_range1 (by rfl) T.m_range (o_b (pv 11))) (blkOk_by (own := [("k", 9)]) (N := ["script", "state", "turn", "signs", "machine", "pairs", "due", "told", "asks", "k", "asked", "many", "chain", "ring", "error", "p"]) (sc := defScope s_law) (by decide +kernel)) (fun _ _ _ _ _ => (g_name (i := 9) sc.nd rfl (by first | exact Or.inl rfl | exact Or.inr rfl))) (fun _ _ _ _ _ => c_nil) (fun _ _ _ _ _ => (d_tup (l_cons (d_cmp (op_eqD hu64) sd_eq (o_b (pv 9)) (o_g d_int) (nomark _)) (l_cons (d_tup (l_cons (d_b2 (call_min2 rfl) sb_min (by rfl) T.m_min PyProof.Rows.boot_min (o_g (d_bin op_sub sd_sub (o_b (pv 11)) (o_g d_int))) (o_g (d_bin op_addD sd_add (o_b (pv 9)) (o_g d_int)))) (l_cons (d_b2 (call_min2 rfl) sb_min (by rfl) T.m_min PyProof.Rows.boot_min (o_g (d_bin op_sub sd_sub (o_b (pv 11)) (o_g d_int))) (o_g (d_bin op_addD sd_add (o_b (pv 9)) (o_g d_int)))) l_nil))) l_nil)))))))))
      (ss_cons (s_set (i := 13) sc.nd rfl (by first | exact Or.inl rfl | exact Or.inr rfl) (d_y1 call_tuple_of sb_tup (by rfl) T.m_tuple PyProof.Rows.boot_tuple (o_g (d_fz (o_lc rfl sc.nd (i_range1 (by rfl) T.m_range (o_b (pv 11))) (blkOk_by (own := [("k", 9)]) (N := ["script", "state", "turn", "signs", "machine", "pairs", "due", "told", "asks", "k", "asked", "many", "chain", "ring", "error", "p"]) (sc := defScope s_law) (by decide +kernel)) (fun _ _ _ _ _ => (g_name (i := 9) sc.nd rfl (by first | exact Or.inl rfl | exact Or.inr rfl))) (fun _ _ _ _ _ => c_nil) (fun _ _ _ _ _ => (d_tup (l_cons (d_cmp (op_eqD hu64) sd_eq (o_b (pv 9)) (o_g d_int) (nomark _)) (l_cons (d_tup (l_cons (d_bin op_modN sd_mod (o_g (d_y1 call_int1 sb_int (by rfl) T.m_int PyProof.Rows.boot_int (o_g (d_bin op_addD sd_add (o_b (pv 9)) (o_g d_int))))) (o_b (pv 11))) (l_cons (d_v (pv 9)) l_nil))) l_nil)))))))))
      (ss_cons (s_if (PW.pt (w_or (t_cmp (op_neD hu64) sd_ne (o_g (d_ix (o_g (d_call tk G_reset (hr.mono (by omega)) (by rfl) T.g_reset T.F_reset.kp T.b_reset (as_cons (a_g (d_v (pv 13))) (as_cons (a_g d_str) as_nil)))) (o_g d_int))) (o_g d_str) (nomark _)) (w_or1 (t_cmp op_notBl sd_notB (o_g (d_call tk G_judge_reset (hr.mono (by omega)) (by rfl) T.g_judge_reset T.F_judge_reset.kp T.b_judge_reset (as_cons (a_g (d_v (pv 12))) (as_cons (a_g d_str) (as_cons (a_g (d_tup (l_cons d_str (l_cons (d_bin op_smul sd_smul (o_g d_str) (o_g (d_bin op_sub sd_sub (o_b (pv 11)) (o_g d_int)))) l_nil)))) as_nil))))) (o_g d_bl) (nomark _)))))
      (ss_one (s_ret d_bl))
      ss_nil)
      (ss_one (s_tryAs (i := 14) rfl rfl sc.nd rfl (by rfl) ⟨by rfl, by decide, .inl T.c_TooWide⟩ tk T.hm_TooWide (fun W pn xe tk hp => (ss_one (s_ret (d_and (d_cmp (op_eqD hu64) sd_eq (o_g (d_call tk G_reset (hr.mono (by omega)) (by rfl) T.g_reset T.F_reset.kp T.b_reset (as_cons (a_g (d_v (pv 12))) (as_cons (a_g d_str) as_nil)))) (o_g (d_tup (l_cons d_str (l_cons (d_bin op_smul sd_smul (o_g d_str) (o_g (d_bin op_sub sd_sub (o_b (pv 11)) (o_g d_int)))) l_nil)))) (nomark _)) (d_one (d_cmp op_le (sd_cmpI _) (o_b (pv 11)) (o_g d_int) (nomark _)))))))
      (fun a oe cls d pn hz hv hc => by
        obtain ⟨rfl, rfl⟩ := T.is_TooWide hc
        exact (pss_one (s_retG (X := (bx P w K mg base ["script", "state", "turn", "signs", "machine", "pairs", "due", "told", "asks", "k", "asked", "many", "chain", "ring", "error", "p"] "law" s_law T.a_law cdv A outer s H E).suite a ((a, oe) :: pn)) (G := fun σ => ExAt σ 14 a) (d_andG (d_cmp op_gt (sd_cmpI _) (o_b (pv 11)) (o_g d_int) (nomark _)) (d_oneG (d_isE (X := bx P w K mg base ["script", "state", "turn", "signs", "machine", "pairs", "due", "told", "asks", "k", "asked", "many", "chain", "ring", "error", "p"] "law" s_law T.a_law cdv A outer s H E) (pn := pn) T.ec_TooWide hz hv T.kt_TooWide_ValueError (by rfl) T.m_isinstance (by rfl) T.m_ValueError boot_ValueError (pv 14)))))))))))))))
end K66
end
section
set_option Elab.async false
set_option linter.all false
set_option maxRecDepth 100000
set_option maxHeartbeats 4000000
namespace K66
open PySem PySem.Spec L2 DL
/-! ### what the top has written -/
def DF (K : PySem.W.Frag) (x qual : Str) (st : Stmt) : Prop := ∃ (f : Addr) (oc : Value) (od an : Option Addr) (osl : Array (Option Value)) (kV doc pm cdv ct : Value),
  PySem.W.nsIn K mainGlobals x = some (some (.ref f)) ∧ K.lookup f = some ⟨oc, od, .func (PySem.W.fnOf x qual (defArgs st) (defBody st) (defScope st) .none kV doc pm an cdv ct), osl⟩ ∧ PySem.W.codeIn K cdv qual = true ∧ PySem.W.keepIn K (.ref f) = true
theorem DF.mk' {K : PySem.W.Frag} {x qual : Str} {st : Stmt} {f : Addr} {oc : Value} {od an : Option Addr} {osl : Array (Option Value)} {kV doc pm cdv ct : Value} (a : PySem.W.nsIn K mainGlobals x = some (some (.ref f)))
  (l : K.lookup f = some ⟨oc, od, .func (PySem.W.fnOf x qual (defArgs st) (defBody st) (defScope st) .none kV doc pm an cdv ct), osl⟩) (c : PySem.W.codeIn K cdv qual = true) (k : PySem.W.keepIn K (.ref f) = true) : DF K x qual st := ⟨f, oc, od, an, osl, kV, doc, pm, cdv, ct, a, l, c, k⟩
theorem kit_type {K : PySem.W.Frag} {C : Addr} {T : String} {b : Bool} (hm : PySem.W.kitMeta T = true) (hs : PySem.W.subIn K (.ref C) (.type T) = some b) : PySem.W.kitOne K (.ref C) (.type T) = some b := by
  show (if (Value.ref C == Value.type T) = true then some true else if PySem.W.kitMeta T = true then PySem.W.subIn K (.ref C) (.type T) else none) = _
  rw [if_neg (fun z => by first | exact Bool.noConfusion z | cases (beq_iff_eq.mp z) | simp at z), if_pos hm]
  exact hs
theorem all_mk {l : PySem.W.OpenLaw} {w : World} {K : PySem.W.Frag} {h : Heap} {mg : Str → Option Value} {fa : Addr} {tk_MOST_RESET : Tok} {C_TooWide : Addr} (X : K.In h) (G : h.Ns mainGlobals mg) (hfa : mg "law" = some (.ref fa))
    (q_MOST_RESET : PySem.W.nsIn K mainGlobals "MOST_RESET" = some (some (.int 16 tk_MOST_RESET)))
    (q_TooWide : PySem.W.nsIn K mainGlobals "TooWide" = some (some (.ref C_TooWide)))
    (x_TooWide : PySem.W.excIn K C_TooWide [.type "ValueError", .type "Exception", .type "BaseException", .type "object"] "ValueError.__new__" = true)
    (k_TooWide : PySem.W.keepIn K (.ref C_TooWide) = true)
    (s_TooWide : PySem.W.subIn K (.ref C_TooWide) (.type "BaseException") = some true)
    (t_TooWide : PySem.W.typeIn K (.ref C_TooWide) = some (.type "type"))
    (i_TooWide : PySem.W.isClsIn K C_TooWide = true)
    (hd_TooWide : PySem.W.hasDictIn K C_TooWide = true)
    (se_TooWide : PySem.W.subIn K (.ref C_TooWide) (.ref C_TooWide) = some true)
    (ec1_TooWide : PySem.W.findIn K (.ref C_TooWide) "__getattribute__" = some (some (.builtin "BaseException.__getattribute__")))
    (ec2_TooWide : PySem.W.findIn K (.ref C_TooWide) "__getattr__" = some none)
    (ec3_TooWide : PySem.W.findIn K (.ref C_TooWide) "__class__" = some (some (.builtin "object.__class__")))
    (ec4_TooWide : PySem.W.specialIn K (.builtin "object.__class__") "__get__" = some (some (.builtin "getset_descriptor.__get__")))
    (ec5_TooWide : PySem.W.takesIn K (.builtin "object.__class__") = some true)
    (ec6_TooWide : PySem.W.mroIn K C_TooWide (.type "object") = some true)
    (kt_TooWide_ValueError : PySem.W.subIn K (.ref C_TooWide) (.type "ValueError") = some true)
    (m_ValueError : PySem.W.nsIn K mainGlobals "ValueError" = some none)
    (m_bool : PySem.W.nsIn K mainGlobals "bool" = some none)
    (m_enumerate : PySem.W.nsIn K mainGlobals "enumerate" = some none)
    (m_int : PySem.W.nsIn K mainGlobals "int" = some none)
    (m_isinstance : PySem.W.nsIn K mainGlobals "isinstance" = some none)
    (m_len : PySem.W.nsIn K mainGlobals "len" = some none)
    (m_list : PySem.W.nsIn K mainGlobals "list" = some none)
    (m_max : PySem.W.nsIn K mainGlobals "max" = some none)
    (m_min : PySem.W.nsIn K mainGlobals "min" = some none)
    (m_range : PySem.W.nsIn K mainGlobals "range" = some none)
    (m_set : PySem.W.nsIn K mainGlobals "set" = some none)
    (m_sorted : PySem.W.nsIn K mainGlobals "sorted" = some none)
    (m_str : PySem.W.nsIn K mainGlobals "str" = some none)
    (m_tuple : PySem.W.nsIn K mainGlobals "tuple" = some none)
    (d_least_reset : DF K "least_reset" "least_reset" s_least_reset)
    (d_pair_behind : DF K "pair_behind" "pair_behind" s_pair_behind)
    (d_never_meeting : DF K "never_meeting" "never_meeting" s_never_meeting)
    (d_reset : DF K "reset" "reset" s_reset)
    (d_is_line : DF K "is_line" "is_line" s_is_line)
    (d_judge_reset : DF K "judge_reset" "judge_reset" s_judge_reset)
    (d__law_next : DF K "_law_next" "_law_next" s__law_next)
    (d__law_same : DF K "_law_same" "_law_same" s__law_same)
    (d__law_signs : DF K "_law_signs" "_law_signs" s__law_signs)
    (d__law_machine : DF K "_law_machine" "_law_machine" s__law_machine)
    (d__law_line : DF K "_law_line" "_law_line" s__law_line)
    (d__law_row : DF K "_law_row" "_law_row" s__law_row)
    (d__law_behind : DF K "_law_behind" "_law_behind" s__law_behind)
    (d__law_meeting : DF K "_law_meeting" "_law_meeting" s__law_meeting)
    (d__law_least_reset : DF K "_law_least_reset" "_law_least_reset" s__law_least_reset)
    (d__law_is_line : DF K "_law_is_line" "_law_is_line" s__law_is_line)
    (d__law_accepts : DF K "_law_accepts" "_law_accepts" s__law_accepts)
    (d__law_turned : DF K "_law_turned" "_law_turned" s__law_turned)
    (d_law : DF K "law" "law" s_law)
    : ∃ fd : FuncData, (∀ (s : Shared) (v : Value), BindsTo s fd ⟨[v], []⟩ [("script", v)]) ∧ ∀ base : Heap, K.In base → base.Ns mainGlobals mg → FnOk l.prog w K mg base (L2.CX l.prog w) 8 fa fd ["script"] (spLaw K) := by
  obtain ⟨f_least_reset, oc_least_reset, od_least_reset, an_least_reset, sl_least_reset, kV_least_reset, dc_least_reset, pm_least_reset, cd_least_reset, ct_least_reset, nn_least_reset, l_least_reset, cc_least_reset, kk_least_reset⟩ := d_least_reset
  have F_least_reset := fun_mk (st := s_least_reset) l_least_reset cc_least_reset kk_least_reset
  have b_least_reset := F_least_reset.binds (ps := ["machine", "signs"]) fun _ _ _ _ _ _ us hl => match us, hl with | [_, _], _ => rfl
  obtain ⟨f_pair_behind, oc_pair_behind, od_pair_behind, an_pair_behind, sl_pair_behind, kV_pair_behind, dc_pair_behind, pm_pair_behind, cd_pair_behind, ct_pair_behind, nn_pair_behind, l_pair_behind, cc_pair_behind, kk_pair_behind⟩ := d_pair_behind
  have F_pair_behind := fun_mk (st := s_pair_behind) l_pair_behind cc_pair_behind kk_pair_behind
  have b_pair_behind := F_pair_behind.binds (ps := ["machine", "number", "pair"]) fun _ _ _ _ _ _ us hl => match us, hl with | [_, _, _], _ => rfl
  obtain ⟨f_never_meeting, oc_never_meeting, od_never_meeting, an_never_meeting, sl_never_meeting, kV_never_meeting, dc_never_meeting, pm_never_meeting, cd_never_meeting, ct_never_meeting, nn_never_meeting, l_never_meeting, cc_never_meeting, kk_never_meeting⟩ := d_never_meeting
  have F_never_meeting := fun_mk (st := s_never_meeting) l_never_meeting cc_never_meeting kk_never_meeting
  have b_never_meeting := F_never_meeting.binds (ps := ["machine", "signs"]) fun _ _ _ _ _ _ us hl => match us, hl with | [_, _], _ => rfl
  obtain ⟨f_reset, oc_reset, od_reset, an_reset, sl_reset, kV_reset, dc_reset, pm_reset, cd_reset, ct_reset, nn_reset, l_reset, cc_reset, kk_reset⟩ := d_reset
  have F_reset := fun_mk (st := s_reset) l_reset cc_reset kk_reset
  have b_reset := F_reset.binds (ps := ["machine", "signs"]) fun _ _ _ _ _ _ us hl => match us, hl with | [_, _], _ => rfl
  obtain ⟨f_is_line, oc_is_line, od_is_line, an_is_line, sl_is_line, kV_is_line, dc_is_line, pm_is_line, cd_is_line, ct_is_line, nn_is_line, l_is_line, cc_is_line, kk_is_line⟩ := d_is_line
  have F_is_line := fun_mk (st := s_is_line) l_is_line cc_is_line kk_is_line
  have b_is_line := F_is_line.binds (ps := ["machine", "line"]) fun _ _ _ _ _ _ us hl => match us, hl with | [_, _], _ => rfl
  obtain ⟨f_judge_reset, oc_judge_reset, od_judge_reset, an_judge_reset, sl_judge_reset, kV_judge_reset, dc_judge_reset, pm_judge_reset, cd_judge_reset, ct_judge_reset, nn_judge_reset, l_judge_reset, cc_judge_reset, kk_judge_reset⟩ := d_judge_reset
  have F_judge_reset := fun_mk (st := s_judge_reset) l_judge_reset cc_judge_reset kk_judge_reset
  have b_judge_reset := F_judge_reset.binds (ps := ["machine", "signs", "told"]) fun _ _ _ _ _ _ us hl => match us, hl with | [_, _, _], _ => rfl
  obtain ⟨f__law_next, oc__law_next, od__law_next, an__law_next, sl__law_next, kV__law_next, dc__law_next, pm__law_next, cd__law_next, ct__law_next, nn__law_next, l__law_next, cc__law_next, kk__law_next⟩ := d__law_next
  have F__law_next := fun_mk (st := s__law_next) l__law_next cc__law_next kk__law_next
  have b__law_next := F__law_next.binds (ps := ["state", "limit"]) fun _ _ _ _ _ _ us hl => match us, hl with | [_, _], _ => rfl
  obtain ⟨f__law_same, oc__law_same, od__law_same, an__law_same, sl__law_same, kV__law_same, dc__law_same, pm__law_same, cd__law_same, ct__law_same, nn__law_same, l__law_same, cc__law_same, kk__law_same⟩ := d__law_same
  have F__law_same := fun_mk (st := s__law_same) l__law_same cc__law_same kk__law_same
  have b__law_same := F__law_same.binds (ps := ["actual", "expected"]) fun _ _ _ _ _ _ us hl => match us, hl with | [_, _], _ => rfl
  obtain ⟨f__law_signs, oc__law_signs, od__law_signs, an__law_signs, sl__law_signs, kV__law_signs, dc__law_signs, pm__law_signs, cd__law_signs, ct__law_signs, nn__law_signs, l__law_signs, cc__law_signs, kk__law_signs⟩ := d__law_signs
  have F__law_signs := fun_mk (st := s__law_signs) l__law_signs cc__law_signs kk__law_signs
  have b__law_signs := F__law_signs.binds (ps := ["state"]) fun _ _ _ _ _ _ us hl => match us, hl with | [_], _ => rfl
  obtain ⟨f__law_machine, oc__law_machine, od__law_machine, an__law_machine, sl__law_machine, kV__law_machine, dc__law_machine, pm__law_machine, cd__law_machine, ct__law_machine, nn__law_machine, l__law_machine, cc__law_machine, kk__law_machine⟩ := d__law_machine
  have F__law_machine := fun_mk (st := s__law_machine) l__law_machine cc__law_machine kk__law_machine
  have b__law_machine := F__law_machine.binds (ps := ["state", "signs"]) fun _ _ _ _ _ _ us hl => match us, hl with | [_, _], _ => rfl
  obtain ⟨f__law_line, oc__law_line, od__law_line, an__law_line, sl__law_line, kV__law_line, dc__law_line, pm__law_line, cd__law_line, ct__law_line, nn__law_line, l__law_line, cc__law_line, kk__law_line⟩ := d__law_line
  have F__law_line := fun_mk (st := s__law_line) l__law_line cc__law_line kk__law_line
  have b__law_line := F__law_line.binds (ps := ["machine", "signs", "line", "row"]) fun _ _ _ _ _ _ us hl => match us, hl with | [_, _, _, _], _ => rfl
  obtain ⟨f__law_row, oc__law_row, od__law_row, an__law_row, sl__law_row, kV__law_row, dc__law_row, pm__law_row, cd__law_row, ct__law_row, nn__law_row, l__law_row, cc__law_row, kk__law_row⟩ := d__law_row
  have F__law_row := fun_mk (st := s__law_row) l__law_row cc__law_row kk__law_row
  have b__law_row := F__law_row.binds (ps := ["state", "signs", "most"]) fun _ _ _ _ _ _ us hl => match us, hl with | [_, _, _], _ => rfl
  obtain ⟨f__law_behind, oc__law_behind, od__law_behind, an__law_behind, sl__law_behind, kV__law_behind, dc__law_behind, pm__law_behind, cd__law_behind, ct__law_behind, nn__law_behind, l__law_behind, cc__law_behind, kk__law_behind⟩ := d__law_behind
  have F__law_behind := fun_mk (st := s__law_behind) l__law_behind cc__law_behind kk__law_behind
  have b__law_behind := F__law_behind.binds (ps := ["machine", "k", "pair"]) fun _ _ _ _ _ _ us hl => match us, hl with | [_, _, _], _ => rfl
  obtain ⟨f__law_meeting, oc__law_meeting, od__law_meeting, an__law_meeting, sl__law_meeting, kV__law_meeting, dc__law_meeting, pm__law_meeting, cd__law_meeting, ct__law_meeting, nn__law_meeting, l__law_meeting, cc__law_meeting, kk__law_meeting⟩ := d__law_meeting
  have F__law_meeting := fun_mk (st := s__law_meeting) l__law_meeting cc__law_meeting kk__law_meeting
  have b__law_meeting := F__law_meeting.binds (ps := ["machine", "signs"]) fun _ _ _ _ _ _ us hl => match us, hl with | [_, _], _ => rfl
  obtain ⟨f__law_least_reset, oc__law_least_reset, od__law_least_reset, an__law_least_reset, sl__law_least_reset, kV__law_least_reset, dc__law_least_reset, pm__law_least_reset, cd__law_least_reset, ct__law_least_reset, nn__law_least_reset, l__law_least_reset, cc__law_least_reset, kk__law_least_reset⟩ := d__law_least_reset
  have F__law_least_reset := fun_mk (st := s__law_least_reset) l__law_least_reset cc__law_least_reset kk__law_least_reset
  have b__law_least_reset := F__law_least_reset.binds (ps := ["machine", "signs"]) fun _ _ _ _ _ _ us hl => match us, hl with | [_, _], _ => rfl
  obtain ⟨f__law_is_line, oc__law_is_line, od__law_is_line, an__law_is_line, sl__law_is_line, kV__law_is_line, dc__law_is_line, pm__law_is_line, cd__law_is_line, ct__law_is_line, nn__law_is_line, l__law_is_line, cc__law_is_line, kk__law_is_line⟩ := d__law_is_line
  have F__law_is_line := fun_mk (st := s__law_is_line) l__law_is_line cc__law_is_line kk__law_is_line
  have b__law_is_line := F__law_is_line.binds (ps := ["machine", "value"]) fun _ _ _ _ _ _ us hl => match us, hl with | [_, _], _ => rfl
  obtain ⟨f__law_accepts, oc__law_accepts, od__law_accepts, an__law_accepts, sl__law_accepts, kV__law_accepts, dc__law_accepts, pm__law_accepts, cd__law_accepts, ct__law_accepts, nn__law_accepts, l__law_accepts, cc__law_accepts, kk__law_accepts⟩ := d__law_accepts
  have F__law_accepts := fun_mk (st := s__law_accepts) l__law_accepts cc__law_accepts kk__law_accepts
  have b__law_accepts := F__law_accepts.binds (ps := ["machine", "signs", "told"]) fun _ _ _ _ _ _ us hl => match us, hl with | [_, _, _], _ => rfl
  obtain ⟨f__law_turned, oc__law_turned, od__law_turned, an__law_turned, sl__law_turned, kV__law_turned, dc__law_turned, pm__law_turned, cd__law_turned, ct__law_turned, nn__law_turned, l__law_turned, cc__law_turned, kk__law_turned⟩ := d__law_turned
  have F__law_turned := fun_mk (st := s__law_turned) l__law_turned cc__law_turned kk__law_turned
  have b__law_turned := F__law_turned.binds (ps := ["state", "signs", "paper"]) fun _ _ _ _ _ _ us hl => match us, hl with | [_, _, _], _ => rfl
  obtain ⟨f_law, oc_law, od_law, an_law, sl_law, kV_law, dc_law, pm_law, cd_law, ct_law, nn_law, l_law, cc_law, kk_law⟩ := d_law
  have F_law := fun_mk (st := s_law) l_law cc_law kk_law
  have b_law := F_law.binds (ps := ["script"]) fun _ _ _ _ _ _ us hl => match us, hl with | [_], _ => rfl
  have e := hfa.symm.trans (PySem.W.mg_of X G nn_law)
  cases e
  let T : Txt K mg := {
    m_ValueError := PySem.W.mg_none_of X G m_ValueError,
    m_bool := PySem.W.mg_none_of X G m_bool,
    m_enumerate := PySem.W.mg_none_of X G m_enumerate,
    m_int := PySem.W.mg_none_of X G m_int,
    m_isinstance := PySem.W.mg_none_of X G m_isinstance,
    m_len := PySem.W.mg_none_of X G m_len,
    m_list := PySem.W.mg_none_of X G m_list,
    m_max := PySem.W.mg_none_of X G m_max,
    m_min := PySem.W.mg_none_of X G m_min,
    m_range := PySem.W.mg_none_of X G m_range,
    m_set := PySem.W.mg_none_of X G m_set,
    m_sorted := PySem.W.mg_none_of X G m_sorted,
    m_str := PySem.W.mg_none_of X G m_str,
    m_tuple := PySem.W.mg_none_of X G m_tuple,
    t_MOST_RESET := tk_MOST_RESET,
    c_MOST_RESET := PySem.W.mg_of X G q_MOST_RESET,
    a_TooWide := C_TooWide,
    c_TooWide := PySem.W.mg_of X G q_TooWide,
    x_TooWide := x_TooWide,
    k_TooWide := k_TooWide,
    s_TooWide := s_TooWide,
    t_TooWide := t_TooWide,
    e_TooWide_TooWide := PySem.W.exm_ref s_TooWide hd_TooWide t_TooWide se_TooWide,
    ec_TooWide := ⟨ec1_TooWide, ec2_TooWide, s_TooWide, hd_TooWide, ec3_TooWide, ec4_TooWide, ec5_TooWide, ec6_TooWide⟩,
    kt_TooWide_ValueError := kit_type (by decide +kernel) kt_TooWide_ValueError,
    a_least_reset := f_least_reset,
    fd_least_reset := _,
    F_least_reset := F_least_reset,
    g_least_reset := PySem.W.mg_of X G nn_least_reset,
    b_least_reset := b_least_reset,
    a_pair_behind := f_pair_behind,
    fd_pair_behind := _,
    F_pair_behind := F_pair_behind,
    g_pair_behind := PySem.W.mg_of X G nn_pair_behind,
    b_pair_behind := b_pair_behind,
    a_never_meeting := f_never_meeting,
    fd_never_meeting := _,
    F_never_meeting := F_never_meeting,
    g_never_meeting := PySem.W.mg_of X G nn_never_meeting,
    b_never_meeting := b_never_meeting,
    a_reset := f_reset,
    fd_reset := _,
    F_reset := F_reset,
    g_reset := PySem.W.mg_of X G nn_reset,
    b_reset := b_reset,
    a_is_line := f_is_line,
    fd_is_line := _,
    F_is_line := F_is_line,
    g_is_line := PySem.W.mg_of X G nn_is_line,
    b_is_line := b_is_line,
    a_judge_reset := f_judge_reset,
    fd_judge_reset := _,
    F_judge_reset := F_judge_reset,
    g_judge_reset := PySem.W.mg_of X G nn_judge_reset,
    b_judge_reset := b_judge_reset,
    a__law_next := f__law_next,
    fd__law_next := _,
    F__law_next := F__law_next,
    g__law_next := PySem.W.mg_of X G nn__law_next,
    b__law_next := b__law_next,
    a__law_same := f__law_same,
    fd__law_same := _,
    F__law_same := F__law_same,
    g__law_same := PySem.W.mg_of X G nn__law_same,
    b__law_same := b__law_same,
    a__law_signs := f__law_signs,
    fd__law_signs := _,
    F__law_signs := F__law_signs,
    g__law_signs := PySem.W.mg_of X G nn__law_signs,
    b__law_signs := b__law_signs,
    a__law_machine := f__law_machine,
    fd__law_machine := _,
    F__law_machine := F__law_machine,
    g__law_machine := PySem.W.mg_of X G nn__law_machine,
    b__law_machine := b__law_machine,
    a__law_line := f__law_line,
    fd__law_line := _,
    F__law_line := F__law_line,
    g__law_line := PySem.W.mg_of X G nn__law_line,
    b__law_line := b__law_line,
    a__law_row := f__law_row,
    fd__law_row := _,
    F__law_row := F__law_row,
    g__law_row := PySem.W.mg_of X G nn__law_row,
    b__law_row := b__law_row,
    a__law_behind := f__law_behind,
    fd__law_behind := _,
    F__law_behind := F__law_behind,
    g__law_behind := PySem.W.mg_of X G nn__law_behind,
    b__law_behind := b__law_behind,
    a__law_meeting := f__law_meeting,
    fd__law_meeting := _,
    F__law_meeting := F__law_meeting,
    g__law_meeting := PySem.W.mg_of X G nn__law_meeting,
    b__law_meeting := b__law_meeting,
    a__law_least_reset := f__law_least_reset,
    fd__law_least_reset := _,
    F__law_least_reset := F__law_least_reset,
    g__law_least_reset := PySem.W.mg_of X G nn__law_least_reset,
    b__law_least_reset := b__law_least_reset,
    a__law_is_line := f__law_is_line,
    fd__law_is_line := _,
    F__law_is_line := F__law_is_line,
    g__law_is_line := PySem.W.mg_of X G nn__law_is_line,
    b__law_is_line := b__law_is_line,
    a__law_accepts := f__law_accepts,
    fd__law_accepts := _,
    F__law_accepts := F__law_accepts,
    g__law_accepts := PySem.W.mg_of X G nn__law_accepts,
    b__law_accepts := b__law_accepts,
    a__law_turned := f__law_turned,
    fd__law_turned := _,
    F__law_turned := F__law_turned,
    g__law_turned := PySem.W.mg_of X G nn__law_turned,
    b__law_turned := b__law_turned,
    a_law := fa,
    fd_law := _,
    F_law := F_law,
    g_law := PySem.W.mg_of X G nn_law,
    b_law := b_law }
  exact ⟨PySem.W.fnOf "law" "law" (defArgs s_law) (defBody s_law) (defScope s_law) .none kV_law dc_law pm_law an_law cd_law ct_law, fun s v => .of_eq rfl, fun base _ _ => ok_law T fun ns _ => law_run ns⟩
end K66
open PySem PySem.W PyProof.Rows
set_option maxHeartbeats 0 in
theorem PySem.Challenge.cw_gatewhole_k66_resets_and_pairs_that_neve_holds : PySem.Challenge.rw_gatewhole_k66_resets_and_pairs_that_neve.Holds := by
  w_on; o_law; k_head; (case hw => w_witness2)
  k_fill
  refine L2.walk_of (l := PySem.Challenge.rw_gatewhole_k66_resets_and_pairs_that_neve) (n := 63) (k := 8) (x := "script") (CX := fun w => L2.CX PySem.Challenge.rw_gatewhole_k66_resets_and_pairs_that_neve.prog w) (sp := fun w => DL.spLaw _) rfl (by decide) rfl ⟨rfl, by decide, by decide⟩ (fun w h Y => PySem.W.kIn_of Y) ?F (fun _ _ a ns hl _ hS => ⟨a, ns, rfl, hS, hl, fun _ => rfl⟩) (fun _ _ _ _ _ z => by obtain ⟨_, _, _, _, _, _, _, _, _, _, _, _, e⟩ := z; exact e)
  case F =>
    intro w mg fa h KX G hmg
    refine' K66.all_mk KX G hmg ?q_MOST_RESET ?q_TooWide ?x_TooWide ?k_TooWide ?s_TooWide ?t_TooWide ?i_TooWide ?hd_TooWide ?se_TooWide ?ec1_TooWide ?ec2_TooWide ?ec3_TooWide ?ec4_TooWide ?ec5_TooWide ?ec6_TooWide ?kt_TooWide_ValueError ?m_ValueError ?m_bool ?m_enumerate ?m_int ?m_isinstance ?m_len ?m_list ?m_max ?m_min ?m_range ?m_set ?m_sorted ?m_str ?m_tuple ?d_least_reset ?d_pair_behind ?d_never_meeting ?d_reset ?d_is_line ?d_judge_reset ?d__law_next ?d__law_same ?d__law_signs ?d__law_machine ?d__law_line ?d__law_row ?d__law_behind ?d__law_meeting ?d__law_least_reset ?d__law_is_line ?d__law_accepts ?d__law_turned ?d_law
    (case q_MOST_RESET => k_is)
    (case q_TooWide => k_is)
    (case x_TooWide => k_exc)
    (case k_TooWide => k_is)
    (case s_TooWide => k_is)
    (case t_TooWide => k_is)
    (case i_TooWide => k_is)
    (case hd_TooWide => k_is)
    (case se_TooWide => k_is)
    (case ec1_TooWide => k_is)
    (case ec2_TooWide => k_is)
    (case ec3_TooWide => k_is)
    (case ec4_TooWide => k_is)
    (case ec5_TooWide => k_is)
    (case ec6_TooWide => k_is)
    (case kt_TooWide_ValueError => k_is)
    (case m_ValueError => k_is)
    (case m_bool => k_is)
    (case m_enumerate => k_is)
    (case m_int => k_is)
    (case m_isinstance => k_is)
    (case m_len => k_is)
    (case m_list => k_is)
    (case m_max => k_is)
    (case m_min => k_is)
    (case m_range => k_is)
    (case m_set => k_is)
    (case m_sorted => k_is)
    (case m_str => k_is)
    (case m_tuple => k_is)
    (case d_least_reset => (refine' K66.DF.mk' ?a ?l ?c ?k; (case a => k_is); (case l => k_is); (case c => k_is); (case k => k_is)))
    (case d_pair_behind => (refine' K66.DF.mk' ?a ?l ?c ?k; (case a => k_is); (case l => k_is); (case c => k_is); (case k => k_is)))
    (case d_never_meeting => (refine' K66.DF.mk' ?a ?l ?c ?k; (case a => k_is); (case l => k_is); (case c => k_is); (case k => k_is)))
    (case d_reset => (refine' K66.DF.mk' ?a ?l ?c ?k; (case a => k_is); (case l => k_is); (case c => k_is); (case k => k_is)))
    (case d_is_line => (refine' K66.DF.mk' ?a ?l ?c ?k; (case a => k_is); (case l => k_is); (case c => k_is); (case k => k_is)))
    (case d_judge_reset => (refine' K66.DF.mk' ?a ?l ?c ?k; (case a => k_is); (case l => k_is); (case c => k_is); (case k => k_is)))
    (case d__law_next => (refine' K66.DF.mk' ?a ?l ?c ?k; (case a => k_is); (case l => k_is); (case c => k_is); (case k => k_is)))
    (case d__law_same => (refine' K66.DF.mk' ?a ?l ?c ?k; (case a => k_is); (case l => k_is); (case c => k_is); (case k => k_is)))
    (case d__law_signs => (refine' K66.DF.mk' ?a ?l ?c ?k; (case a => k_is); (case l => k_is); (case c => k_is); (case k => k_is)))
    (case d__law_machine => (refine' K66.DF.mk' ?a ?l ?c ?k; (case a => k_is); (case l => k_is); (case c => k_is); (case k => k_is)))
    (case d__law_line => (refine' K66.DF.mk' ?a ?l ?c ?k; (case a => k_is); (case l => k_is); (case c => k_is); (case k => k_is)))
    (case d__law_row => (refine' K66.DF.mk' ?a ?l ?c ?k; (case a => k_is); (case l => k_is); (case c => k_is); (case k => k_is)))
    (case d__law_behind => (refine' K66.DF.mk' ?a ?l ?c ?k; (case a => k_is); (case l => k_is); (case c => k_is); (case k => k_is)))
    (case d__law_meeting => (refine' K66.DF.mk' ?a ?l ?c ?k; (case a => k_is); (case l => k_is); (case c => k_is); (case k => k_is)))
    (case d__law_least_reset => (refine' K66.DF.mk' ?a ?l ?c ?k; (case a => k_is); (case l => k_is); (case c => k_is); (case k => k_is)))
    (case d__law_is_line => (refine' K66.DF.mk' ?a ?l ?c ?k; (case a => k_is); (case l => k_is); (case c => k_is); (case k => k_is)))
    (case d__law_accepts => (refine' K66.DF.mk' ?a ?l ?c ?k; (case a => k_is); (case l => k_is); (case c => k_is); (case k => k_is)))
    (case d__law_turned => (refine' K66.DF.mk' ?a ?l ?c ?k; (case a => k_is); (case l => k_is); (case c => k_is); (case k => k_is)))
    (case d_law => (refine' K66.DF.mk' ?a ?l ?c ?k; (case a => k_is); (case l => k_is); (case c => k_is); (case k => k_is)))
#print axioms PySem.Challenge.cw_gatewhole_k66_resets_and_pairs_that_neve_holds
end
